import Derived.Test.YthaonimonnheeaaMf8
import Derived.Test.YthaonimonnheeaaMf8
import Derived.Test.YthaonimonnheeaaProg
import Derived.KernelRfl
noncomputable section
namespace Mf
open Go
set_option linter.unusedVariables false
set_option linter.unusedSimpArgs false
set_option maxRecDepth 100000
abbrev Xe:Ty:=(.pair .str (.pair (.int .i64) .unit))
abbrev Xc:Type:=(List UInt8)×Int×Unit
def Xh:Xc:=([],0,())
abbrev Xd:Ty:=(.pair (.int .i64) (.pair (.int .i64) (.pair (.int .i64) (.pair (.sl (.int .i64)) (.pair (.sl Xe) .unit)))))
abbrev Xb:Type:=Int×Int×Int×(List Int)×(List Xc)×Unit
def Xa:Xb:=(0,0,0,[],[],())
abbrev Xi:Ty:=(.pair (.sl Xd) (.pair (.sl (.sl (.int .u8))) .unit))
abbrev Fs_:Type:=(List Xb)×(List (List Int))×Unit
def Xjt:Fs_:=([],[],())
abbrev Xem:Ty:=(.pair (.int .i64) (.pair Xi .unit))
abbrev Xgl:Type:=Int×Fs_×Unit
def Xhl:Xgl:=(0,([],[],()),())
abbrev Xk:Ty:=(.pair (.int .i64) (.pair (.sl (.int .i64)) .unit))
abbrev Xp:Type:=Int×(List Int)×Unit
def Xg6:Xp:=(0,[],())
abbrev Xel:Ty:=(.pair Xi (.pair (.sl .bool) (.pair (.sl (.sl Xe)) (.pair (.int .i64) (.pair (.sl (.int .i64)) (.pair (.sl (.int .i64)) .unit))))))
abbrev Xfp:Type:=Fs_×(List Bool)×(List (List Xc))×Int×(List Int)×(List Int)×Unit
def Xjp:Xfp:=(([],[],()),[],[],0,[],[],())
abbrev Xb2:Ty:=(.pair (.int .i64) (.pair (.int .i64) (.pair .bool (.pair (.int .u8) .unit))))
abbrev Xe7:Type:=Int×Int×Bool×Int×Unit
def Xg5:Xe7:=(0,0,false,0,())
abbrev X6:Ty:=(.pair .str (.pair (.int .u64) .unit))
abbrev Xb0:Type:=(List UInt8)×Int×Unit
def Xfi:Xb0:=([],0,())
abbrev PR:Program:=Go.Proofs.Try.prog
def tb:Tb:=[(2,⟨.int .i64,(.int .i64),8⟩),(3,⟨.int .i64,(.int .i64),8⟩),(4,⟨.bool,.bool,1⟩),(5,⟨.int .u8,(.int .u8),1⟩),(6,⟨.int .u8,(.int .u8),1⟩),(7,⟨.st [0,1,2,3],Xb2,24⟩),(8,⟨.st [0,1,2,3],Xb2,24⟩),(9,⟨.str,.str,16⟩),(10,⟨.str,.str,16⟩),(11,⟨.str,.str,16⟩),(12,⟨.int .u64,(.int .u64),8⟩),(13,⟨.st [0,1],X6,24⟩),(14,⟨.st [0,1],X6,24⟩),(21,⟨.int .i32,(.int .i32),4⟩),(22,⟨.sl 66,(.sl Xd),24⟩),(23,⟨.sl 68,(.sl (.sl (.int .u8))),24⟩),(24,⟨.st [0,1],Xi,48⟩),(25,⟨.st [0,1],Xi,48⟩),(27,⟨.sl 2,(.sl (.int .i64)),24⟩),(28,⟨.st [0,1],Xk,32⟩),(29,⟨.st [0,1],Xk,32⟩),(31,⟨.sl 72,(.sl Xd),24⟩),(32,⟨.st [0,1],Xi,48⟩),(33,⟨.st [0,1],Xi,48⟩),(40,⟨.st [0,1],Xem,56⟩),(41,⟨.st [0,1],Xem,56⟩),(64,⟨.sl 110,(.sl Xe),24⟩),(65,⟨.st [0,1,2,3,4],Xd,72⟩),(66,⟨.st [0,1,2,3,4],Xd,72⟩),(68,⟨.sl 5,(.sl (.int .u8)),24⟩),(70,⟨.sl 91,(.sl Xe),24⟩),(71,⟨.st [0,1,2,3,4],Xd,72⟩),(72,⟨.st [0,1,2,3,4],Xd,72⟩),(73,⟨.sl 4,(.sl .bool),24⟩),(80,⟨.sl 70,(.sl (.sl Xe)),24⟩),(81,⟨.st [0,2,3,4,5,6],Xel,152⟩),(82,⟨.st [0,2,3,4,5,6],Xel,152⟩),(84,⟨.arr 20 2,(.arr 20 (.int .i64)),160⟩),(90,⟨.st [0,1],Xe,24⟩),(91,⟨.st [0,1],Xe,24⟩),(110,⟨.st [0,1],Xe,24⟩),(127,⟨.int .u32,(.int .u32),4⟩),(128,⟨.int .u8,(.int .u8),1⟩),(129,⟨.int .u8,(.int .u8),1⟩),(132,⟨.int .i32,(.int .i32),4⟩),(133,⟨.int .i32,(.int .i32),4⟩)]
theorem Xg:Yah Go.Proofs.Try.prog tb:=Yxa (by kernel_rfl)
theorem Xf:Go.Proofs.Try.prog.follows .mixedOrders=true:=by kernel_rfl
def Zq0 (a:List Int) (left:Int):Option Int:=
 cond (decide ((w64 (left-(a.length:Int)))<0)) (some (-1)) (some (w64 (left-(a.length:Int))))
namespace Zq0
def pts:List PT:=[.cs SI,.cs I64]
def FS:FS:=Ybn [.sh,.sh] pts (fun x=>Zq0 x.1 x.2.1) fun t=>⟨[.cs I64 t],[]⟩
theorem ok:Yb5 PR 60 FS:=
 Yxj Xg Xf Proofs.Try.f60 h0 .no (G:=(mkG [])) .nil (L:=mkL []) (l:=[]) hT
  (fun x=>by simp only[Zq0,mC,mB,mS,mO,mN];kernel_rfl)
end Zq0
def Zq1 (a:Xc) (left:Int):Option Int:=
 cond (decide ((w64 (left-(a.1.length:Int)))<0)) (some (-1)) (some (w64 (left-(a.1.length:Int))))
namespace Zq1
def pts:List PT:=[.cs Xe,.cs I64]
def FS:FS:=Ybn [.sh,.sh] pts (fun x=>Zq1 x.1 x.2.1) fun t=>⟨[.cs I64 t],[]⟩
theorem ok:Yb5 PR 79 FS:=
 Yxj Xg Xf Proofs.Try.f79 ⟨[2],[],[],0⟩ .no (G:=(mkG [])) .nil (L:=mkL []) (l:=[]) hT
  (fun x=>by simp only[Zq1,mC,mB,mS,mO,mN];kernel_rfl)
end Zq1
def Zq2.B (a:List Xc) (left_:Int) (i_:Int):Option ((Int×Int)⊕((Int⊕Int))):=
 cond (decide (i_<(a.length:Int))) (cond (inB i_ a.length) ((Zq1 (a.getD i_.toNat Xh) left_).bind fun r=>cond (decide (r<0)) (some (.inr (.inl (-1)))) (some (.inl (r,w64 (i_+1))))) none) (some (.inr (.inr left_)))
def Zq2 (a:List Xc):(Int×Int)→Option ((Int⊕Int)):=
 Y9 fun s=>Zq2.B a s.1 s.2
def Zq3 (a:List Xc) (left:Int):Option Int:=
 cond (decide ((w64 (left-(a.length:Int)))<0)) (some (-1)) ((Zq2 a (w64 (left-(a.length:Int)),0)).bind fun o=>sel o (fun b=>some b) (fun c=>some c))
namespace Zq3
def G:Gam:=mkG [(79,Zq1.FS)]
theorem Gok:GOk PR G:=.cons Zq1.ok .nil
end Zq3
namespace Zq2
def c:=Yap (Yag Proofs.Try.f61) [1,1,1,0,1,0,0]
def sp:SP:=⟨[(0,.cs (.sl Xe)),(1,.cs I64),(5,.cs I64)],[]⟩
def fr:=Yjc sp (fun x s=>Zq2.B x.1.1 s.1 s.2) (fun x=>(x.1.2.1,x.1.2.2.1)) fun x (oo0:(Int⊕Int)) _ kk0=>sel oo0 (fun bb0=>kk0 (.rt) ⟨[(4,.cs I64 bb0)],[]⟩) (fun cc0=>kk0 (.ex 0) ⟨[(1,.cs I64 cc0)],[]⟩)
theorem ok:Ya5 PR 27 2 (.loop c) fr:=
 Ytf Xg Xf h0 .no (G:=Zq3.G) Zq3.Gok (L:=mkL []) (l:=[]) hT [(0,([1],[]))] ([4],[]) (fun x s=>((x.1.1,s.1,s.2,x.1.2.2.2),x.2))
  (fun x s=>by simp only[B,mC,mB,mS,mO,mN];kernel_rfl)
end Zq2
namespace Zq3
def pts:List PT:=[.cs (.sl Xe),.cs I64]
def FS:FS:=Ybn [.sh,.sh] pts (fun x=>Zq3 x.1 x.2.1) fun t=>⟨[.cs I64 t],[]⟩
theorem ok:Yb5 PR 61 FS:=
 Yxj Xg Xf Proofs.Try.f61 h0 (.R (.R (.R (.L (.R (.one (.fr 0))))))) (G:=G) Gok (L:=mkL [(0,Zq2.fr)]) (l:=[(0,.loop Zq2.c)]) ⟨Lam.cons Zq2.ok,trivial⟩
  (fun x=>by simp only[Zq3,mC,mB,mS,mO,mN];kernel_rfl)
end Zq3
def Zq4 (a:Xb) (left:Int):Option Int:=
 (Zq0 a.2.2.2.1 left).bind fun r=>cond (decide (r<0)) (some (-1)) ((Zq3 a.2.2.2.2.1 r).bind fun r2=>cond (decide (r2<0)) (some (-1)) (some r2))
namespace Zq4
def G:Gam:=mkG [(60,Zq0.FS),(61,Zq3.FS)]
def pts:List PT:=[.cs Xd,.cs I64]
def FS:FS:=Ybn [.sh,.sh] pts (fun x=>Zq4 x.1 x.2.1) fun t=>⟨[.cs I64 t],[]⟩
theorem ok:Yb5 PR 37 FS:=
 Yxj Xg Xf Proofs.Try.f37 ⟨[2],[],[],0⟩ .no (G:=G) (show GOk PR G from .cons Zq0.ok (.cons Zq3.ok .nil)) (L:=mkL []) (l:=[]) hT
  (fun x=>by simp only[Zq4,mC,mB,mS,mO,mN];kernel_rfl)
end Zq4
def Zq5.B (a:List Xb) (left_:Int) (i_:Int):Option ((Int×Int)⊕((Int⊕Int))):=
 cond (decide (i_<(a.length:Int))) (cond (inB i_ a.length) ((Zq4 (a.getD i_.toNat Xa) left_).bind fun r=>cond (decide (r<0)) (some (.inr (.inl (-1)))) (some (.inl (r,w64 (i_+1))))) none) (some (.inr (.inr left_)))
def Zq5 (a:List Xb):(Int×Int)→Option ((Int⊕Int)):=
 Y9 fun s=>Zq5.B a s.1 s.2
def Zq6 (a:List Xb) (left:Int):Option Int:=
 cond (decide ((w64 (left-(a.length:Int)))<0)) (some (-1)) ((Zq5 a (w64 (left-(a.length:Int)),0)).bind fun o=>sel o (fun b=>some b) (fun c=>some c))
namespace Zq6
def G:Gam:=mkG [(37,Zq4.FS)]
theorem Gok:GOk PR G:=.cons Zq4.ok .nil
end Zq6
namespace Zq5
def c:=Yap (Yag Proofs.Try.f19) [1,1,1,0,1,0,0]
def sp:SP:=⟨[(0,.cs (.sl Xd)),(1,.cs I64),(5,.cs I64)],[]⟩
def fr:=Yjc sp (fun x s=>Zq5.B x.1.1 s.1 s.2) (fun x=>(x.1.2.1,x.1.2.2.1)) fun x (oo0:(Int⊕Int)) _ kk0=>sel oo0 (fun bb0=>kk0 (.rt) ⟨[(4,.cs I64 bb0)],[]⟩) (fun cc0=>kk0 (.ex 0) ⟨[(1,.cs I64 cc0)],[]⟩)
theorem ok:Ya5 PR 27 2 (.loop c) fr:=
 Ytf Xg Xf h0 .no (G:=Zq6.G) Zq6.Gok (L:=mkL []) (l:=[]) hT [(0,([1],[]))] ([4],[]) (fun x s=>((x.1.1,s.1,s.2,x.1.2.2.2),x.2))
  (fun x s=>by simp only[B,mC,mB,mS,mO,mN];kernel_rfl)
end Zq5
namespace Zq6
def pts:List PT:=[.cs (.sl Xd),.cs I64]
def FS:FS:=Ybn [.sh,.sh] pts (fun x=>Zq6 x.1 x.2.1) fun t=>⟨[.cs I64 t],[]⟩
theorem ok:Yb5 PR 19 FS:=
 Yxj Xg Xf Proofs.Try.f19 h0 (.R (.R (.R (.L (.R (.one (.fr 0))))))) (G:=G) Gok (L:=mkL [(0,Zq5.fr)]) (l:=[(0,.loop Zq5.c)]) ⟨Lam.cons Zq5.ok,trivial⟩
  (fun x=>by simp only[Zq6,mC,mB,mS,mO,mN];kernel_rfl)
end Zq6
def Zq7 (a:List Int) (left:Int):Option Int:=
 cond (decide ((w64 (left-(a.length:Int)))<0)) (some (-1)) (some (w64 (left-(a.length:Int))))
namespace Zq7
def pts:List PT:=[.cs SB,.cs I64]
def FS:FS:=Ybn [.sh,.sh] pts (fun x=>Zq7 x.1 x.2.1) fun t=>⟨[.cs I64 t],[]⟩
theorem ok:Yb5 PR 38 FS:=
 Yxj Xg Xf Proofs.Try.f38 h0 .no (G:=(mkG [])) .nil (L:=mkL []) (l:=[]) hT
  (fun x=>by simp only[Zq7,mC,mB,mS,mO,mN];kernel_rfl)
end Zq7
def Zq8.B (a:List (List Int)) (left_:Int) (i_:Int):Option ((Int×Int)⊕((Int⊕Int))):=
 cond (decide (i_<(a.length:Int))) (cond (inB i_ a.length) ((Zq7 (a.getD i_.toNat []) left_).bind fun r=>cond (decide (r<0)) (some (.inr (.inl (-1)))) (some (.inl (r,w64 (i_+1))))) none) (some (.inr (.inr left_)))
def Zq8 (a:List (List Int)):(Int×Int)→Option ((Int⊕Int)):=
 Y9 fun s=>Zq8.B a s.1 s.2
def Zq9 (a:List (List Int)) (left:Int):Option Int:=
 cond (decide ((w64 (left-(a.length:Int)))<0)) (some (-1)) ((Zq8 a (w64 (left-(a.length:Int)),0)).bind fun o=>sel o (fun b=>some b) (fun c=>some c))
namespace Zq9
def G:Gam:=mkG [(38,Zq7.FS)]
theorem Gok:GOk PR G:=.cons Zq7.ok .nil
end Zq9
namespace Zq8
def c:=Yap (Yag Proofs.Try.f20) [1,1,1,0,1,0,0]
def sp:SP:=⟨[(0,.cs (.sl SB)),(1,.cs I64),(5,.cs I64)],[]⟩
def fr:=Yjc sp (fun x s=>Zq8.B x.1.1 s.1 s.2) (fun x=>(x.1.2.1,x.1.2.2.1)) fun x (oo0:(Int⊕Int)) _ kk0=>sel oo0 (fun bb0=>kk0 (.rt) ⟨[(4,.cs I64 bb0)],[]⟩) (fun cc0=>kk0 (.ex 0) ⟨[(1,.cs I64 cc0)],[]⟩)
theorem ok:Ya5 PR 27 2 (.loop c) fr:=
 Ytf Xg Xf h0 .no (G:=Zq9.G) Zq9.Gok (L:=mkL []) (l:=[]) hT [(0,([1],[]))] ([4],[]) (fun x s=>((x.1.1,s.1,s.2,x.1.2.2.2),x.2))
  (fun x s=>by simp only[B,mC,mB,mS,mO,mN];kernel_rfl)
end Zq8
namespace Zq9
def pts:List PT:=[.cs (.sl SB),.cs I64]
def FS:FS:=Ybn [.sh,.sh] pts (fun x=>Zq9 x.1 x.2.1) fun t=>⟨[.cs I64 t],[]⟩
theorem ok:Yb5 PR 20 FS:=
 Yxj Xg Xf Proofs.Try.f20 h0 (.R (.R (.R (.L (.R (.one (.fr 0))))))) (G:=G) Gok (L:=mkL [(0,Zq8.fr)]) (l:=[(0,.loop Zq8.c)]) ⟨Lam.cons Zq8.ok,trivial⟩
  (fun x=>by simp only[Zq9,mC,mB,mS,mO,mN];kernel_rfl)
end Zq9
def Xe6 (a:Fs_) (left:Int):Option Int:=
 (Zq6 a.1 left).bind fun r=>cond (decide (r<0)) (some (-1)) ((Zq9 a.2.1 r).bind fun r2=>cond (decide (r2<0)) (some (-1)) (some r2))
namespace Xe6
def G:Gam:=mkG [(19,Zq6.FS),(20,Zq9.FS)]
def pts:List PT:=[.cs Xi,.cs I64]
def FS:FS:=Ybn [.sh,.sh] pts (fun x=>Xe6 x.1 x.2.1) fun t=>⟨[.cs I64 t],[]⟩
theorem ok:Yb5 PR 5 FS:=
 Yxj Xg Xf Proofs.Try.f5 ⟨[2],[],[],0⟩ .no (G:=G) (show GOk PR G from .cons Zq6.ok (.cons Zq9.ok .nil)) (L:=mkL []) (l:=[]) hT
  (fun x=>by simp only[Xe6,mC,mB,mS,mO,mN];kernel_rfl)
end Xe6
def Xdr.B (a:List Int) (i_:Int) (out_:List Int):Option ((Int×List Int)⊕(List Int)):=
 cond (decide (i_<(a.length:Int))) (cond (inB i_ a.length) (cond (inB i_ out_.length) (some (.inl (w64 (i_+1),out_.set i_.toNat (a.getD i_.toNat 0)))) none) none) (some (.inr out_))
def Xdr (a:List Int):(Int×List Int)→Option (List Int):=
 Y9 fun s=>Xdr.B a s.1 s.2
def Xfh (a:List Int):Option (List Int):=
 cond (decide ((0:Int)≤(a.length:Int))&&(decide ((a.length:Int)≤(a.length:Int))&&decide ((a.length:Int)≤2147483648))) ((Xdr a (0,List.replicate (a.length:Int).toNat 0)).bind fun o=>some o) none
namespace Xdr
def c:=Yap (Yag Proofs.Try.f68) [1,1,0,1,0,0]
def sp:SP:=⟨[(0,.cs SI),(3,.seg 3 []),(4,.cs I64)],[(3,.reg,.cd SI)]⟩
def fr:=Yjc sp (fun x s=>Xdr.B x.1.1 s.1 s.2) (fun x=>(x.1.2.2.1,x.2.1)) fun x (bb0:List Int) _ kk0=>kk0 (.ex 0) ⟨[(3,.seg 3 [])],[sr 3 (.cd SI bb0)]⟩
theorem ok:Ya5 PR 22 1 (.loop c) fr:=
 Yw4 Xg Xf h0 [(0,([3],[3]))] (fun x s=>((x.1.1,x.1.2.1,s.1,x.1.2.2.2),(s.2,x.2.2)))
  (fun x s=>by simp only[B,mC,mB,mS,mO,mN];kernel_rfl)
end Xdr
namespace Xfh
def pts:List PT:=[.cs SI]
def FS:FS:=Ybn [.sh] pts (fun x=>Xfh x.1) fun t=>⟨[.cd SI t],[]⟩
theorem ok:Yb5 PR 68 FS:=
 Yxj Xg Xf Proofs.Try.f68 h0 (.R (.R (.L (.R (.one (.fr 0)))))) (G:=(mkG [])) .nil (L:=mkL [(0,Xdr.fr)]) (l:=[(0,.loop Xdr.c)]) ⟨Lam.cons Xdr.ok,trivial⟩
  (fun x=>by simp only[Xfh,mC,mB,mS,mO,mN];kernel_rfl)
end Xfh
def Xe1 (a:Xc):Option Xc:=
 some (a.1,a.2.1,())
namespace Xe1
def pts:List PT:=[.cs Xe]
def FS:FS:=Ybn [.sh] pts (fun x=>Xe1 x.1) fun t=>⟨[.cs Xe t],[]⟩
theorem ok:Yb5 PR 84 FS:=
 Yxj Xg Xf Proofs.Try.f84 ⟨[1],[],[],0⟩ .no (G:=(mkG [])) .nil (L:=mkL []) (l:=[]) hT
  (fun x=>by simp only[Xe1,mC,mB,mS,mO,mN];kernel_rfl)
end Xe1
def Xdn.B (a:List Xc) (i_:Int) (out_:List Xc):Option ((Int×List Xc)⊕(List Xc)):=
 cond (decide (i_<(a.length:Int))) (cond (inB i_ a.length) ((Xe1 (a.getD i_.toNat Xh)).bind fun r=>cond (inB i_ out_.length) (some (.inl (w64 (i_+1),out_.set i_.toNat r))) none) none) (some (.inr out_))
def Xdn (a:List Xc):(Int×List Xc)→Option (List Xc):=
 Y9 fun s=>Xdn.B a s.1 s.2
def Xdw (a:List Xc):Option (List Xc):=
 cond (decide ((0:Int)≤(a.length:Int))&&(decide ((a.length:Int)≤(a.length:Int))&&decide ((a.length:Int)≤2147483648))) ((Xdn a (0,List.replicate (a.length:Int).toNat Xh)).bind fun o=>some o) none
namespace Xdw
def G:Gam:=mkG [(84,Xe1.FS)]
theorem Gok:GOk PR G:=.cons Xe1.ok .nil
end Xdw
namespace Xdn
def c:=Yap (Yag Proofs.Try.f69) [1,1,0,1,0,0]
def sp:SP:=⟨[(0,.cs (.sl Xe)),(3,.seg 3 []),(4,.cs I64)],[(3,.reg,.cd (.sl Xe))]⟩
def fr:=Yjc sp (fun x s=>Xdn.B x.1.1 s.1 s.2) (fun x=>(x.1.2.2.1,x.2.1)) fun x (bb0:List Xc) _ kk0=>kk0 (.ex 0) ⟨[(3,.seg 3 [])],[sr 3 (.cd (.sl Xe) bb0)]⟩
theorem ok:Ya5 PR 23 1 (.loop c) fr:=
 Yxl Xg Xf h0 (G:=Xdw.G) Xdw.Gok [(0,([3],[3]))] (fun x s=>((x.1.1,x.1.2.1,s.1,x.1.2.2.2),(s.2,x.2.2)))
  (fun x s=>by simp only[B,mC,mB,mS,mO,mN];kernel_rfl)
end Xdn
namespace Xdw
def pts:List PT:=[.cs (.sl Xe)]
def FS:FS:=Ybn [.sh] pts (fun x=>Xdw x.1) fun t=>⟨[.cd (.sl Xe) t],[]⟩
theorem ok:Yb5 PR 69 FS:=
 Yxj Xg Xf Proofs.Try.f69 h0 (.R (.R (.L (.R (.one (.fr 0)))))) (G:=G) Gok (L:=mkL [(0,Xdn.fr)]) (l:=[(0,.loop Xdn.c)]) ⟨Lam.cons Xdn.ok,trivial⟩
  (fun x=>by simp only[Xdw,mC,mB,mS,mO,mN];kernel_rfl)
end Xdw
def Xe5 (a:Xb):Option Xb:=
 (Xfh a.2.2.2.1).bind fun r=>(Xdw a.2.2.2.2.1).bind fun r2=>some (a.1,a.2.1,a.2.2.1,r,r2,())
namespace Xe5
def G:Gam:=mkG [(68,Xfh.FS),(69,Xdw.FS)]
def pts:List PT:=[.cs Xd]
def FS:FS:=Ybn [.sh] pts (fun x=>Xe5 x.1) fun t=>⟨[.cd Xd t],[]⟩
theorem ok:Yb5 PR 43 FS:=
 Yxj Xg Xf Proofs.Try.f43 ⟨[1],[],[],0⟩ .no (G:=G) (show GOk PR G from .cons Xfh.ok (.cons Xdw.ok .nil)) (L:=mkL []) (l:=[]) hT
  (fun x=>by simp only[Xe5,mC,mB,mS,mO,mN];kernel_rfl)
end Xe5
def Xdh.B (a:List Xb) (i_:Int) (out_:List Xb):Option ((Int×List Xb)⊕(List Xb)):=
 cond (decide (i_<(a.length:Int))) (cond (inB i_ a.length) ((Xe5 (a.getD i_.toNat Xa)).bind fun r=>cond (inB i_ out_.length) ((some (out_.set i_.toNat (r.1,r.2.1,r.2.2.1,r.2.2.2.1,r.2.2.2.2.1,r.2.2.2.2.2))).bind fun out_2=>some (.inl (w64 (i_+1),out_2))) none) none) (some (.inr out_))
def Xdh (a:List Xb):(Int×List Xb)→Option (List Xb):=
 Y9 fun s=>Xdh.B a s.1 s.2
def Xde (a:List Xb):Option (List Xb):=
 cond (decide ((0:Int)≤(a.length:Int))&&(decide ((a.length:Int)≤(a.length:Int))&&decide ((a.length:Int)≤2147483648))) ((Xdh a (0,List.replicate (a.length:Int).toNat Xa)).bind fun o=>some o) none
namespace Xde
def G:Gam:=mkG [(43,Xe5.FS)]
theorem Gok:GOk PR G:=.cons Xe5.ok .nil
end Xde
namespace Xdh
def c:=Yap (Yag Proofs.Try.f23) [1,1,0,1,0,0]
def sp:SP:=⟨[(0,.cs (.sl Xd)),(3,.seg 3 []),(4,.cs I64)],[(3,.reg,.cd (.sl Xd))]⟩
def fr:=Yjc sp (fun x s=>Xdh.B x.1.1 s.1 s.2) (fun x=>(x.1.2.2.1,x.2.1)) fun x (bb0:List Xb) _ kk0=>kk0 (.ex 0) ⟨[(3,.seg 3 [])],[sr 3 (.cd (.sl Xd) bb0)]⟩
theorem ok:Ya5 PR 23 1 (.loop c) fr:=
 Yxl Xg Xf h0 (G:=Xde.G) Xde.Gok [(0,([3],[3]))] (fun x s=>((x.1.1,x.1.2.1,s.1,x.1.2.2.2),(s.2,x.2.2)))
  (fun x s=>by simp only[B,mC,mB,mS,mO,mN];kernel_rfl)
end Xdh
namespace Xde
def pts:List PT:=[.cs (.sl Xd)]
def FS:FS:=Ybn [.sh] pts (fun x=>Xde x.1) fun t=>⟨[.cd (.sl Xd) t],[]⟩
theorem ok:Yb5 PR 23 FS:=
 Yxj Xg Xf Proofs.Try.f23 h0 (.R (.R (.L (.R (.one (.fr 0)))))) (G:=G) Gok (L:=mkL [(0,Xdh.fr)]) (l:=[(0,.loop Xdh.c)]) ⟨Lam.cons Xdh.ok,trivial⟩
  (fun x=>by simp only[Xde,mC,mB,mS,mO,mN];kernel_rfl)
end Xde
def Xdg.B (a:List Int) (i_:Int) (out_:List Int):Option ((Int×List Int)⊕(List Int)):=
 cond (decide (i_<(a.length:Int))) (cond (inB i_ a.length) (cond (inB i_ out_.length) (some (.inl (w64 (i_+1),out_.set i_.toNat (a.getD i_.toNat 0)))) none) none) (some (.inr out_))
def Xdg (a:List Int):(Int×List Int)→Option (List Int):=
 Y9 fun s=>Xdg.B a s.1 s.2
def Xex (a:List Int):Option (List Int):=
 cond (decide ((0:Int)≤(a.length:Int))&&(decide ((a.length:Int)≤(a.length:Int))&&decide ((a.length:Int)≤2147483648))) ((Xdg a (0,List.replicate (a.length:Int).toNat 0)).bind fun o=>some o) none
namespace Xdg
def c:=Yap (Yag Proofs.Try.f44) [1,1,0,1,0,0]
def sp:SP:=⟨[(0,.cs SB),(3,.seg 3 []),(4,.cs I64)],[(3,.reg,.cd SB)]⟩
def fr:=Yjc sp (fun x s=>Xdg.B x.1.1 s.1 s.2) (fun x=>(x.1.2.2.1,x.2.1)) fun x (bb0:List Int) _ kk0=>kk0 (.ex 0) ⟨[(3,.seg 3 [])],[sr 3 (.cd SB bb0)]⟩
theorem ok:Ya5 PR 22 1 (.loop c) fr:=
 Yw4 Xg Xf h0 [(0,([3],[3]))] (fun x s=>((x.1.1,x.1.2.1,s.1,x.1.2.2.2),(s.2,x.2.2)))
  (fun x s=>by simp only[B,mC,mB,mS,mO,mN];kernel_rfl)
end Xdg
namespace Xex
def pts:List PT:=[.cs SB]
def FS:FS:=Ybn [.sh] pts (fun x=>Xex x.1) fun t=>⟨[.cd SB t],[]⟩
theorem ok:Yb5 PR 44 FS:=
 Yxj Xg Xf Proofs.Try.f44 h0 (.R (.R (.L (.R (.one (.fr 0)))))) (G:=(mkG [])) .nil (L:=mkL [(0,Xdg.fr)]) (l:=[(0,.loop Xdg.c)]) ⟨Lam.cons Xdg.ok,trivial⟩
  (fun x=>by simp only[Xex,mC,mB,mS,mO,mN];kernel_rfl)
end Xex
def Xc6.B (a:List (List Int)) (i_:Int) (out_:List (List Int)):Option ((Int×List (List Int))⊕(List (List Int))):=
 cond (decide (i_<(a.length:Int))) (cond (inB i_ a.length) ((Xex (a.getD i_.toNat [])).bind fun r=>cond (inB i_ out_.length) (some (.inl (w64 (i_+1),out_.set i_.toNat r))) none) none) (some (.inr out_))
def Xc6 (a:List (List Int)):(Int×List (List Int))→Option (List (List Int)):=
 Y9 fun s=>Xc6.B a s.1 s.2
def Xdb (a:List (List Int)):Option (List (List Int)):=
 cond (decide ((0:Int)≤(a.length:Int))&&(decide ((a.length:Int)≤(a.length:Int))&&decide ((a.length:Int)≤2147483648))) ((some (List.replicate (a.length:Int).toNat ([]:List Int))).bind fun v=>(Xc6 a (0,v)).bind fun o=>some o) none
namespace Xdb
def G:Gam:=mkG [(44,Xex.FS)]
theorem Gok:GOk PR G:=.cons Xex.ok .nil
end Xdb
namespace Xc6
def c:=Yap (Yag Proofs.Try.f24) [1,1,0,1,0,0]
def sp:SP:=⟨[(0,.cs (.sl SB)),(3,.seg 3 []),(4,.cs I64)],[(3,.reg,.cd (.sl SB))]⟩
def fr:=Yjc sp (fun x s=>Xc6.B x.1.1 s.1 s.2) (fun x=>(x.1.2.2.1,x.2.1)) fun x (bb0:List (List Int)) _ kk0=>kk0 (.ex 0) ⟨[(3,.seg 3 [])],[sr 3 (.cd (.sl SB) bb0)]⟩
theorem ok:Ya5 PR 23 1 (.loop c) fr:=
 Yxl Xg Xf h0 (G:=Xdb.G) Xdb.Gok [(0,([3],[3]))] (fun x s=>((x.1.1,x.1.2.1,s.1,x.1.2.2.2),(s.2,x.2.2)))
  (fun x s=>by simp only[B,mC,mB,mS,mO,mN];kernel_rfl)
end Xc6
namespace Xdb
def pts:List PT:=[.cs (.sl SB)]
def FS:FS:=Ybn [.sh] pts (fun x=>Xdb x.1) fun t=>⟨[.cd (.sl SB) t],[]⟩
theorem ok:Yb5 PR 24 FS:=
 Yxj Xg Xf Proofs.Try.f24 h0 (.R (.R (.L (.R (.one (.fr 0)))))) (G:=G) Gok (L:=mkL [(0,Xc6.fr)]) (l:=[(0,.loop Xc6.c)]) ⟨Lam.cons Xc6.ok,trivial⟩
  (fun x=>by simp only[Xdb,mC,mB,mS,mO,mN];kernel_rfl)
end Xdb
def Xd7 (a:Fs_):Option Fs_:=
 (Xde a.1).bind fun r=>(Xdb a.2.1).bind fun r2=>some (r,r2,())
namespace Xd7
def G:Gam:=mkG [(23,Xde.FS),(24,Xdb.FS)]
def pts:List PT:=[.cs Xi]
def FS:FS:=Ybn [.sh] pts (fun x=>Xd7 x.1) fun t=>⟨[.cd Xi t],[]⟩
theorem ok:Yb5 PR 7 FS:=
 Yxj Xg Xf Proofs.Try.f7 ⟨[1],[],[],0⟩ .no (G:=G) (show GOk PR G from .cons Xde.ok (.cons Xdb.ok .nil)) (L:=mkL []) (l:=[]) hT
  (fun x=>by simp only[Xd7,mC,mB,mS,mO,mN];kernel_rfl)
end Xd7
def Xas (v:Int) (v2:Int) (v3:Int):Option Bool:=
 some (cond (decide (v≥v2)) (decide (v≤v3)) false)
namespace Xas
def pts:List PT:=[.cs I64,.cs I64,.cs I64]
def FS:FS:=Ybn [.sh,.sh,.sh] pts (fun x=>Xas x.1 x.2.1 x.2.2.1) fun t=>⟨[.cs .bool t],[]⟩
theorem ok:Yb5 PR 80 FS:=
 Yxj Xg Xf Proofs.Try.f80 h0 .no (G:=(mkG [])) .nil (L:=mkL []) (l:=[]) hT
  (fun x=>by simp only[Xas,mC,mB,mS,mO,mN];kernel_rfl)
end Xas
def Xf2 (v:Int):Option Bool:=
 (Xas v 0 32).bind fun v2=>some v2
namespace Xf2
def G:Gam:=mkG [(80,Xas.FS)]
def pts:List PT:=[.cs I64]
def FS:FS:=Ybn [.sh] pts (fun x=>Xf2 x.1) fun t=>⟨[.cs .bool t],[]⟩
theorem ok:Yb5 PR 90 FS:=
 Yxj Xg Xf Proofs.Try.f90 h0 .no (G:=G) (show GOk PR G from .cons Xas.ok .nil) (L:=mkL []) (l:=[]) hT
  (fun x=>by simp only[Xf2,mC,mB,mS,mO,mN];kernel_rfl)
end Xf2
def Xf4 (v:Int):Option Int:=
 cond (!((8:Int) == 0)) (some (w64 ((w64 ((w64 (v+8))-1)).tdiv 8))) none
namespace Xf4
def pts:List PT:=[.cs I64]
def FS:FS:=Ybn [.sh] pts (fun x=>Xf4 x.1) fun t=>⟨[.cs I64 t],[]⟩
theorem ok:Yb5 PR 91 FS:=
 Yxj Xg Xf Proofs.Try.f91 h0 .no (G:=(mkG [])) .nil (L:=mkL []) (l:=[]) hT
  (fun x=>by simp only[Xf4,mC,mB,mS,mO,mN];kernel_rfl)
end Xf4
def Xed.B (v:Xb) (v5:Int):Option (Int⊕((Int⊕Unit))):=
 cond (decide (v5<(v.2.2.2.1.length:Int))) (cond (inB v5 v.2.2.2.1.length) ((Xas (v.2.2.2.1.getD v5.toNat 0) 0 19).bind fun v6=>cond (!v6) (some (.inr (.inl 3))) (some (.inl (w64 (v5+1))))) none) (some (.inr (.inr ())))
def Xed (v:Xb):Int→Option ((Int⊕Unit)):=
 Y9 fun s=>Xed.B v s
def Xcq.B (v:Xb) (v10:Int) (v11:Int):Option (Int⊕((Int⊕Unit))):=
 cond (decide (v11<v10)) (cond (inB v11 v.2.2.2.1.length) (cond (inB v10 v.2.2.2.1.length) ((some ((v.2.2.2.1.getD v11.toNat 0) == (v.2.2.2.1.getD v10.toNat 0))).bind fun v12=>cond v12 (some (.inr (.inl 7))) (some (.inl (w64 (v11+1))))) none) none) (some (.inr (.inr ())))
def Xcq (v:Xb) (v10:Int):Int→Option ((Int⊕Unit)):=
 Y9 fun s=>Xcq.B v v10 s
def Xdk.B (v:Xb) (v10:Int):Option (Int⊕((Int⊕Unit))):=
 cond (decide (v10<(v.2.2.2.1.length:Int))) ((Xcq v v10 0).bind fun v13=>sel v13 (fun v14=>some (.inr (.inl v14))) (fun v15=>some (.inl (w64 (v10+1))))) (some (.inr (.inr ())))
def Xdk (v:Xb):Int→Option ((Int⊕Unit)):=
 Y9 fun s=>Xdk.B v s
def Xbr (v:Xb):Option Int:=
 (Xas v.2.1 1 60).bind fun v2=>cond (!v2) (some 3) ((Xf2 v.2.2.1).bind fun v3=>cond (!v3) (some 3) ((Xf4 v.2.2.1).bind fun v4=>cond ((v.2.2.2.1.length:Int) != v4) (some 1) ((Xed v 0).bind fun v7=>sel v7 (fun v8=>some v8) (fun v9=>(Xdk v 0).bind fun v16=>sel v16 (fun v17=>some v17) (fun v18=>some 0)))))
namespace Xbr
def G:Gam:=mkG [(80,Xas.FS),(90,Xf2.FS),(91,Xf4.FS)]
theorem Gok:GOk PR G:=.cons Xas.ok (.cons Xf2.ok (.cons Xf4.ok .nil))
end Xbr
namespace Xed
def c:=Yap (Yag Proofs.Try.f81) [1,1,1,0,1,0,0]
def sp:SP:=⟨[(0,.pt Xd),(3,.cs I64)],[]⟩
def fr:=Yjc sp (fun x s=>Xed.B x.1.1 s) (fun x=>x.1.2.1) fun x (oo0:(Int⊕Unit)) _ kk0=>sel oo0 (fun bb0=>kk0 (.rt) ⟨[(2,.cs I64 bb0)],[]⟩) (fun cc0=>kk0 (.ex 0) ⟨[(0,.pt Xd x.1.1)],[]⟩)
theorem ok:Ya5 PR 78 1 (.loop c) fr:=
 Ytf Xg Xf h0 .no (G:=Xbr.G) Xbr.Gok (L:=mkL []) (l:=[]) hT [(0,([0],[]))] ([2],[]) (fun x s=>((x.1.1,s,x.1.2.2),x.2))
  (fun x s=>by simp only[B,mC,mB,mS,mO,mN];kernel_rfl)
end Xed
namespace Xcq
def c:=Yap (Yag Proofs.Try.f81) [1,1,1,1,0,1,0,0,1,0,0,1,0,0]
def sp:SP:=⟨[(0,.pt Xd),(4,.cs I64),(5,.cs I64)],[]⟩
def fr:=Yjc sp (fun x s=>Xcq.B x.1.1 x.1.2.1 s) (fun x=>x.1.2.2.1) fun x (oo0:(Int⊕Unit)) _ kk0=>sel oo0 (fun bb0=>kk0 (.rt) ⟨[(2,.cs I64 bb0)],[]⟩) (fun cc0=>kk0 (.ex 4) ⟨[(0,.pt Xd x.1.1),(4,.cs I64 x.1.2.1)],[]⟩)
theorem ok:Ya5 PR 78 1 (.loop c) fr:=
 Ytf Xg Xf h0 .no (G:=Xbr.G) Xbr.Gok (L:=mkL []) (l:=[]) hT [(4,([0,4],[]))] ([2],[]) (fun x s=>((x.1.1,x.1.2.1,s,x.1.2.2.2),x.2))
  (fun x s=>by simp only[B,mC,mB,mS,mO,mN];kernel_rfl)
end Xcq
namespace Xdk
def c:=Yap (Yag Proofs.Try.f81) [1,1,1,1,0,1,0,0]
def sp:SP:=⟨[(0,.pt Xd),(4,.cs I64)],[]⟩
def fr:=Yjc sp (fun x s=>Xdk.B x.1.1 s) (fun x=>x.1.2.1) fun x (oo0:(Int⊕Unit)) _ kk0=>sel oo0 (fun bb0=>kk0 (.rt) ⟨[(2,.cs I64 bb0)],[]⟩) (fun cc0=>kk0 (.ex 2) ⟨[],[]⟩)
theorem ok:Ya5 PR 78 1 (.loop c) fr:=
 Ytf Xg Xf h0 (.R (.L (.one (.R (.one (.fr 2)))))) (G:=Xbr.G) Xbr.Gok (L:=mkL [(2,Xcq.fr)]) (l:=[(2,.loop Xcq.c)]) ⟨Lam.cons Xcq.ok,trivial⟩ [(2,([],[]))] ([2],[]) (fun x s=>((x.1.1,s,x.1.2.2),x.2))
  (fun x s=>by simp only[B,mC,mB,mS,mO,mN];kernel_rfl)
end Xdk
namespace Xbr
def pts:List PT:=[.pt Xd]
def FS:FS:=Ybn [.sh] pts (fun x=>Xbr x.1) fun t=>⟨[.cs I64 t],[]⟩
theorem ok:Yb5 PR 81 FS:=
 Yxj Xg Xf Proofs.Try.f81 h0 (.R (.R (.R (.two (.R (.one (.fr 0))) (.L (.R (.one (.fr 1)))))))) (G:=G) Gok (L:=mkL [(0,Xed.fr),(2,Xcq.fr),(1,Xdk.fr)]) (l:=[(0,.loop Xed.c),(1,.loop Xdk.c)]) ⟨Lam.cons Xed.ok,Lam.skip rfl (Lam.skip rfl (Lam.cons Xdk.ok)),trivial⟩
  (fun x=>by simp only[Xbr,mC,mB,mS,mO,mN];kernel_rfl)
end Xbr
def Xea.B (v:List UInt8) (v2:Int):Option (Int⊕((Int⊕Unit))):=
 cond (decide (v2<(v.length:Int))) (cond (inB v2 v.length) (cond (cond (!(decide (((v.getD v2.toNat 0).toNat:Int)<97))) (inB v2 v.length) true) ((some (cond (decide (((v.getD v2.toNat 0).toNat:Int)<97)) true (decide (((v.getD v2.toNat 0).toNat:Int)>122)))).bind fun v3=>cond v3 (some (.inr (.inl 5))) (some (.inl (w64 (v2+1))))) none) none) (some (.inr (.inr ())))
def Xea (v:List UInt8):Int→Option ((Int⊕Unit)):=
 Y9 fun s=>Xea.B v s
def Xez (v:List UInt8):Option Int:=
 (Xea v 0).bind fun v4=>sel v4 (fun v5=>some v5) (fun v6=>cond (v == ([]:List UInt8)) (some 5) (cond (decide ((v.length:Int)>4)) (some 2) (some 0)))
namespace Xea
def c:=Yap (Yag Proofs.Try.f92) [1,0,1,0,0]
def sp:SP:=⟨[(0,.cs .str),(3,.cs I64)],[]⟩
def fr:=Yjc sp (fun x s=>Xea.B x.1.1 s) (fun x=>x.1.2.1) fun x (oo0:(Int⊕Unit)) _ kk0=>sel oo0 (fun bb0=>kk0 (.rt) ⟨[(2,.cs I64 bb0)],[]⟩) (fun cc0=>kk0 (.ex 0) ⟨[(0,.cs .str x.1.1)],[]⟩)
theorem ok:Ya5 PR 25 1 (.loop c) fr:=
 Ytf Xg Xf h0 .no (G:=(mkG [])) .nil (L:=mkL []) (l:=[]) hT [(0,([0],[]))] ([2],[]) (fun x s=>((x.1.1,s,x.1.2.2),x.2))
  (fun x s=>by simp only[B,mC,mB,mS,mO,mN];kernel_rfl)
end Xea
namespace Xez
def pts:List PT:=[.cs .str]
def FS:FS:=Ybn [.sh] pts (fun x=>Xez x.1) fun t=>⟨[.cs I64 t],[]⟩
theorem ok:Yb5 PR 92 FS:=
 Yxj Xg Xf Proofs.Try.f92 h0 (.R (.L (.R (.one (.fr 0))))) (G:=(mkG [])) .nil (L:=mkL [(0,Xea.fr)]) (l:=[(0,.loop Xea.c)]) ⟨Lam.cons Xea.ok,trivial⟩
  (fun x=>by simp only[Xez,mC,mB,mS,mO,mN];kernel_rfl)
end Xez
def Xc1.B (v:Xb) (v2:Int):Option (Int⊕((Int⊕Unit))):=
 cond (decide (v2<(v.2.2.2.2.1.length:Int))) (cond (inB v2 v.2.2.2.2.1.length) ((Xez (v.2.2.2.2.1.getD v2.toNat Xh).1).bind fun v3=>cond (v3 != 0) (some (.inr (.inl v3))) (cond (inB v2 v.2.2.2.2.1.length) ((Xas (v.2.2.2.2.1.getD v2.toNat Xh).2.1 0 9).bind fun v4=>cond (!v4) (some (.inr (.inl 3))) (cond (cond (decide (v2>0)) (inB v2 v.2.2.2.2.1.length) true) (cond (cond (decide (v2>0)) (inB (w64 (v2-1)) v.2.2.2.2.1.length) true) ((some (cond (decide (v2>0)) (leB (v.2.2.2.2.1.getD v2.toNat Xh).1 (v.2.2.2.2.1.getD (w64 (v2-1)).toNat Xh).1 || (v.2.2.2.2.1.getD v2.toNat Xh).1 == (v.2.2.2.2.1.getD (w64 (v2-1)).toNat Xh).1) false)).bind fun v5=>cond v5 (some (.inr (.inl 1))) (some (.inl (w64 (v2+1))))) none) none)) none)) none) (some (.inr (.inr ())))
def Xc1 (v:Xb):Int→Option ((Int⊕Unit)):=
 Y9 fun s=>Xc1.B v s
def Xdu (v:Xb):Option Int:=
 cond (decide ((v.2.2.2.2.1.length:Int)>6)) (some 2) ((Xc1 v 0).bind fun v6=>sel v6 (fun v7=>some v7) (fun v8=>some 0))
namespace Xdu
def G:Gam:=mkG [(92,Xez.FS),(80,Xas.FS)]
theorem Gok:GOk PR G:=.cons Xez.ok (.cons Xas.ok .nil)
end Xdu
namespace Xc1
def c:=Yap (Yag Proofs.Try.f82) [1,1,0,1,0,0]
def sp:SP:=⟨[(0,.pt Xd),(3,.cs I64)],[]⟩
def fr:=Yjc sp (fun x s=>Xc1.B x.1.1 s) (fun x=>x.1.2.1) fun x (oo0:(Int⊕Unit)) _ kk0=>sel oo0 (fun bb0=>kk0 (.rt) ⟨[(2,.cs I64 bb0)],[]⟩) (fun cc0=>kk0 (.ex 0) ⟨[],[]⟩)
theorem ok:Ya5 PR 64 1 (.loop c) fr:=
 Ytf Xg Xf h0 .no (G:=Xdu.G) Xdu.Gok (L:=mkL []) (l:=[]) hT [(0,([],[]))] ([2],[]) (fun x s=>((x.1.1,s,x.1.2.2),x.2))
  (fun x s=>by simp only[B,mC,mB,mS,mO,mN];kernel_rfl)
end Xc1
namespace Xdu
def pts:List PT:=[.pt Xd]
def FS:FS:=Ybn [.sh] pts (fun x=>Xdu x.1) fun t=>⟨[.cs I64 t],[]⟩
theorem ok:Yb5 PR 82 FS:=
 Yxj Xg Xf Proofs.Try.f82 h0 (.R (.R (.L (.R (.one (.fr 0)))))) (G:=G) Gok (L:=mkL [(0,Xc1.fr)]) (l:=[(0,.loop Xc1.c)]) ⟨Lam.cons Xc1.ok,trivial⟩
  (fun x=>by simp only[Xdu,mC,mB,mS,mO,mN];kernel_rfl)
end Xdu
def Xe0 (v:Xb):Option Int:=
 (Xas v.1 0 2).bind fun v2=>cond (!v2) (some 1) ((some (cond (v.1 != 1) (cond (cond (v.2.1 != 0) true (v.2.2.1 != 0)) true (decide ((v.2.2.2.1.length:Int)>0))) false)).bind fun v3=>(some (cond v3 true (cond (v.1 != 2) (decide ((v.2.2.2.2.1.length:Int)>0)) false))).bind fun v4=>cond v4 (some 1) (cond (v.1 == 1) ((Xbr v).bind fun v5=>some v5) (cond (v.1 == 2) ((Xdu v).bind fun v6=>some v6) (some 0))))
namespace Xe0
def G:Gam:=mkG [(80,Xas.FS),(81,Xbr.FS),(82,Xdu.FS)]
def pts:List PT:=[.pt Xd]
def FS:FS:=Ybn [.sh] pts (fun x=>Xe0 x.1) fun t=>⟨[.cs I64 t],[]⟩
theorem ok:Yb5 PR 62 FS:=
 Yxj Xg Xf Proofs.Try.f62 h0 .no (G:=G) (show GOk PR G from .cons Xas.ok (.cons Xbr.ok (.cons Xdu.ok .nil))) (L:=mkL []) (l:=[]) hT
  (fun x=>by simp only[Xe0,mC,mB,mS,mO,mN];kernel_rfl)
end Xe0
def Xei.B (v:List Xb) (v2:Int):Option (Int⊕((Int⊕Unit))):=
 cond (decide (v2<(v.length:Int))) (cond (inB v2 v.length) ((Xe0 (v.getD v2.toNat Xa)).bind fun v3=>cond (v3 != 0) (some (.inr (.inl v3))) (some (.inl (w64 (v2+1))))) none) (some (.inr (.inr ())))
def Xei (v:List Xb):Int→Option ((Int⊕Unit)):=
 Y9 fun s=>Xei.B v s
def Xdx (v:List Xb):Option Int:=
 cond (decide ((v.length:Int)>10)) (some 2) ((Xei v 0).bind fun v4=>sel v4 (fun v5=>some v5) (fun v6=>some 0))
namespace Xdx
def G:Gam:=mkG [(62,Xe0.FS)]
theorem Gok:GOk PR G:=.cons Xe0.ok .nil
end Xdx
namespace Xei
def c:=Yap (Yag Proofs.Try.f39) [1,1,0,1,0,0]
def sp:SP:=⟨[(0,.cs (.sl Xd)),(3,.cs I64)],[]⟩
def fr:=Yjc sp (fun x s=>Xei.B x.1.1 s) (fun x=>x.1.2.1) fun x (oo0:(Int⊕Unit)) _ kk0=>sel oo0 (fun bb0=>kk0 (.rt) ⟨[(2,.cs I64 bb0)],[]⟩) (fun cc0=>kk0 (.ex 0) ⟨[],[]⟩)
theorem ok:Ya5 PR 21 1 (.loop c) fr:=
 Ytf Xg Xf h0 .no (G:=Xdx.G) Xdx.Gok (L:=mkL []) (l:=[]) hT [(0,([],[]))] ([2],[]) (fun x s=>((x.1.1,s,x.1.2.2),x.2))
  (fun x s=>by simp only[B,mC,mB,mS,mO,mN];kernel_rfl)
end Xei
namespace Xdx
def pts:List PT:=[.cs (.sl Xd)]
def FS:FS:=Ybn [.sh] pts (fun x=>Xdx x.1) fun t=>⟨[.cs I64 t],[]⟩
theorem ok:Yb5 PR 39 FS:=
 Yxj Xg Xf Proofs.Try.f39 h0 (.R (.R (.L (.R (.one (.fr 0)))))) (G:=G) Gok (L:=mkL [(0,Xei.fr)]) (l:=[(0,.loop Xei.c)]) ⟨Lam.cons Xei.ok,trivial⟩
  (fun x=>by simp only[Xdx,mC,mB,mS,mO,mN];kernel_rfl)
end Xdx
def Xeu (v:Fs_):Option Int:=
 (Xdx v.1).bind fun v2=>cond (v2 != 0) (some v2) (cond (cond (!((v.1.length:Int) == 0)) (inB 0 v.1.length) true) ((some (cond ((v.1.length:Int) == 0) true ((v.1.getD (0:Int).toNat Xa).1 != 2))).bind fun v3=>cond (cond v3 true ((v.2.1.length:Int) != 20)) (some 1) (some 0)) none)
namespace Xeu
def G:Gam:=mkG [(39,Xdx.FS)]
def pts:List PT:=[.pt Xi]
def FS:FS:=Ybn [.sh] pts (fun x=>Xeu x.1) fun t=>⟨[.cs I64 t],[]⟩
theorem ok:Yb5 PR 21 FS:=
 Yxj Xg Xf Proofs.Try.f21 h0 .no (G:=G) (show GOk PR G from .cons Xdx.ok .nil) (L:=mkL []) (l:=[]) hT
  (fun x=>by simp only[Xeu,mC,mB,mS,mO,mN];kernel_rfl)
end Xeu
def Xfj (v:List Int):Option (List Int):=
 cond (decide (([]++v).length≤2147483648)) (some ([]++v)) none
namespace Xfj
def pts:List PT:=[.cs SI]
def FS:FS:=Ybn [.sh] pts (fun x=>Xfj x.1) fun t=>⟨[.cd SI t],[]⟩
theorem ok:Yb5 PR 93 FS:=
 Yxj Xg Xf Proofs.Try.f93 h0 .no (G:=(mkG [])) .nil (L:=mkL []) (l:=[]) hT
  (fun x=>by simp only[Xfj,mC,mB,mS,mO,mN];kernel_rfl)
end Xfj
def Xe3 (v:Xb):Option Xb:=
 (Xfj v.2.2.2.1).bind fun v2=>cond (decide (([]++v.2.2.2.2.1).length≤2147483648)) (some (v.1,v.2.1,v.2.2.1,v2,[]++v.2.2.2.2.1,v.2.2.2.2.2)) none
namespace Xe3
def G:Gam:=mkG [(93,Xfj.FS)]
def pts:List PT:=[.cs Xd]
def FS:FS:=Ybn [.sh] pts (fun x=>Xe3 x.1) fun t=>⟨[.cd Xd t],[]⟩
theorem ok:Yb5 PR 83 FS:=
 Yxj Xg Xf Proofs.Try.f83 h0 .no (G:=G) (show GOk PR G from .cons Xfj.ok .nil) (L:=mkL []) (l:=[]) hT
  (fun x=>by simp only[Xe3,mC,mB,mS,mO,mN];kernel_rfl)
end Xe3
def Xc5.B (v:Fs_) (v3:Fs_) (v2:Int) (v4:Fs_):Option ((Int×Fs_)⊕Fs_):=
 cond (decide (v2<(v.1.length:Int))) (cond (inB v2 v.1.length) ((Xe3 (v.1.getD v2.toNat Xa)).bind fun v5=>(some (v4.1++([(v5.1,v5.2.1,v5.2.2.1,v5.2.2.2.1,v5.2.2.2.2.1,v5.2.2.2.2.2)]))).bind fun v6=>cond (decide (v6.length≤2147483648)) (some (.inl (w64 (v2+1),(v6,v4.2)))) none) none) (some (.inr v4))
def Xc5 (v:Fs_) (v3:Fs_):(Int×Fs_)→Option Fs_:=
 Y9 fun s=>Xc5.B v v3 s.1 s.2
def Xcy.B (v:Fs_) (v9:Fs_) (v8:Int) (v10:Fs_):Option ((Int×Fs_)⊕Fs_):=
 cond (decide (v8<(v.2.1.length:Int))) (cond (inB v8 v.2.1.length) (cond (decide (([]++(v.2.1.getD v8.toNat [])).length≤2147483648)) (cond (decide ((v10.2.1++([[]++(v.2.1.getD v8.toNat [])])).length≤2147483648)) (some (.inl (w64 (v8+1),(v10.1,v10.2.1++([[]++(v.2.1.getD v8.toNat [])]),v10.2.2)))) none) none) none) (some (.inr v10))
def Xcy (v:Fs_) (v9:Fs_):(Int×Fs_)→Option Fs_:=
 Y9 fun s=>Xcy.B v v9 s.1 s.2
def Xb8 (v:Fs_):Option Fs_:=
 (Xc5 v ([],[],()) (0,([],[],()))).bind fun v7=>(Xcy v ([],[],()) (0,v7)).bind fun v11=>some (v11.1,v11.2.1,v11.2.2)
namespace Xb8
def G:Gam:=mkG [(83,Xe3.FS)]
theorem Gok:GOk PR G:=.cons Xe3.ok .nil
end Xb8
namespace Xc5
def c:=Yap (Yag Proofs.Try.f63) [1,1,0,1,0,0]
def sp:SP:=⟨[(1,.pt Xi),(2,.loc 2 []),(3,.loc 3 []),(4,.cs I64)],[(2,.mem,.cd Xi),(3,.mem,.cd Xi)]⟩
def fr:=Yjc sp (fun x s=>Xc5.B x.1.1 x.2.1 s.1 s.2) (fun x=>(x.1.2.2.2.1,x.2.2.1)) fun x (bb0:Fs_) _ kk0=>kk0 (.ex 0) ⟨[(1,.pt Xi x.1.1),(2,.loc 2 []),(3,.loc 3 [])],[(2,some ⟨.mem,.cd Xi x.2.1⟩),(3,some ⟨.mem,.cd Xi bb0⟩)]⟩
theorem ok:Ya5 PR 45 1 (.loop c) fr:=
 Yxl Xg Xf ⟨[1],[],[],0⟩ (G:=Xb8.G) Xb8.Gok [(0,([1,2,3],[2,3]))] (fun x s=>((x.1.1,x.1.2.1,x.1.2.2.1,s.1,x.1.2.2.2.2),(x.2.1,s.2,x.2.2.2)))
  (fun x s=>by simp only[B,mC,mB,mS,mO,mN];kernel_rfl)
end Xc5
namespace Xcy
def c:=Yap (Yag Proofs.Try.f63) [1,1,1,0,1,0,0]
def sp:SP:=⟨[(1,.pt Xi),(2,.loc 2 []),(3,.loc 3 []),(5,.cs I64)],[(2,.mem,.cd Xi),(3,.mem,.cd Xi)]⟩
def fr:=Yjc sp (fun x s=>Xcy.B x.1.1 x.2.1 s.1 s.2) (fun x=>(x.1.2.2.2.1,x.2.2.1)) fun x (bb0:Fs_) _ kk0=>kk0 (.ex 2) ⟨[(2,.loc 2 []),(3,.loc 3 [])],[(2,some ⟨.mem,.cd Xi x.2.1⟩),(3,some ⟨.mem,.cd Xi bb0⟩)]⟩
theorem ok:Ya5 PR 45 1 (.loop c) fr:=
 Yxl Xg Xf ⟨[1],[],[],0⟩ (G:=Xb8.G) Xb8.Gok [(2,([2,3],[2,3]))] (fun x s=>((x.1.1,x.1.2.1,x.1.2.2.1,s.1,x.1.2.2.2.2),(x.2.1,s.2,x.2.2.2)))
  (fun x s=>by simp only[B,mC,mB,mS,mO,mN];kernel_rfl)
end Xcy
namespace Xb8
def pts:List PT:=[.cs Xi]
def FS:FS:=Ybn [.sh] pts (fun x=>Xb8 x.1) fun t=>⟨[.cd Xi t],[]⟩
theorem ok:Yb5 PR 63 FS:=
 Yxj Xg Xf Proofs.Try.f63 ⟨[1],[],[],0⟩ (.R (.R (.two (.R (.one (.fr 0))) (.L (.R (.one (.fr 1))))))) (G:=G) Gok (L:=mkL [(0,Xc5.fr),(1,Xcy.fr)]) (l:=[(0,.loop Xc5.c),(1,.loop Xcy.c)]) ⟨Lam.cons Xc5.ok,Lam.skip rfl (Lam.cons Xcy.ok),trivial⟩
  (fun x=>by simp only[Xb8,mC,mB,mS,mO,mN];kernel_rfl)
end Xb8
def Xff (v:Fs_) (v2:Int):Option Bool:=
 (Xas v2 0 (w64 ((v.1.length:Int)-1))).bind fun v3=>some v3
namespace Xff
def G:Gam:=mkG [(80,Xas.FS)]
def pts:List PT:=[.pt Xi,.cs I64]
def FS:FS:=Ybn [.sh,.sh] pts (fun x=>Xff x.1 x.2.1) fun t=>⟨[.cs .bool t],[]⟩
theorem ok:Yb5 PR 64 FS:=
 Yxj Xg Xf Proofs.Try.f64 h0 .no (G:=G) (show GOk PR G from .cons Xas.ok .nil) (L:=mkL []) (l:=[]) hT
  (fun x=>by simp only[Xff,mC,mB,mS,mO,mN];kernel_rfl)
end Xff
def Xcn.B (v:Fs_) (v12:Int) (v10:List Xc) (v5:Fs_) (v6:Fs_) (v11:Int) (v13:Int) (v14:List Bool) (v15:List Int) (v16:List Xc):Option ((Int×Int×(List Bool)×(List Int)×List Xc)⊕(Int×(List Bool)×(List Int)×List Xc)):=
 cond (decide (v13<(v10.length:Int))) (cond (inB v13 v10.length) ((Xff v (v10.getD v13.toNat Xh).2.1).bind fun v17=>cond (cond (!(!v17)) (inB (v10.getD v13.toNat Xh).2.1 v.1.length) true) ((some (cond (!v17) true ((v.1.getD (v10.getD v13.toNat Xh).2.1.toNat Xa).1 == 0))).bind fun v18=>cond (cond (!v18) (inB (v10.getD v13.toNat Xh).2.1 v.1.length) true) (cond (cond ((!v18)&&((v.1.getD (v10.getD v13.toNat Xh).2.1.toNat Xa).1 == 2)) (inB (v10.getD v13.toNat Xh).2.1 v14.length) true) ((some (cond v18 true (cond ((v.1.getD (v10.getD v13.toNat Xh).2.1.toNat Xa).1 == 2) (v14.getD ((v10.getD v13.toNat Xh).2.1.toNat) false) false))).bind fun v19=>cond v19 (some (.inl (w64 (v11+1),w64 (v13+1),v14,v15,v16))) (cond (inB (v10.getD v13.toNat Xh).2.1 v.1.length) ((some (v.1.getD (v10.getD v13.toNat Xh).2.1.toNat Xa).1).bind fun v20=>cond (v20 == 2) (cond (decide ((v15++([(v10.getD v13.toNat Xh).2.1])).length≤2147483648)) (cond (inB (v10.getD v13.toNat Xh).2.1 v14.length) ((some (v14.set ((v10.getD v13.toNat Xh).2.1.toNat) true)).bind fun v21=>cond (inB v13 v10.length) (cond (decide ((v16++([v10.getD v13.toNat Xh])).length≤2147483648)) (some (.inl (v11,w64 (v13+1),v21,v15++([(v10.getD v13.toNat Xh).2.1]),v16++([v10.getD v13.toNat Xh])))) none) none) none) none) (cond (inB (v10.getD v13.toNat Xh).2.1 v14.length) ((some (v14.set ((v10.getD v13.toNat Xh).2.1.toNat) true)).bind fun v22=>cond (inB v13 v10.length) (cond (decide ((v16++([v10.getD v13.toNat Xh])).length≤2147483648)) (some (.inl (v11,w64 (v13+1),v22,v15,v16++([v10.getD v13.toNat Xh])))) none) none) none)) none)) none) none) none) none) (some (.inr (v11,v14,v15,v16)))
def Xcn (v:Fs_) (v12:Int) (v10:List Xc) (v5:Fs_) (v6:Fs_):(Int×Int×(List Bool)×(List Int)×List Xc)→Option (Int×(List Bool)×(List Int)×List Xc):=
 Y9 fun s=>Xcn.B v v12 v10 v5 v6 s.1 s.2.1 s.2.2.1 s.2.2.2.1 s.2.2.2.2
def Xdo.B (v:Fs_) (v5:Fs_) (v4:Int) (v6:Fs_) (v7:List Bool) (v8:List Int):Option ((Int×Fs_×(List Bool)×List Int)⊕(Int×Fs_×List Bool)):=
 cond (decide ((v8.length:Int)>0)) (cond (inB 0 v8.length) (cond (decide ((0:Int)≤(1:Int))&&decide ((1:Int)≤(v8.length:Int))) ((some ((v8.drop ((1:Int).toNat)).take (v8.length-((1:Int).toNat)))).bind fun v9=>cond (inB (v8.getD ((0:Int).toNat) 0) v.1.length) ((some (v.1.getD (v8.getD ((0:Int).toNat) 0).toNat Xa).2.2.2.2.1).bind fun v10=>(Xcn v (v8.getD ((0:Int).toNat) 0) v10 v5 v6 (v4,0,v7,v9,[])).bind fun v23=>cond (inB (v8.getD ((0:Int).toNat) 0) v6.1.length) ((some (v6.1.set ((v8.getD ((0:Int).toNat) 0).toNat) ((v6.1.getD ((v8.getD ((0:Int).toNat) 0).toNat) Xa).1,(v6.1.getD ((v8.getD ((0:Int).toNat) 0).toNat) Xa).2.1,(v6.1.getD ((v8.getD ((0:Int).toNat) 0).toNat) Xa).2.2.1,(v6.1.getD ((v8.getD ((0:Int).toNat) 0).toNat) Xa).2.2.2.1,v23.2.2.2,(v6.1.getD ((v8.getD ((0:Int).toNat) 0).toNat) Xa).2.2.2.2.2))).bind fun v24=>some (.inl (v23.1,(v24,v6.2),v23.2.1,v23.2.2.1))) none) none) none) none) (some (.inr (v4,v6,v7)))
def Xdo (v:Fs_) (v5:Fs_):(Int×Fs_×(List Bool)×List Int)→Option (Int×Fs_×List Bool):=
 Y9 fun s=>Xdo.B v v5 s.1 s.2.1 s.2.2.1 s.2.2.2
def Xce (v:Fs_):Option (Fs_×(List Bool)×Int):=
 (Xb8 v).bind fun v2=>cond (decide ((0:Int)≤(v.1.length:Int))&&(decide ((v.1.length:Int)≤(v.1.length:Int))&&decide ((v.1.length:Int)≤2147483648))) (cond (inB 0 ((List.replicate (v.1.length:Int).toNat false).length)) ((some ((List.replicate (v.1.length:Int).toNat false).set ((0:Int).toNat) true)).bind fun v3=>(Xdo v ([],[],()) (0,(v2.1,v2.2.1,v2.2.2),v3,[0])).bind fun v25=>some ((v25.2.1.1,v25.2.1.2.1,v25.2.1.2.2),v25.2.2,v25.1)) none) none
namespace Xce
def G:Gam:=mkG [(63,Xb8.FS),(64,Xff.FS)]
theorem Gok:GOk PR G:=.cons Xb8.ok (.cons Xff.ok .nil)
end Xce
namespace Xcn
def c:=Yap (Yag Proofs.Try.f40) [1,1,1,1,1,1,0,0,0,1,0,1,1,1,1,0,1,0,0]
def sp:SP:=⟨[(0,.pt Xi),(2,.loc 2 []),(5,.loc 5 []),(6,.seg 6 []),(7,.cs I64),(8,.seg 8 []),(9,.cs I64),(10,.seg 10 []),(11,.cs (.sl Xe)),(12,.cs I64)],[(2,.mem,.cd Xi),(5,.mem,.cd Xi),(6,.reg,.cd (.sl .bool)),(8,.reg,.cd SI),(10,.reg,.cd (.sl Xe))]⟩
def fr:=Yjc sp (fun x s=>Xcn.B x.1.1 x.1.2.2.2.2.2.2.1 x.1.2.2.2.2.2.2.2.2.1 x.2.1 x.2.2.1 s.1 s.2.1 s.2.2.1 s.2.2.2.1 s.2.2.2.2) (fun x=>(x.1.2.2.2.2.1,x.1.2.2.2.2.2.2.2.2.2.1,x.2.2.2.1,x.2.2.2.2.1,x.2.2.2.2.2.1)) fun x (bb0:Int×(List Bool)×(List Int)×List Xc) _ kk0=>kk0 (.ex 2) ⟨[(0,.pt Xi x.1.1),(2,.loc 2 []),(5,.loc 5 []),(6,.seg 6 []),(7,.cs I64 bb0.1),(8,.seg 8 []),(9,.cs I64 x.1.2.2.2.2.2.2.1),(10,.seg 10 [])],[(2,some ⟨.mem,.cd Xi x.2.1⟩),(5,some ⟨.mem,.cd Xi x.2.2.1⟩),sr 6 (.cd (.sl .bool) bb0.2.1),sr 8 (.cd SI bb0.2.2.1),sr 10 (.cd (.sl Xe) bb0.2.2.2)]⟩
theorem ok:Ya5 PR 123 1 (.loop c) fr:=
 Yxl Xg Xf h0 (G:=Xce.G) Xce.Gok [(2,([0,2,5,6,7,8,9,10],[2,5,6,8,10]))] (fun x s=>((x.1.1,x.1.2.1,x.1.2.2.1,x.1.2.2.2.1,s.1,x.1.2.2.2.2.2.1,x.1.2.2.2.2.2.2.1,x.1.2.2.2.2.2.2.2.1,x.1.2.2.2.2.2.2.2.2.1,s.2.1,x.1.2.2.2.2.2.2.2.2.2.2),(x.2.1,x.2.2.1,s.2.2.1,s.2.2.2.1,s.2.2.2.2,x.2.2.2.2.2.2)))
  (fun x s=>by simp only[B,mC,mB,mS,mO,mN];kernel_rfl)
end Xcn
namespace Xdo
def c:=Yap (Yag Proofs.Try.f40) [1,1,1,1,1,1,0,0,0]
def sp:SP:=⟨[(0,.pt Xi),(2,.loc 2 []),(5,.loc 5 []),(6,.seg 6 []),(7,.cs I64),(8,.seg 8 [])],[(2,.mem,.cd Xi),(5,.mem,.cd Xi),(6,.reg,.cd (.sl .bool)),(8,.reg,.cd SI)]⟩
def fr:=Yjc sp (fun x s=>Xdo.B x.1.1 x.2.1 s.1 s.2.1 s.2.2.1 s.2.2.2) (fun x=>(x.1.2.2.2.2.1,x.2.2.1,x.2.2.2.1,x.2.2.2.2.1)) fun x (bb0:Int×Fs_×List Bool) _ kk0=>kk0 (.ex 0) ⟨[(2,.loc 2 []),(5,.loc 5 []),(6,.seg 6 []),(7,.cs I64 bb0.1)],[(2,some ⟨.mem,.cd Xi x.2.1⟩),(5,some ⟨.mem,.cd Xi bb0.2.1⟩),sr 6 (.cd (.sl .bool) bb0.2.2)]⟩
theorem ok:Ya5 PR 123 1 (.loop c) fr:=
 Yxn Xg Xf h0 (.R (.one (.R (.R (.R (.R (.L (.R (.one (.fr 1)))))))))) (G:=Xce.G) Xce.Gok (L:=mkL [(1,Xcn.fr)]) (l:=[(1,.loop Xcn.c)]) ⟨Lam.cons Xcn.ok,trivial⟩ [(0,([2,5,6,7],[2,5,6]))] (fun x s=>((x.1.1,x.1.2.1,x.1.2.2.1,x.1.2.2.2.1,s.1,x.1.2.2.2.2.2),(x.2.1,s.2.1,s.2.2.1,s.2.2.2,x.2.2.2.2.2)))
  (fun x s=>by simp only[B,mC,mB,mS,mO,mN];kernel_rfl)
end Xdo
namespace Xce
def pts:List PT:=[.pt Xi]
def FS:FS:=Ybn [.sh] pts (fun x=>Xce x.1) fun t=>⟨[.cd Xi t.1,.cd (.sl .bool) t.2.1,.cs I64 t.2.2],[]⟩
theorem ok:Yb5 PR 40 FS:=
 Yxj Xg Xf Proofs.Try.f40 h0 (.R (.R (.R (.R (.R (.R (.L (.one (.fr 0))))))))) (G:=G) Gok (L:=mkL [(1,Xcn.fr),(0,Xdo.fr)]) (l:=[(0,.loop Xdo.c)]) ⟨Lam.skip rfl (Lam.cons Xdo.ok),trivial⟩
  (fun x=>by simp only[Xce,mC,mB,mS,mO,mN];kernel_rfl)
end Xce
def Xck.B (v:List Xb) (v2:Int) (v4:Int) (v5:Int) (v6:Int):Option ((Int×Int)⊕Int):=
 cond (inB v4 v.length) ((some ((v.getD v4.toNat Xa).2.2.2.1.length:Int)).bind fun v7=>cond (decide (v6<v7)) (cond (inB v4 v.length) (cond (inB v6 ((v.getD v4.toNat Xa).2.2.2.1.length)) ((some ((v.getD v4.toNat Xa).2.2.2.1.getD v6.toNat 0)).bind fun v8=>cond (v8 == v2) (some (.inl (w64 (v5+1),w64 (v6+1)))) (some (.inl (v5,w64 (v6+1))))) none) none) (some (.inr v5))) none
def Xck (v:List Xb) (v2:Int) (v4:Int):(Int×Int)→Option Int:=
 Y9 fun s=>Xck.B v v2 v4 s.1 s.2
def Xc4.B (v:List Xb) (v2:Int) (v3:Int) (v4:Int):Option ((Int×Int)⊕Int):=
 cond (decide (v4<(v.length:Int))) ((Xck v v2 v4 (v3,0)).bind fun v9=>some (.inl (v9,w64 (v4+1)))) (some (.inr v3))
def Xc4 (v:List Xb) (v2:Int):(Int×Int)→Option Int:=
 Y9 fun s=>Xc4.B v v2 s.1 s.2
def Xe8 (v:List Xb) (v2:Int):Option Int:=
 (Xc4 v v2 (0,0)).bind fun v10=>some v10
namespace Xck
def c:=Yap (Yag Proofs.Try.f65) [1,1,0,1,0,0,1,0,0,1,0,0]
def sp:SP:=⟨[(0,.cs (.sl Xd)),(1,.cs I64),(5,.cs I64),(6,.cs I64),(7,.cs I64)],[]⟩
def fr:=Yjc sp (fun x s=>Xck.B x.1.1 x.1.2.1 x.1.2.2.2.1 s.1 s.2) (fun x=>(x.1.2.2.1,x.1.2.2.2.2.1)) fun x (bb0:Int) _ kk0=>kk0 (.ex 2) ⟨[(0,.cs (.sl Xd) x.1.1),(1,.cs I64 x.1.2.1),(5,.cs I64 bb0),(6,.cs I64 x.1.2.2.2.1)],[]⟩
theorem ok:Ya5 PR 37 2 (.loop c) fr:=
 Yw4 Xg Xf h0 [(2,([0,1,5,6],[]))] (fun x s=>((x.1.1,x.1.2.1,s.1,x.1.2.2.2.1,s.2,x.1.2.2.2.2.2),x.2))
  (fun x s=>by simp only[B,mC,mB,mS,mO,mN];kernel_rfl)
end Xck
namespace Xc4
def c:=Yap (Yag Proofs.Try.f65) [1,1,0,1,0,0]
def sp:SP:=⟨[(0,.cs (.sl Xd)),(1,.cs I64),(5,.cs I64),(6,.cs I64)],[]⟩
def fr:=Yjc sp (fun x s=>Xc4.B x.1.1 x.1.2.1 s.1 s.2) (fun x=>(x.1.2.2.1,x.1.2.2.2.1)) fun x (bb0:Int) _ kk0=>kk0 (.ex 0) ⟨[(5,.cs I64 bb0)],[]⟩
theorem ok:Ya5 PR 37 2 (.loop c) fr:=
 Yxk Xg Xf h0 (.R (.L (.one (.R (.one (.fr 1)))))) (L:=mkL [(1,Xck.fr)]) (l:=[(1,.loop Xck.c)]) ⟨Lam.cons Xck.ok,trivial⟩ [(0,([5],[]))] (fun x s=>((x.1.1,x.1.2.1,s.1,s.2,x.1.2.2.2.2),x.2))
  (fun x s=>by simp only[B,mC,mB,mS,mO,mN];kernel_rfl)
end Xc4
namespace Xe8
def pts:List PT:=[.cs (.sl Xd),.cs I64]
def FS:FS:=Ybn [.sh,.sh] pts (fun x=>Xe8 x.1 x.2.1) fun t=>⟨[.cs I64 t],[]⟩
theorem ok:Yb5 PR 65 FS:=
 Yxj Xg Xf Proofs.Try.f65 h0 (.R (.R (.L (.R (.one (.fr 0)))))) (G:=(mkG [])) .nil (L:=mkL [(1,Xck.fr),(0,Xc4.fr)]) (l:=[(0,.loop Xc4.c)]) ⟨Lam.skip rfl (Lam.cons Xc4.ok),trivial⟩
  (fun x=>by simp only[Xe8,mC,mB,mS,mO,mN];kernel_rfl)
end Xe8
def Xd9 (v:Int) (v2:Int):Option Int:=
 cond (decide (v<v2)) (some v) (some v2)
namespace Xd9
def pts:List PT:=[.cs I64,.cs I64]
def FS:FS:=Ybn [.sh,.sh] pts (fun x=>Xd9 x.1 x.2.1) fun t=>⟨[.cs I64 t],[]⟩
theorem ok:Yb5 PR 66 FS:=
 Yxj Xg Xf Proofs.Try.f66 h0 .no (G:=(mkG [])) .nil (L:=mkL []) (l:=[]) hT
  (fun x=>by simp only[Xd9,mC,mB,mS,mO,mN];kernel_rfl)
end Xd9
def Xcm.B (v:List Xb) (v2:Int) (v4:Int) (v5:Int) (v6:Int):Option ((Int×Int)⊕Int):=
 cond (inB v4 v.length) ((some ((v.getD v4.toNat Xa).2.2.2.2.1.length:Int)).bind fun v7=>cond (decide (v6<v7)) (cond (inB v4 v.length) (cond (inB v6 ((v.getD v4.toNat Xa).2.2.2.2.1.length)) ((some ((v.getD v4.toNat Xa).2.2.2.2.1.getD v6.toNat Xh).2.1).bind fun v8=>cond (v8 == v2) (some (.inl (w64 (v5+1),w64 (v6+1)))) (some (.inl (v5,w64 (v6+1))))) none) none) (some (.inr v5))) none
def Xcm (v:List Xb) (v2:Int) (v4:Int):(Int×Int)→Option Int:=
 Y9 fun s=>Xcm.B v v2 v4 s.1 s.2
def Xdc.B (v:List Xb) (v2:Int) (v3:Int) (v4:Int):Option ((Int×Int)⊕Int):=
 cond (decide (v4<(v.length:Int))) ((Xcm v v2 v4 (v3,0)).bind fun v9=>some (.inl (v9,w64 (v4+1)))) (some (.inr v3))
def Xdc (v:List Xb) (v2:Int):(Int×Int)→Option Int:=
 Y9 fun s=>Xdc.B v v2 s.1 s.2
def Xep (v:List Xb) (v2:Int):Option Int:=
 (Xdc v v2 (0,0)).bind fun v10=>some v10
namespace Xcm
def c:=Yap (Yag Proofs.Try.f67) [1,1,0,1,0,0,1,0,0,1,0,0]
def sp:SP:=⟨[(0,.cs (.sl Xd)),(1,.cs I64),(5,.cs I64),(6,.cs I64),(7,.cs I64)],[]⟩
def fr:=Yjc sp (fun x s=>Xcm.B x.1.1 x.1.2.1 x.1.2.2.2.1 s.1 s.2) (fun x=>(x.1.2.2.1,x.1.2.2.2.2.1)) fun x (bb0:Int) _ kk0=>kk0 (.ex 2) ⟨[(0,.cs (.sl Xd) x.1.1),(1,.cs I64 x.1.2.1),(5,.cs I64 bb0),(6,.cs I64 x.1.2.2.2.1)],[]⟩
theorem ok:Ya5 PR 38 2 (.loop c) fr:=
 Yw4 Xg Xf h0 [(2,([0,1,5,6],[]))] (fun x s=>((x.1.1,x.1.2.1,s.1,x.1.2.2.2.1,s.2,x.1.2.2.2.2.2),x.2))
  (fun x s=>by simp only[B,mC,mB,mS,mO,mN];kernel_rfl)
end Xcm
namespace Xdc
def c:=Yap (Yag Proofs.Try.f67) [1,1,0,1,0,0]
def sp:SP:=⟨[(0,.cs (.sl Xd)),(1,.cs I64),(5,.cs I64),(6,.cs I64)],[]⟩
def fr:=Yjc sp (fun x s=>Xdc.B x.1.1 x.1.2.1 s.1 s.2) (fun x=>(x.1.2.2.1,x.1.2.2.2.1)) fun x (bb0:Int) _ kk0=>kk0 (.ex 0) ⟨[(5,.cs I64 bb0)],[]⟩
theorem ok:Ya5 PR 38 2 (.loop c) fr:=
 Yxk Xg Xf h0 (.R (.L (.one (.R (.one (.fr 1)))))) (L:=mkL [(1,Xcm.fr)]) (l:=[(1,.loop Xcm.c)]) ⟨Lam.cons Xcm.ok,trivial⟩ [(0,([5],[]))] (fun x s=>((x.1.1,x.1.2.1,s.1,s.2,x.1.2.2.2.2),x.2))
  (fun x s=>by simp only[B,mC,mB,mS,mO,mN];kernel_rfl)
end Xdc
namespace Xep
def pts:List PT:=[.cs (.sl Xd),.cs I64]
def FS:FS:=Ybn [.sh,.sh] pts (fun x=>Xep x.1 x.2.1) fun t=>⟨[.cs I64 t],[]⟩
theorem ok:Yb5 PR 67 FS:=
 Yxj Xg Xf Proofs.Try.f67 h0 (.R (.R (.L (.R (.one (.fr 0)))))) (G:=(mkG [])) .nil (L:=mkL [(1,Xcm.fr),(0,Xdc.fr)]) (l:=[(0,.loop Xdc.c)]) ⟨Lam.skip rfl (Lam.cons Xdc.ok),trivial⟩
  (fun x=>by simp only[Xep,mC,mB,mS,mO,mN];kernel_rfl)
end Xep
def Xdp.B (v2:List Bool) (v4:Int) (v5:Int) (v3:Int) (v6:Int) (v7:Fs_):Option ((Int×Int×Fs_)⊕(Int×Fs_)):=
 cond (decide (v6<(v7.1.length:Int))) (cond (inB v6 v2.length) (cond (cond (!(v2.getD v6.toNat false)) (inB v6 v7.1.length) true) ((some (cond (!(v2.getD v6.toNat false)) ((v7.1.getD v6.toNat Xa).1 != 0) false)).bind fun v8=>cond v8 (cond (inB v6 v7.1.length) (some (.inl (w64 (v3+1),w64 (v6+1),(v7.1.set v6.toNat (0,0,0,[],[],()),v7.2)))) none) (some (.inl (v3,w64 (v6+1),v7)))) none) none) (some (.inr (v3,v7)))
def Xdp (v2:List Bool) (v4:Int) (v5:Int):(Int×Int×Fs_)→Option (Int×Fs_):=
 Y9 fun s=>Xdp.B v2 v4 v5 s.1 s.2.1 s.2.2
def Xcd.B (v10:Int) (v11:Int) (v12:Int) (v13:Int) (v15:Nat) (v14:Fs_) (v16:Int):Option (Int⊕Int):=
 (some ((v14.1.getD v15 Xa).2.2.2.1.length:Int)).bind fun v17=>cond (decide (v16<v17)) (cond (decide ((0:Int)≤v13)&&decide (v13≤(v14.1.length:Int))) (cond (inB v16 ((v14.1.getD v15 Xa).2.2.2.1.length)) ((some ((v14.1.getD v15 Xa).2.2.2.1.getD v16.toNat 0)).bind fun v18=>(Xe8 ((v14.1.drop 0).take (v13.toNat-0)) v18).bind fun v19=>cond (v19 == 0) (some (.inl (w64 (v16+1)))) (some (.inr v16))) none) none) (some (.inr v16))
def Xcd (v10:Int) (v11:Int) (v12:Int) (v13:Int) (v15:Nat) (v14:Fs_):Int→Option Int:=
 Y9 fun s=>Xcd.B v10 v11 v12 v13 v15 v14 s
def Xc9.B (v10:Int) (v11:Int) (v12:Int) (v13:Int) (v14:Fs_):Option ((Int×Int×Int×Fs_)⊕(Int×Int×Fs_)):=
 cond (decide (v13<(v14.1.length:Int))) (cond (inB v13 v14.1.length) (cond ((v14.1.getD v13.toNat Xa).1 != 1) (some (.inl (v11,v12,w64 (v13+1),v14))) ((Xcd v10 v11 v12 v13 v13.toNat v14 0).bind fun v20=>(some ((v14.1.getD v13.toNat Xa).2.2.2.1.length:Int)).bind fun v21=>cond (decide ((0:Int)≤v20)&&decide (v20≤((v14.1.getD v13.toNat Xa).2.2.2.1.length:Int))) (cond (Nat.beq v13.toNat v13.toNat&&true) ((some (((v14.1.getD v13.toNat Xa).2.2.2.1.drop 0).take (v20.toNat-0))).bind fun v22=>(some (v14.1.set v13.toNat ((v14.1.getD v13.toNat Xa).1,(v14.1.getD v13.toNat Xa).2.1,(v14.1.getD v13.toNat Xa).2.2.1,v22,(v14.1.getD v13.toNat Xa).2.2.2.2))).bind fun v23=>(Xd9 (v23.getD v13.toNat Xa).2.2.1 (w64 (v20*8))).bind fun v24=>(some (v23.set v13.toNat ((v23.getD v13.toNat Xa).1,(v23.getD v13.toNat Xa).2.1,v24,(v23.getD v13.toNat Xa).2.2.2))).bind fun v25=>(Xep v25 v13).bind fun v26=>cond ((v25.getD v13.toNat Xa).2.1 != v26) ((some (v25.set v13.toNat ((v25.getD v13.toNat Xa).1,v26,(v25.getD v13.toNat Xa).2.2))).bind fun v27=>some (.inl (w64 (v11+(w64 (v21-v20))),w64 (v12+1),w64 (v13+1),(v27,v14.2)))) (some (.inl (w64 (v11+(w64 (v21-v20))),v12,w64 (v13+1),(v25,v14.2))))) none) none)) none) (some (.inr (v11,v12,v14)))
def Xc9 (v10:Int):(Int×Int×Int×Fs_)→Option (Int×Int×Fs_):=
 Y9 fun s=>Xc9.B v10 s.1 s.2.1 s.2.2.1 s.2.2.2
def Xbp (v:Fs_) (v2:List Bool):Option (Int×Int×Int×Fs_):=
 (Xdp v2 0 0 (0,0,v)).bind fun v9=>(Xc9 v9.1 (0,0,0,v9.2)).bind fun v28=>some (v9.1,v28.1,v28.2.1,v28.2.2)
namespace Xbp
def G:Gam:=mkG [(65,Xe8.FS),(66,Xd9.FS),(67,Xep.FS)]
theorem Gok:GOk PR G:=.cons Xe8.ok (.cons Xd9.ok (.cons Xep.ok .nil))
end Xbp
namespace Xdp
def c:=Yap (Yag Proofs.Try.f41) [1,1,1,1,0,1,0,0]
def sp:SP:=⟨[(0,.loc 0 []),(1,.cs (.sl .bool)),(7,.cs I64),(8,.cs I64),(9,.cs I64),(10,.cs I64)],[(0,.mem,.cd Xi)]⟩
def fr:=Yjc sp (fun x s=>Xdp.B x.1.2.1 x.1.2.2.2.1 x.1.2.2.2.2.1 s.1 s.2.1 s.2.2) (fun x=>(x.1.2.2.1,x.1.2.2.2.2.2.1,x.2.1)) fun x (bb0:Int×Fs_) _ kk0=>kk0 (.ex 0) ⟨[(0,.loc 0 []),(7,.cs I64 bb0.1),(8,.cs I64 x.1.2.2.2.1),(9,.cs I64 x.1.2.2.2.2.1)],[(0,some ⟨.mem,.cd Xi bb0.2⟩)]⟩
theorem ok:Ya5 PR 144 2 (.loop c) fr:=
 Yxl Xg Xf h0 (G:=Xbp.G) Xbp.Gok [(0,([0,7,8,9],[0]))] (fun x s=>((x.1.1,x.1.2.1,s.1,x.1.2.2.2.1,x.1.2.2.2.2.1,s.2.1,x.1.2.2.2.2.2.2),(s.2.2,x.2.2)))
  (fun x s=>by simp only[B,mC,mB,mS,mO,mN];kernel_rfl)
end Xdp
namespace Xcd
def c:=Yap (Yag Proofs.Try.f41) [1,1,1,1,1,0,1,0,0,1,0,0,1,1,1,0,0,0]
def sp:SP:=⟨[(0,.loc 0 []),(7,.cs I64),(8,.cs I64),(9,.cs I64),(11,.cs I64),(12,.loc 0 [.f1,.el]),(13,.cs I64)],[(0,.mem,.cd Xi)]⟩
def fr:=Yjc sp (fun x s=>Xcd.B x.1.2.1 x.1.2.2.1 x.1.2.2.2.1 x.1.2.2.2.2.1 x.1.2.2.2.2.2.1.1 x.2.1 s) (fun x=>x.1.2.2.2.2.2.2.1) fun x (bb0:Int) _ kk0=>kk0 (.ex 4) ⟨[(0,.loc 0 []),(7,.cs I64 x.1.2.1),(8,.cs I64 x.1.2.2.1),(9,.cs I64 x.1.2.2.2.1),(11,.cs I64 x.1.2.2.2.2.1),(12,.loc 0 [.f1,.el x.1.2.2.2.2.2.1.1]),(13,.cs I64 bb0)],[(0,some ⟨.mem,.cd Xi x.2.1⟩)]⟩
theorem ok:Ya5 PR 144 2 (.loop c) fr:=
 Yxl Xg Xf h0 (G:=Xbp.G) Xbp.Gok [(4,([0,7,8,9,11,12,13],[0]))] (fun x s=>((x.1.1,x.1.2.1,x.1.2.2.1,x.1.2.2.2.1,x.1.2.2.2.2.1,x.1.2.2.2.2.2.1,s,x.1.2.2.2.2.2.2.2),x.2))
  (fun x s=>by simp only[B,mC,mB,mS,mO,mN];kernel_rfl)
end Xcd
namespace Xc9
def c:=Yap (Yag Proofs.Try.f41) [1,1,1,1,1,0,1,0,0]
def sp:SP:=⟨[(0,.loc 0 []),(7,.cs I64),(8,.cs I64),(9,.cs I64),(11,.cs I64)],[(0,.mem,.cd Xi)]⟩
def fr:=Yjc sp (fun x s=>Xc9.B x.1.2.1 s.1 s.2.1 s.2.2.1 s.2.2.2) (fun x=>(x.1.2.2.1,x.1.2.2.2.1,x.1.2.2.2.2.1,x.2.1)) fun x (bb0:Int×Int×Fs_) _ kk0=>kk0 (.ex 2) ⟨[(7,.cs I64 x.1.2.1),(8,.cs I64 bb0.1),(9,.cs I64 bb0.2.1)],[(0,some ⟨.mem,.cd Xi bb0.2.2⟩)]⟩
theorem ok:Ya5 PR 144 2 (.loop c) fr:=
 Yxn Xg Xf h0 (.R (.L (.one (.R (.R (.R (.L (.one (.fr 2))))))))) (G:=Xbp.G) Xbp.Gok (L:=mkL [(2,Xcd.fr)]) (l:=[(2,.loop Xcd.c)]) ⟨Lam.cons Xcd.ok,trivial⟩ [(2,([7,8,9],[0]))] (fun x s=>((x.1.1,x.1.2.1,s.1,s.2.1,s.2.2.1,x.1.2.2.2.2.2),(s.2.2.2,x.2.2)))
  (fun x s=>by simp only[B,mC,mB,mS,mO,mN];kernel_rfl)
end Xc9
namespace Xbp
def pts:List PT:=[.op (.cd Xi),.cs (.sl .bool)]
def FS:FS:=Ybn [.mu,.sh] pts (fun x=>Xbp x.1 x.2.1) fun t=>⟨[.cs I64 t.1,.cs I64 t.2.1,.cs I64 t.2.2.1],[.op (.cd Xi t.2.2.2)]⟩
theorem ok:Yb5 PR 41 FS:=
 Yxj Xg Xf Proofs.Try.f41 h0 (.R (.R (.R (.R (.two (.R (.one (.fr 0))) (.L (.R (.one (.fr 1))))))))) (G:=G) Gok (L:=mkL [(0,Xdp.fr),(2,Xcd.fr),(1,Xc9.fr)]) (l:=[(0,.loop Xdp.c),(1,.loop Xc9.c)]) ⟨Lam.cons Xdp.ok,Lam.skip rfl (Lam.skip rfl (Lam.cons Xc9.ok)),trivial⟩
  (fun x=>by simp only[Xbp,mC,mB,mS,mO,mN];kernel_rfl)
end Xbp
def Xcg.B (v2:Int) (v4:Nat) (v:Fs_) (v5:Int) (v6:List Int):Option ((Int×List Int)⊕(List Int)):=
 (some ((v.1.getD v4 Xa).2.2.2.1.length:Int)).bind fun v7=>cond (decide (v5<v7)) (cond (inB v5 ((v.1.getD v4 Xa).2.2.2.1.length)) ((some ((v.1.getD v4 Xa).2.2.2.1.getD v5.toNat 0)).bind fun v8=>(some (w64 ((v.1.getD v4 Xa).2.2.1-(w64 (v5*8))))).bind fun v9=>(Xd9 8 v9).bind fun v10=>cond (inB v8 v6.length) (some (.inl (w64 (v5+1),v6.set v8.toNat v10))) none) none) (some (.inr v6))
def Xcg (v2:Int) (v4:Nat) (v:Fs_):(Int×List Int)→Option (List Int):=
 Y9 fun s=>Xcg.B v2 v4 v s.1 s.2
def Xdt.B (v:Fs_) (v2:Int) (v3:List Int):Option ((Int×List Int)⊕(List Int)):=
 cond (decide (v2<(v.1.length:Int))) (cond (inB v2 v.1.length) ((Xcg v2 v2.toNat v (0,v3)).bind fun v11=>some (.inl (w64 (v2+1),v11))) none) (some (.inr v3))
def Xdt (v:Fs_):(Int×List Int)→Option (List Int):=
 Y9 fun s=>Xdt.B v s.1 s.2
def Xbn.B (v17:Int) (v14:Int) (v12:List Int) (v18:Fs_):Option (Fs_⊕Fs_):=
 cond (inB v14 v18.2.1.length) (cond (inB v14 v12.length) ((some (decide (((v18.2.1.getD v14.toNat []).length:Int)<(v12.getD v14.toNat 0)))).bind fun v19=>cond v19 (cond (inB v14 v18.2.1.length) (cond (decide (((v18.2.1.getD v14.toNat [])++([0])).length≤2147483648)) (cond (inB v14 v18.2.1.length) (cond (Nat.beq v14.toNat v14.toNat&&true) ((some (v18.2.1.set v14.toNat ((v18.2.1.getD v14.toNat [])++([0])))).bind fun v20=>some (.inl (v18.1,v20,v18.2.2))) none) none) none) none) (some (.inr v18))) none) none
def Xbn (v17:Int) (v14:Int) (v12:List Int):Fs_→Option Fs_:=
 Y9 fun s=>Xbn.B v17 v14 v12 s
def Xdi.B (v12:List Int) (v13:Int) (v14:Int) (v15:Fs_):Option ((Int×Int×Fs_)⊕(Int×Fs_)):=
 cond (decide (v14<(v15.2.1.length:Int))) (cond (inB v14 v15.2.1.length) (cond (inB v14 v12.length) ((some (((v15.2.1.getD v14.toNat []).length:Int) != (v12.getD v14.toNat 0))).bind fun v16=>cond v16 ((Xbn (w64 (v13+1)) v14 v12 v15).bind fun v21=>cond (inB v14 v21.2.1.length) (cond (inB v14 v12.length) (cond (decide ((0:Int)≤(v12.getD v14.toNat 0))&&decide ((v12.getD v14.toNat 0)≤((v21.2.1.getD v14.toNat []).length:Int))) (cond (inB v14 v21.2.1.length) (cond (Nat.beq v14.toNat v14.toNat&&true) ((some (((v21.2.1.getD v14.toNat []).drop 0).take (((v12.getD v14.toNat 0).toNat)-0))).bind fun v22=>some (.inl (w64 (v13+1),w64 (v14+1),(v21.1,v21.2.1.set v14.toNat v22,v21.2.2)))) none) none) none) none) none) ((Xbn v13 v14 v12 v15).bind fun v23=>cond (inB v14 v23.2.1.length) (cond (inB v14 v12.length) (cond (decide ((0:Int)≤(v12.getD v14.toNat 0))&&decide ((v12.getD v14.toNat 0)≤((v23.2.1.getD v14.toNat []).length:Int))) (cond (inB v14 v23.2.1.length) (cond (Nat.beq v14.toNat v14.toNat&&true) ((some (((v23.2.1.getD v14.toNat []).drop 0).take (((v12.getD v14.toNat 0).toNat)-0))).bind fun v24=>some (.inl (v13,w64 (v14+1),(v23.1,v23.2.1.set v14.toNat v24,v23.2.2)))) none) none) none) none) none)) none) none) (some (.inr (v13,v15)))
def Xdi (v12:List Int):(Int×Int×Fs_)→Option (Int×Fs_):=
 Y9 fun s=>Xdi.B v12 s.1 s.2.1 s.2.2
def Xbg (v:Fs_):Option (Int×Fs_):=
 cond (decide ((0:Int)≤(20:Int))&&(decide ((20:Int)≤(20:Int))&&decide ((20:Int)≤2147483648))) ((Xdt v (0,List.replicate (20:Int).toNat 0)).bind fun v12=>(Xdi v12 (0,0,v)).bind fun v25=>some (v25.1,v25.2)) none
namespace Xbg
def G:Gam:=mkG [(66,Xd9.FS)]
theorem Gok:GOk PR G:=.cons Xd9.ok .nil
end Xbg
namespace Xcg
def c:=Yap (Yag Proofs.Try.f42) [1,1,0,1,0,0,1,0,0,1,1,0,0]
def sp:SP:=⟨[(0,.loc 0 []),(3,.seg 3 []),(4,.cs I64),(5,.loc 0 [.f1,.el]),(6,.cs I64)],[(0,.mem,.cd Xi),(3,.reg,.cd SI)]⟩
def fr:=Yjc sp (fun x s=>Xcg.B x.1.2.2.1 x.1.2.2.2.1.1 x.2.1 s.1 s.2) (fun x=>(x.1.2.2.2.2.1,x.2.2.1)) fun x (bb0:List Int) _ kk0=>kk0 (.ex 2) ⟨[(0,.loc 0 []),(3,.seg 3 []),(4,.cs I64 x.1.2.2.1)],[(0,some ⟨.mem,.cd Xi x.2.1⟩),sr 3 (.cd SI bb0)]⟩
theorem ok:Ya5 PR 122 1 (.loop c) fr:=
 Yxl Xg Xf h0 (G:=Xbg.G) Xbg.Gok [(2,([0,3,4],[0,3]))] (fun x s=>((x.1.1,x.1.2.1,x.1.2.2.1,x.1.2.2.2.1,s.1,x.1.2.2.2.2.2),(x.2.1,s.2,x.2.2.2)))
  (fun x s=>by simp only[B,mC,mB,mS,mO,mN];kernel_rfl)
end Xcg
namespace Xdt
def c:=Yap (Yag Proofs.Try.f42) [1,1,0,1,0,0]
def sp:SP:=⟨[(0,.loc 0 []),(3,.seg 3 []),(4,.cs I64)],[(0,.mem,.cd Xi),(3,.reg,.cd SI)]⟩
def fr:=Yjc sp (fun x s=>Xdt.B x.2.1 s.1 s.2) (fun x=>(x.1.2.2.1,x.2.2.1)) fun x (bb0:List Int) _ kk0=>kk0 (.ex 0) ⟨[(0,.loc 0 []),(3,.seg 3 [])],[(0,some ⟨.mem,.cd Xi x.2.1⟩),sr 3 (.cd SI bb0)]⟩
theorem ok:Ya5 PR 122 1 (.loop c) fr:=
 Yxn Xg Xf h0 (.R (.L (.one (.R (.R (.one (.fr 1))))))) (G:=Xbg.G) Xbg.Gok (L:=mkL [(1,Xcg.fr)]) (l:=[(1,.loop Xcg.c)]) ⟨Lam.cons Xcg.ok,trivial⟩ [(0,([0,3],[0,3]))] (fun x s=>((x.1.1,x.1.2.1,s.1,x.1.2.2.2),(x.2.1,s.2,x.2.2.2)))
  (fun x s=>by simp only[B,mC,mB,mS,mO,mN];kernel_rfl)
end Xdt
namespace Xbn
def c:=Yap (Yag Proofs.Try.f42) [1,1,1,1,0,1,0,0,1,0,0,1,0,0,0]
def sp:SP:=⟨[(0,.loc 0 []),(3,.seg 3 []),(7,.cs I64),(8,.cs I64)],[(0,.mem,.cd Xi),(3,.reg,.cd SI)]⟩
def fr:=Yjc sp (fun x s=>Xbn.B x.1.2.2.1 x.1.2.2.2.1 x.2.2.1 s) (fun x=>x.2.1) fun x (bb0:Fs_) _ kk0=>kk0 (.ex 6) ⟨[(0,.loc 0 []),(3,.seg 3 []),(7,.cs I64 x.1.2.2.1),(8,.cs I64 x.1.2.2.2.1)],[(0,some ⟨.mem,.cd Xi bb0⟩),sr 3 (.cd SI x.2.2.1)]⟩
theorem ok:Ya5 PR 122 1 (.loop c) fr:=
 Yxl Xg Xf h0 (G:=Xbg.G) Xbg.Gok [(6,([0,3,7,8],[0,3]))] (fun x s=>(x.1,(s,x.2.2)))
  (fun x s=>by simp only[B,mC,mB,mS,mO,mN];kernel_rfl)
end Xbn
namespace Xdi
def c:=Yap (Yag Proofs.Try.f42) [1,1,1,1,0,1,0,0]
def sp:SP:=⟨[(0,.loc 0 []),(3,.seg 3 []),(7,.cs I64),(8,.cs I64)],[(0,.mem,.cd Xi),(3,.reg,.cd SI)]⟩
def fr:=Yjc sp (fun x s=>Xdi.B x.2.2.1 s.1 s.2.1 s.2.2) (fun x=>(x.1.2.2.1,x.1.2.2.2.1,x.2.1)) fun x (bb0:Int×Fs_) _ kk0=>kk0 (.ex 4) ⟨[(7,.cs I64 bb0.1)],[(0,some ⟨.mem,.cd Xi bb0.2⟩)]⟩
theorem ok:Ya5 PR 122 1 (.loop c) fr:=
 Yxn Xg Xf h0 (.R (.L (.one (.R (.L (.one (.fr 3))))))) (G:=Xbg.G) Xbg.Gok (L:=mkL [(3,Xbn.fr)]) (l:=[(3,.loop Xbn.c)]) ⟨Lam.cons Xbn.ok,trivial⟩ [(4,([7],[0]))] (fun x s=>((x.1.1,x.1.2.1,s.1,s.2.1,x.1.2.2.2.2),(s.2.2,x.2.2)))
  (fun x s=>by simp only[B,mC,mB,mS,mO,mN];kernel_rfl)
end Xdi
namespace Xbg
def pts:List PT:=[.op (.cd Xi)]
def FS:FS:=Ybn [.mu] pts (fun x=>Xbg x.1) fun t=>⟨[.cs I64 t.1],[.op (.cd Xi t.2)]⟩
theorem ok:Yb5 PR 42 FS:=
 Yxj Xg Xf Proofs.Try.f42 h0 (.R (.R (.two (.R (.one (.fr 0))) (.R (.L (.R (.one (.fr 2)))))))) (G:=G) Gok (L:=mkL [(1,Xcg.fr),(0,Xdt.fr),(3,Xbn.fr),(2,Xdi.fr)]) (l:=[(0,.loop Xdt.c),(2,.loop Xdi.c)]) ⟨Lam.skip rfl (Lam.cons Xdt.ok),Lam.skip rfl (Lam.skip rfl (Lam.skip rfl (Lam.cons Xdi.ok))),trivial⟩
  (fun x=>by simp only[Xbg,mC,mB,mS,mO,mN];kernel_rfl)
end Xbg
def Xfg (v:Fs_):Option (Fs_×List Int):=
 (Xce v).bind fun v2=>(Xbp (v2.1.1,v2.1.2.1,v2.1.2.2) v2.2.1).bind fun v3=>(Xbg v3.2.2.2).bind fun v4=>some ((v4.2.1,v4.2.2.1,v4.2.2.2),[v2.2.2,v3.1,v3.2.1,v3.2.2.1,v4.1])
namespace Xfg
def G:Gam:=mkG [(40,Xce.FS),(41,Xbp.FS),(42,Xbg.FS)]
def pts:List PT:=[.pt Xi]
def FS:FS:=Ybn [.sh] pts (fun x=>Xfg x.1) fun t=>⟨[.cd Xi t.1,.cd SI t.2],[]⟩
theorem ok:Yb5 PR 22 FS:=
 Yxj Xg Xf Proofs.Try.f22 h0 .no (G:=G) (show GOk PR G from .cons Xce.ok (.cons Xbp.ok (.cons Xbg.ok .nil))) (L:=mkL []) (l:=[]) hT
  (fun x=>by simp only[Xfg,mC,mB,mS,mO,mN];kernel_rfl)
end Xfg
def Xeo (v:Fs_):Option Xp:=
 (Xeu v).bind fun v2=>cond (v2 != 0) (some (v2,[],())) ((Xfg v).bind fun v3=>some (0,v3.2,()))
namespace Xeo
def G:Gam:=mkG [(21,Xeu.FS),(22,Xfg.FS)]
def pts:List PT:=[.cs Xi]
def FS:FS:=Ybn [.sh] pts (fun x=>Xeo x.1) fun t=>⟨[.cd Xk t],[]⟩
theorem ok:Yb5 PR 6 FS:=
 Yxj Xg Xf Proofs.Try.f6 ⟨[1],[],[],0⟩ .no (G:=G) (show GOk PR G from .cons Xeu.ok (.cons Xfg.ok .nil)) (L:=mkL []) (l:=[]) hT
  (fun x=>by simp only[Xeo,mC,mB,mS,mO,mN];kernel_rfl)
end Xeo
def Xbm (v:Int) (v2:Int) (v3:Int):Option Bool:=
 some (cond (decide (v≥v2)) (decide (v≤v3)) false)
namespace Xbm
def pts:List PT:=[.cs I64,.cs I64,.cs I64]
def FS:FS:=Ybn [.sh,.sh,.sh] pts (fun x=>Xbm x.1 x.2.1 x.2.2.1) fun t=>⟨[.cs .bool t],[]⟩
theorem ok:Yb5 PR 85 FS:=
 Yxj Xg Xf Proofs.Try.f85 h0 .no (G:=(mkG [])) .nil (L:=mkL []) (l:=[]) hT
  (fun x=>by simp only[Xbm,mC,mB,mS,mO,mN];kernel_rfl)
end Xbm
def Xeb (v:List Int):Option Int:=
 some (v.length:Int)
namespace Xeb
def pts:List PT:=[.cs SI]
def FS:FS:=Ybn [.sh] pts (fun x=>Xeb x.1) fun t=>⟨[.cs I64 t],[]⟩
theorem ok:Yb5 PR 46 FS:=
 Yxj Xg Xf Proofs.Try.f46 h0 .no (G:=(mkG [])) .nil (L:=mkL []) (l:=[]) hT
  (fun x=>by simp only[Xeb,mC,mB,mS,mO,mN];kernel_rfl)
end Xeb
def Xft (v:Int):Option Int:=
 cond (!((8:Int) == 0)) (some (w64 ((w64 ((w64 (v+8))-1)).tdiv 8))) none
namespace Xft
def pts:List PT:=[.cs I64]
def FS:FS:=Ybn [.sh] pts (fun x=>Xft x.1) fun t=>⟨[.cs I64 t],[]⟩
theorem ok:Yb5 PR 94 FS:=
 Yxj Xg Xf Proofs.Try.f94 h0 .no (G:=(mkG [])) .nil (L:=mkL []) (l:=[]) hT
  (fun x=>by simp only[Xft,mC,mB,mS,mO,mN];kernel_rfl)
end Xft
def Xfw (v:Int):Option Bool:=
 (Xbm v 0 19).bind fun v2=>some (!v2)
namespace Xfw
def G:Gam:=mkG [(85,Xbm.FS)]
def pts:List PT:=[.cs I64]
def FS:FS:=Ybn [.sh] pts (fun x=>Xfw x.1) fun t=>⟨[.cs .bool t],[]⟩
theorem ok:Yb5 PR 96 FS:=
 Yxj Xg Xf Proofs.Try.f96 h0 .no (G:=G) (show GOk PR G from .cons Xbm.ok .nil) (L:=mkL []) (l:=[]) hT
  (fun x=>by simp only[Xfw,mC,mB,mS,mO,mN];kernel_rfl)
end Xfw
def Xd6.B (v:List Int) (v2:Unit) (v3:Int) (v4:Int):Option (Int⊕((Int⊕Unit))):=
 cond (decide (v4<v3)) (cond (inB v4 v.length) ((Xfw (v.getD v4.toNat 0)).bind fun v5=>cond v5 (some (.inr (.inl v4))) (some (.inl (w64 (v4+1))))) none) (some (.inr (.inr ())))
def Xd6 (v:List Int) (v2:Unit) (v3:Int):Int→Option ((Int⊕Unit)):=
 Y9 fun s=>Xd6.B v v2 v3 s
def Xeh (v:List Int) (v2:Unit):Option Int:=
 (Xd6 v v2 (v.length:Int) 0).bind fun v6=>sel v6 (fun v7=>some v7) (fun v8=>some (-1))
namespace Xeh
def G:Gam:=mkG [(96,Xfw.FS)]
theorem Gok:GOk PR G:=.cons Xfw.ok .nil
end Xeh
namespace Xd6
def c:=Yap (Yag Proofs.Try.f98) [1,0,1,0,0]
def sp:SP:=⟨[(0,.cs SI),(1,.clo 96 (.cs .unit)),(7,.cs I64),(8,.cs I64)],[]⟩
def fr:=Yjc sp (fun x s=>Xd6.B x.1.1 x.1.2.1 x.1.2.2.1 s) (fun x=>x.1.2.2.2.1) fun x (oo0:(Int⊕Unit)) _ kk0=>sel oo0 (fun bb0=>kk0 (.rt) ⟨[(4,.cs I64 bb0)],[]⟩) (fun cc0=>kk0 (.ex 0) ⟨[],[]⟩)
theorem ok:Ya5 PR 19 2 (.loop c) fr:=
 Ytf Xg Xf h0 .no (G:=Xeh.G) Xeh.Gok (L:=mkL []) (l:=[]) hT [(0,([],[]))] ([4],[]) (fun x s=>((x.1.1,x.1.2.1,x.1.2.2.1,s,x.1.2.2.2.2),x.2))
  (fun x s=>by simp only[B,mC,mB,mS,mO,mN];kernel_rfl)
end Xd6
namespace Xeh
def pts:List PT:=[.cs SI,.clo 96 (.cs .unit)]
def FS:FS:=Ybn [.sh,.sh] pts (fun x=>Xeh x.1 x.2.1) fun t=>⟨[.cs I64 t],[]⟩
theorem ok:Yb5 PR 98 FS:=
 Yxj Xg Xf Proofs.Try.f98 h0 (.R (.L (.R (.one (.fr 0))))) (G:=G) Gok (L:=mkL [(0,Xd6.fr)]) (l:=[(0,.loop Xd6.c)]) ⟨Lam.cons Xd6.ok,trivial⟩
  (fun x=>by simp only[Xeh,mC,mB,mS,mO,mN];kernel_rfl)
end Xeh
def Xey (v:List Int) (v2:Unit):Option Bool:=
 (Xeh v v2).bind fun v3=>some (decide (v3≥0))
namespace Xey
def G:Gam:=mkG [(98,Xeh.FS)]
def pts:List PT:=[.cs SI,.clo 96 (.cs .unit)]
def FS:FS:=Ybn [.sh,.sh] pts (fun x=>Xey x.1 x.2.1) fun t=>⟨[.cs .bool t],[]⟩
theorem ok:Yb5 PR 95 FS:=
 Yxj Xg Xf Proofs.Try.f95 h0 .no (G:=G) (show GOk PR G from .cons Xeh.ok .nil) (L:=mkL []) (l:=[]) hT
  (fun x=>by simp only[Xey,mC,mB,mS,mO,mN];kernel_rfl)
end Xey
def Xd5.B (v:List Int) (v2:Int) (v3:Int) (v4:Int):Option (Int⊕((Int⊕Unit))):=
 cond (decide (v4<v3)) (cond (inB v4 v.length) (cond (v2 == (v.getD v4.toNat 0)) (some (.inr (.inl v4))) (some (.inl (w64 (v4+1))))) none) (some (.inr (.inr ())))
def Xd5 (v:List Int) (v2:Int) (v3:Int):Int→Option ((Int⊕Unit)):=
 Y9 fun s=>Xd5.B v v2 v3 s
def Xfl (v:List Int) (v2:Int):Option Int:=
 (Xd5 v v2 (v.length:Int) 0).bind fun v5=>sel v5 (fun v6=>some v6) (fun v7=>some (-1))
namespace Xd5
def c:=Yap (Yag Proofs.Try.f74) [1,0,1,0,0]
def sp:SP:=⟨[(0,.cs SI),(1,.cs I64),(7,.cs I64),(8,.cs I64)],[]⟩
def fr:=Yjc sp (fun x s=>Xd5.B x.1.1 x.1.2.1 x.1.2.2.1 s) (fun x=>x.1.2.2.2.1) fun x (oo0:(Int⊕Unit)) _ kk0=>sel oo0 (fun bb0=>kk0 (.rt) ⟨[(4,.cs I64 bb0)],[]⟩) (fun cc0=>kk0 (.ex 0) ⟨[],[]⟩)
theorem ok:Ya5 PR 19 2 (.loop c) fr:=
 Ytf Xg Xf h0 .no (G:=(mkG [])) .nil (L:=mkL []) (l:=[]) hT [(0,([],[]))] ([4],[]) (fun x s=>((x.1.1,x.1.2.1,x.1.2.2.1,s,x.1.2.2.2.2),x.2))
  (fun x s=>by simp only[B,mC,mB,mS,mO,mN];kernel_rfl)
end Xd5
namespace Xfl
def pts:List PT:=[.cs SI,.cs I64]
def FS:FS:=Ybn [.sh,.sh] pts (fun x=>Xfl x.1 x.2.1) fun t=>⟨[.cs I64 t],[]⟩
theorem ok:Yb5 PR 74 FS:=
 Yxj Xg Xf Proofs.Try.f74 h0 (.R (.L (.R (.one (.fr 0))))) (G:=(mkG [])) .nil (L:=mkL [(0,Xd5.fr)]) (l:=[(0,.loop Xd5.c)]) ⟨Lam.cons Xd5.ok,trivial⟩
  (fun x=>by simp only[Xfl,mC,mB,mS,mO,mN];kernel_rfl)
end Xfl
def Xds (v:List Int) (v2:Int):Option Bool:=
 (Xfl v v2).bind fun v3=>some (decide (v3≥0))
namespace Xds
def G:Gam:=mkG [(74,Xfl.FS)]
def pts:List PT:=[.cs SI,.cs I64]
def FS:FS:=Ybn [.sh,.sh] pts (fun x=>Xds x.1 x.2.1) fun t=>⟨[.cs .bool t],[]⟩
theorem ok:Yb5 PR 54 FS:=
 Yxj Xg Xf Proofs.Try.f54 h0 .no (G:=G) (show GOk PR G from .cons Xfl.ok .nil) (L:=mkL []) (l:=[]) hT
  (fun x=>by simp only[Xds,mC,mB,mS,mO,mN];kernel_rfl)
end Xds
def Xdd.B (v:Xb) (v7:List Int) (v8:Int) (v9:Int):Option (Int⊕((Int⊕Unit))):=
 cond (decide (v9<v8)) (cond (inB v9 v7.length) (cond (decide ((0:Int)≤v9)&&decide (v9≤(v.2.2.2.1.length:Int))) ((Xds ((v.2.2.2.1.take v9.toNat).drop 0) (v7.getD v9.toNat 0)).bind fun v10=>cond v10 (some (.inr (.inl 7))) (some (.inl (w64 (v9+1))))) none) none) (some (.inr (.inr ())))
def Xdd (v:Xb) (v7:List Int) (v8:Int):Int→Option ((Int⊕Unit)):=
 Y9 fun s=>Xdd.B v v7 v8 s
def Xdl (v:Xb):Option Int:=
 (Xbm v.2.1 1 60).bind fun v2=>cond (!v2) (some 3) ((Xbm v.2.2.1 0 32).bind fun v3=>cond (!v3) (some 3) ((Xeb v.2.2.2.1).bind fun v4=>(Xft v.2.2.1).bind fun v5=>cond (v4 != v5) (some 1) ((Xey v.2.2.2.1 ()).bind fun v6=>cond v6 (some 3) ((Xdd v v.2.2.2.1 (v.2.2.2.1.length:Int) 0).bind fun v11=>sel v11 (fun v12=>some v12) (fun v13=>some 0)))))
namespace Xdl
def G:Gam:=mkG [(85,Xbm.FS),(46,Xeb.FS),(94,Xft.FS),(95,Xey.FS),(54,Xds.FS)]
theorem Gok:GOk PR G:=.cons Xbm.ok (.cons Xeb.ok (.cons Xft.ok (.cons Xey.ok (.cons Xds.ok .nil))))
end Xdl
namespace Xdd
def c:=Yap (Yag Proofs.Try.f86) [1,1,0,1,0,0]
def sp:SP:=⟨[(1,.pt Xd),(29,.cs SI),(30,.cs I64),(31,.cs I64)],[]⟩
def fr:=Yjc sp (fun x s=>Xdd.B x.1.1 x.1.2.1 x.1.2.2.1 s) (fun x=>x.1.2.2.2.1) fun x (oo0:(Int⊕Unit)) _ kk0=>sel oo0 (fun bb0=>kk0 (.rt) ⟨[(2,.cs I64 bb0)],[]⟩) (fun cc0=>kk0 (.ex 1) ⟨[],[]⟩)
theorem ok:Ya5 PR 43 1 (.loop c) fr:=
 Ytf Xg Xf ⟨[1],[],[],0⟩ .no (G:=Xdl.G) Xdl.Gok (L:=mkL []) (l:=[]) hT [(1,([],[]))] ([2],[]) (fun x s=>((x.1.1,x.1.2.1,x.1.2.2.1,s,x.1.2.2.2.2),x.2))
  (fun x s=>by simp only[B,mC,mB,mS,mO,mN];kernel_rfl)
end Xdd
namespace Xdl
def pts:List PT:=[.cs Xd]
def FS:FS:=Ybn [.sh] pts (fun x=>Xdl x.1) fun t=>⟨[.cs I64 t],[]⟩
theorem ok:Yb5 PR 86 FS:=
 Yxj Xg Xf Proofs.Try.f86 ⟨[1],[],[],0⟩ (.R (.R (.L (.R (.one (.fr 0)))))) (G:=G) Gok (L:=mkL [(0,Xdd.fr)]) (l:=[(0,.loop Xdd.c)]) ⟨Lam.cons Xdd.ok,trivial⟩
  (fun x=>by simp only[Xdl,mC,mB,mS,mO,mN];kernel_rfl)
end Xdl
def Xef.B (v:List UInt8) (v2:Int) (v3:Int):Option (Int⊕((Int⊕Unit))):=
 cond (decide (v3<v2)) (cond (inB v3 v.length) (cond (cond (!(decide (((v.getD v3.toNat 0).toNat:Int)<97))) (inB v3 v.length) true) ((some (cond (decide (((v.getD v3.toNat 0).toNat:Int)<97)) true (decide (((v.getD v3.toNat 0).toNat:Int)>122)))).bind fun v4=>cond v4 (some (.inr (.inl 5))) (some (.inl (w64 (v3+1))))) none) none) (some (.inr (.inr ())))
def Xef (v:List UInt8) (v2:Int):Int→Option ((Int⊕Unit)):=
 Y9 fun s=>Xef.B v v2 s
def Xfc (v:List UInt8):Option Int:=
 cond (v == ([]:List UInt8)) (some 5) ((Xef v (v.length:Int) 0).bind fun v5=>sel v5 (fun v6=>some v6) (fun v7=>cond (decide ((v.length:Int)>4)) (some 2) (some 0)))
namespace Xef
def c:=Yap (Yag Proofs.Try.f97) [1,1,0,1,0,0]
def sp:SP:=⟨[(0,.cs .str),(7,.cs I64),(8,.cs I64)],[]⟩
def fr:=Yjc sp (fun x s=>Xef.B x.1.1 x.1.2.1 s) (fun x=>x.1.2.2.1) fun x (oo0:(Int⊕Unit)) _ kk0=>sel oo0 (fun bb0=>kk0 (.rt) ⟨[(2,.cs I64 bb0)],[]⟩) (fun cc0=>kk0 (.ex 0) ⟨[(0,.cs .str x.1.1)],[]⟩)
theorem ok:Ya5 PR 25 1 (.loop c) fr:=
 Ytf Xg Xf h0 .no (G:=(mkG [])) .nil (L:=mkL []) (l:=[]) hT [(0,([0],[]))] ([2],[]) (fun x s=>((x.1.1,x.1.2.1,s,x.1.2.2.2),x.2))
  (fun x s=>by simp only[B,mC,mB,mS,mO,mN];kernel_rfl)
end Xef
namespace Xfc
def pts:List PT:=[.cs .str]
def FS:FS:=Ybn [.sh] pts (fun x=>Xfc x.1) fun t=>⟨[.cs I64 t],[]⟩
theorem ok:Yb5 PR 97 FS:=
 Yxj Xg Xf Proofs.Try.f97 h0 (.R (.R (.L (.R (.one (.fr 0)))))) (G:=(mkG [])) .nil (L:=mkL [(0,Xef.fr)]) (l:=[(0,.loop Xef.c)]) ⟨Lam.cons Xef.ok,trivial⟩
  (fun x=>by simp only[Xfc,mC,mB,mS,mO,mN];kernel_rfl)
end Xfc
def Xda.B (v:Xb) (v2:List Xc) (v3:Int) (v4:Int):Option (Int⊕((Int⊕Unit))):=
 cond (decide (v4<v3)) (cond (inB v4 v2.length) ((Xfc (v2.getD v4.toNat Xh).1).bind fun v5=>cond (v5 != 0) (some (.inr (.inl v5))) ((Xbm (v2.getD v4.toNat Xh).2.1 0 9).bind fun v6=>cond (!v6) (some (.inr (.inl 3))) (cond (cond (decide (v4>0)) (inB (w64 (v4-1)) v.2.2.2.2.1.length) true) ((some (cond (decide (v4>0)) (!leB (v.2.2.2.2.1.getD (w64 (v4-1)).toNat Xh).1 (v2.getD v4.toNat Xh).1) false)).bind fun v7=>cond v7 (some (.inr (.inl 1))) (some (.inl (w64 (v4+1))))) none))) none) (some (.inr (.inr ())))
def Xda (v:Xb) (v2:List Xc) (v3:Int):Int→Option ((Int⊕Unit)):=
 Y9 fun s=>Xda.B v v2 v3 s
def Xcz (v:Xb):Option Int:=
 cond (decide ((v.2.2.2.2.1.length:Int)>6)) (some 2) ((Xda v v.2.2.2.2.1 (v.2.2.2.2.1.length:Int) 0).bind fun v8=>sel v8 (fun v9=>some v9) (fun v10=>some 0))
namespace Xcz
def G:Gam:=mkG [(97,Xfc.FS),(85,Xbm.FS)]
theorem Gok:GOk PR G:=.cons Xfc.ok (.cons Xbm.ok .nil)
end Xcz
namespace Xda
def c:=Yap (Yag Proofs.Try.f87) [1,1,0,1,0,0]
def sp:SP:=⟨[(1,.pt Xd),(11,.cs (.sl Xe)),(12,.cs I64),(13,.cs I64)],[]⟩
def fr:=Yjc sp (fun x s=>Xda.B x.1.1 x.1.2.1 x.1.2.2.1 s) (fun x=>x.1.2.2.2.1) fun x (oo0:(Int⊕Unit)) _ kk0=>sel oo0 (fun bb0=>kk0 (.rt) ⟨[(2,.cs I64 bb0)],[]⟩) (fun cc0=>kk0 (.ex 0) ⟨[],[]⟩)
theorem ok:Ya5 PR 43 1 (.loop c) fr:=
 Ytf Xg Xf ⟨[1],[],[],0⟩ .no (G:=Xcz.G) Xcz.Gok (L:=mkL []) (l:=[]) hT [(0,([],[]))] ([2],[]) (fun x s=>((x.1.1,x.1.2.1,x.1.2.2.1,s,x.1.2.2.2.2),x.2))
  (fun x s=>by simp only[B,mC,mB,mS,mO,mN];kernel_rfl)
end Xda
namespace Xcz
def pts:List PT:=[.cs Xd]
def FS:FS:=Ybn [.sh] pts (fun x=>Xcz x.1) fun t=>⟨[.cs I64 t],[]⟩
theorem ok:Yb5 PR 87 FS:=
 Yxj Xg Xf Proofs.Try.f87 ⟨[1],[],[],0⟩ (.R (.R (.L (.R (.one (.fr 0)))))) (G:=G) Gok (L:=mkL [(0,Xda.fr)]) (l:=[(0,.loop Xda.c)]) ⟨Lam.cons Xda.ok,trivial⟩
  (fun x=>by simp only[Xcz,mC,mB,mS,mO,mN];kernel_rfl)
end Xcz
def Xfe (v:Xb):Option Int:=
 (some (cond (cond (v.2.1 == 0) (v.2.2.1 == 0) false) ((v.2.2.2.1.length:Int) == 0) false)).bind fun v2=>(Xbm v.1 0 2).bind fun v3=>cond (!v3) (some 1) (cond (cond (v.1 != 1) (!v2) false) (some 1) ((some (cond (v.1 != 2) (!((v.2.2.2.2.1.length:Int) == 0)) false)).bind fun v4=>cond v4 (some 1) (cond (v.1 == 1) ((Xdl v).bind fun v5=>some v5) ((Xcz v).bind fun v6=>some v6))))
namespace Xfe
def G:Gam:=mkG [(85,Xbm.FS),(86,Xdl.FS),(87,Xcz.FS)]
def pts:List PT:=[.cs Xd]
def FS:FS:=Ybn [.sh] pts (fun x=>Xfe x.1) fun t=>⟨[.cs I64 t],[]⟩
theorem ok:Yb5 PR 70 FS:=
 Yxj Xg Xf Proofs.Try.f70 ⟨[1],[],[],0⟩ .no (G:=G) (show GOk PR G from .cons Xbm.ok (.cons Xdl.ok (.cons Xcz.ok .nil))) (L:=mkL []) (l:=[]) hT
  (fun x=>by simp only[Xfe,mC,mB,mS,mO,mN];kernel_rfl)
end Xfe
def Xec.B (v:List Xb) (v2:Int) (v3:Int):Option (Int⊕((Int⊕Unit))):=
 cond (decide (v3<v2)) (cond (inB v3 v.length) ((Xfe (v.getD v3.toNat Xa)).bind fun v4=>cond (v4 != 0) (some (.inr (.inl v4))) (some (.inl (w64 (v3+1))))) none) (some (.inr (.inr ())))
def Xec (v:List Xb) (v2:Int):Int→Option ((Int⊕Unit)):=
 Y9 fun s=>Xec.B v v2 s
def Xc7 (v:List Xb):Option Int:=
 cond (decide ((v.length:Int)>10)) (some 2) ((Xec v (v.length:Int) 0).bind fun v5=>sel v5 (fun v6=>some v6) (fun v7=>some 0))
namespace Xc7
def G:Gam:=mkG [(70,Xfe.FS)]
theorem Gok:GOk PR G:=.cons Xfe.ok .nil
end Xc7
namespace Xec
def c:=Yap (Yag Proofs.Try.f45) [1,1,0,1,0,0]
def sp:SP:=⟨[(9,.cs (.sl Xd)),(10,.cs I64),(11,.cs I64)],[]⟩
def fr:=Yjc sp (fun x s=>Xec.B x.1.1 x.1.2.1 s) (fun x=>x.1.2.2.1) fun x (oo0:(Int⊕Unit)) _ kk0=>sel oo0 (fun bb0=>kk0 (.rt) ⟨[(2,.cs I64 bb0)],[]⟩) (fun cc0=>kk0 (.ex 0) ⟨[],[]⟩)
theorem ok:Ya5 PR 21 1 (.loop c) fr:=
 Ytf Xg Xf h0 .no (G:=Xc7.G) Xc7.Gok (L:=mkL []) (l:=[]) hT [(0,([],[]))] ([2],[]) (fun x s=>((x.1.1,x.1.2.1,s,x.1.2.2.2),x.2))
  (fun x s=>by simp only[B,mC,mB,mS,mO,mN];kernel_rfl)
end Xec
namespace Xc7
def pts:List PT:=[.cs (.sl Xd)]
def FS:FS:=Ybn [.sh] pts (fun x=>Xc7 x.1) fun t=>⟨[.cs I64 t],[]⟩
theorem ok:Yb5 PR 45 FS:=
 Yxj Xg Xf Proofs.Try.f45 h0 (.R (.R (.L (.R (.one (.fr 0)))))) (G:=G) Gok (L:=mkL [(0,Xec.fr)]) (l:=[(0,.loop Xec.c)]) ⟨Lam.cons Xec.ok,trivial⟩
  (fun x=>by simp only[Xc7,mC,mB,mS,mO,mN];kernel_rfl)
end Xc7
def Xfa (v:Fs_):Option Int:=
 (Xc7 v.1).bind fun v2=>cond (v2 != 0) (some v2) (cond (cond (!((v.1.length:Int) == 0)) (inB 0 v.1.length) true) ((some (cond ((v.1.length:Int) == 0) true ((v.1.getD (0:Int).toNat Xa).1 != 2))).bind fun v3=>cond (cond v3 true ((v.2.1.length:Int) != 20)) (some 1) (some 0)) none)
namespace Xfa
def G:Gam:=mkG [(45,Xc7.FS)]
def pts:List PT:=[.cs Xi]
def FS:FS:=Ybn [.sh] pts (fun x=>Xfa x.1) fun t=>⟨[.cs I64 t],[]⟩
theorem ok:Yb5 PR 25 FS:=
 Yxj Xg Xf Proofs.Try.f25 ⟨[1],[],[],0⟩ .no (G:=G) (show GOk PR G from .cons Xc7.ok .nil) (L:=mkL []) (l:=[]) hT
  (fun x=>by simp only[Xfa,mC,mB,mS,mO,mN];kernel_rfl)
end Xfa
def Xfy (v:List Xb):Option Int:=
 some (v.length:Int)
namespace Xfy
def pts:List PT:=[.cs (.sl Xd)]
def FS:FS:=Ybn [.sh] pts (fun x=>Xfy x.1) fun t=>⟨[.cs I64 t],[]⟩
theorem ok:Yb5 PR 73 FS:=
 Yxj Xg Xf Proofs.Try.f73 h0 .no (G:=(mkG [])) .nil (L:=mkL []) (l:=[]) hT
  (fun x=>by simp only[Xfy,mC,mB,mS,mO,mN];kernel_rfl)
end Xfy
def Xev (v:Xfp) (v2:Xc):Option Bool:=
 (Xfy v.1.1).bind fun v3=>cond (cond (decide (v2.2.1≥v3)) true (v2.2.1 == 0)) (some false) (cond (inB v2.2.1 v.1.1.length) (cond ((v.1.1.getD v2.2.1.toNat Xa).1 == 0) (some false) (cond ((v.1.1.getD v2.2.1.toNat Xa).1 == 2) (cond (inB v2.2.1 v.2.1.length) (some (!(v.2.1.getD v2.2.1.toNat false))) none) (some true))) none)
namespace Xev
def G:Gam:=mkG [(73,Xfy.FS)]
def pts:List PT:=[.pt Xel,.cs Xe]
def FS:FS:=Ybn [.sh,.sh] pts (fun x=>Xev x.1 x.2.1) fun t=>⟨[.cs .bool t],[]⟩
theorem ok:Yb5 PR 53 FS:=
 Yxj Xg Xf Proofs.Try.f53 ⟨[3],[],[],0⟩ .no (G:=G) (show GOk PR G from .cons Xfy.ok .nil) (L:=mkL []) (l:=[]) hT
  (fun x=>by simp only[Xev,mC,mB,mS,mO,mN];kernel_rfl)
end Xev
def Xcl.B (v:Fs_) (v8:Int) (v7:List Xc) (v9:Int) (v5:Fs_) (v10:Int) (v11:List Int) (v12:(List Bool)×(List (List Xc))×Int×(List Int)×(List Int)×Unit):Option ((Int×(List Int)×(List Bool)×(List (List Xc))×Int×(List Int)×(List Int)×Unit)⊕((List Int)×(List Bool)×(List (List Xc))×Int×(List Int)×(List Int)×Unit)):=
 cond (decide (v10<v9)) (cond (inB v10 v7.length) ((Xev (v5,v12) (v7.getD v10.toNat Xh)).bind fun v13=>cond (!v13) (some (.inl (w64 (v10+1),v11,(v12.1,v12.2.1,w64 (v12.2.2.1+1),v12.2.2.2)))) (cond (inB v8 v12.2.1.length) ((some ((v12.2.1.getD v8.toNat [])++([v7.getD v10.toNat Xh]))).bind fun v14=>cond (decide (v14.length≤2147483648)) (cond (inB v8 v12.2.1.length) (cond (Nat.beq v8.toNat v8.toNat&&true) (cond (inB (v7.getD v10.toNat Xh).2.1 v12.2.2.2.1.length) ((some (v12.2.2.2.1.getD ((v7.getD v10.toNat Xh).2.1.toNat) 0)).bind fun v15=>cond (inB (v7.getD v10.toNat Xh).2.1 v12.2.2.2.1.length) ((some (v12.2.2.2.1.set ((v7.getD v10.toNat Xh).2.1.toNat) (w64 (v15+1)))).bind fun v16=>cond (inB (v7.getD v10.toNat Xh).2.1 v12.1.length) ((some (v12.1.getD ((v7.getD v10.toNat Xh).2.1.toNat) false)).bind fun v17=>cond (cond (!v17) (inB (v7.getD v10.toNat Xh).2.1 v.1.length) true) ((some (cond (!v17) ((v.1.getD (v7.getD v10.toNat Xh).2.1.toNat Xa).1 == 2) false)).bind fun v18=>cond v18 (cond (decide ((v11++([(v7.getD v10.toNat Xh).2.1])).length≤2147483648)) (cond (inB (v7.getD v10.toNat Xh).2.1 v12.1.length) ((some (v12.1.set ((v7.getD v10.toNat Xh).2.1.toNat) true)).bind fun v19=>some (.inl (w64 (v10+1),v11++([(v7.getD v10.toNat Xh).2.1]),(v19,v12.2.1.set v8.toNat v14,v12.2.2.1,v16,v12.2.2.2.2)))) none) none) (cond (inB (v7.getD v10.toNat Xh).2.1 v12.1.length) ((some (v12.1.set ((v7.getD v10.toNat Xh).2.1.toNat) true)).bind fun v20=>some (.inl (w64 (v10+1),v11,(v20,v12.2.1.set v8.toNat v14,v12.2.2.1,v16,v12.2.2.2.2)))) none)) none) none) none) none) none) none) none) none)) none) (some (.inr (v11,v12)))
def Xcl (v:Fs_) (v8:Int) (v7:List Xc) (v9:Int) (v5:Fs_):(Int×(List Int)×(List Bool)×(List (List Xc))×Int×(List Int)×(List Int)×Unit)→Option ((List Int)×(List Bool)×(List (List Xc))×Int×(List Int)×(List Int)×Unit):=
 Y9 fun s=>Xcl.B v v8 v7 v9 v5 s.1 s.2.1 s.2.2
def Xd8.B (v:Fs_) (v5:Fs_) (v4:List Int) (v6:(List Bool)×(List (List Xc))×Int×(List Int)×(List Int)×Unit):Option (((List Int)×(List Bool)×(List (List Xc))×Int×(List Int)×(List Int)×Unit)⊕((List Bool)×(List (List Xc))×Int×(List Int)×(List Int)×Unit)):=
 cond (decide ((v4.length:Int)>0)) (cond (inB 0 v4.length) (cond (inB (v4.getD ((0:Int).toNat) 0) v.1.length) ((some (v.1.getD (v4.getD ((0:Int).toNat) 0).toNat Xa).2.2.2.2.1).bind fun v7=>(Xcl v (v4.getD ((0:Int).toNat) 0) v7 (v7.length:Int) v5 (0,v4,v6)).bind fun v21=>cond (decide ((0:Int)≤(1:Int))&&decide ((1:Int)≤(v21.1.length:Int))) ((some ((v21.1.drop ((1:Int).toNat)).take (v21.1.length-((1:Int).toNat)))).bind fun v22=>some (.inl (v22,v21.2))) none) none) none) (some (.inr v6))
def Xd8 (v:Fs_) (v5:Fs_):((List Int)×(List Bool)×(List (List Xc))×Int×(List Int)×(List Int)×Unit)→Option ((List Bool)×(List (List Xc))×Int×(List Int)×(List Int)×Unit):=
 Y9 fun s=>Xd8.B v v5 s.1 s.2
def Xcp.B (v26:Int) (v24:List Xb) (v25:Int) (v30:Int) (v31:List Int) (v29:Int) (v:Fs_) (v32:Int) (v33:List Int) (v34:(List Bool)×(List (List Xc))×Int×(List Int)×(List Int)×Unit):Option ((Int×(List Int)×(List Bool)×(List (List Xc))×Int×(List Int)×(List Int)×Unit)⊕((List Int)×(List Bool)×(List (List Xc))×Int×(List Int)×(List Int)×Unit)):=
 cond (decide (v32<v29)) (cond (inB v32 v31.length) ((Xds v33 (v31.getD v32.toNat 0)).bind fun v35=>cond v35 (some (.inr (v33,v34))) (cond (decide ((v33++([v31.getD v32.toNat 0])).length≤2147483648)) (cond (inB v26 v34.2.2.2.2.1.length) (cond (inB v26 v34.2.2.2.2.1.length) ((some (v34.2.2.2.2.1.set v26.toNat (w64 ((v34.2.2.2.2.1.getD v26.toNat 0)+1)))).bind fun v36=>some (.inl (w64 (v32+1),v33++([v31.getD v32.toNat 0]),(v34.1,v34.2.1,v34.2.2.1,v34.2.2.2.1,v36,v34.2.2.2.2.2)))) none) none) none)) none) (some (.inr (v33,v34)))
def Xcp (v26:Int) (v24:List Xb) (v25:Int) (v30:Int) (v31:List Int) (v29:Int) (v:Fs_):(Int×(List Int)×(List Bool)×(List (List Xc))×Int×(List Int)×(List Int)×Unit)→Option ((List Int)×(List Bool)×(List (List Xc))×Int×(List Int)×(List Int)×Unit):=
 Y9 fun s=>Xcp.B v26 v24 v25 v30 v31 v29 v s.1 s.2.1 s.2.2
def Xc3.B (v24:List Xb) (v25:Int) (v:Fs_) (v26:Int) (v27:List Int) (v28:(List Bool)×(List (List Xc))×Int×(List Int)×(List Int)×Unit):Option ((Int×(List Int)×(List Bool)×(List (List Xc))×Int×(List Int)×(List Int)×Unit)⊕((List Bool)×(List (List Xc))×Int×(List Int)×(List Int)×Unit)):=
 cond (decide (v26<v25)) (cond (inB v26 v24.length) (cond (inB v26 v28.1.length) (cond (!(v28.1.getD v26.toNat false)) (some (.inl (w64 (v26+1),v27,v28))) ((some ((v24.getD v26.toNat Xa).2.2.2.1.length:Int)).bind fun v29=>(Xcp v26 v24 v25 v26 (v24.getD v26.toNat Xa).2.2.2.1 v29 v (0,v27,v28)).bind fun v37=>some (.inl (w64 (v26+1),v37.1,v37.2)))) none) none) (some (.inr v28))
def Xc3 (v24:List Xb) (v25:Int) (v:Fs_):(Int×(List Int)×(List Bool)×(List (List Xc))×Int×(List Int)×(List Int)×Unit)→Option ((List Bool)×(List (List Xc))×Int×(List Int)×(List Int)×Unit):=
 Y9 fun s=>Xc3.B v24 v25 v s.1 s.2.1 s.2.2
def Xbe (v:Fs_):Option (Fs_×(List Bool)×(List (List Xc))×Int×(List Int)×(List Int)×Unit):=
 cond (decide ((0:Int)≤(v.1.length:Int))&&(decide ((v.1.length:Int)≤(v.1.length:Int))&&decide ((v.1.length:Int)≤2147483648))) (cond (decide ((0:Int)≤(v.1.length:Int))&&(decide ((v.1.length:Int)≤(v.1.length:Int))&&decide ((v.1.length:Int)≤2147483648))) ((some (List.replicate (v.1.length:Int).toNat ([]:List Xc))).bind fun v2=>cond (decide ((0:Int)≤(v.1.length:Int))&&(decide ((v.1.length:Int)≤(v.1.length:Int))&&decide ((v.1.length:Int)≤2147483648))) (cond (decide ((0:Int)≤(v.1.length:Int))&&(decide ((v.1.length:Int)≤(v.1.length:Int))&&decide ((v.1.length:Int)≤2147483648))) (cond (inB 0 ((List.replicate (v.1.length:Int).toNat false).length)) ((some ((List.replicate (v.1.length:Int).toNat false).set ((0:Int).toNat) true)).bind fun v3=>(Xd8 v v ([0],(v3,v2,0,List.replicate (v.1.length:Int).toNat 0,List.replicate (v.1.length:Int).toNat 0,()))).bind fun v23=>(Xc3 v.1 (v.1.length:Int) v (0,[],v23)).bind fun v38=>some (v,v38)) none) none) none) none) none
namespace Xbe
def G:Gam:=mkG [(53,Xev.FS),(54,Xds.FS)]
theorem Gok:GOk PR G:=.cons Xev.ok (.cons Xds.ok .nil)
end Xbe
namespace Xcl
def c:=Yap (Yag Proofs.Try.f34) [1,1,1,1,0,1,0,0,1,0,0,1,1,0,0]
def sp:SP:=⟨[(1,.pt Xi),(4,.loc 27 []),(5,.seg 5 []),(6,.cs I64),(47,.cs (.sl Xe)),(48,.cs I64),(49,.cs I64)],[(5,.reg,.cd SI),(27,.mem,.pr (.cs Xi) (.cd (.pair (.sl .bool) (.pair (.sl (.sl Xe)) (.pair I64 (.pair SI (.pair SI .unit)))))))]⟩
def fr:=Yjc sp (fun x s=>Xcl.B x.1.1 x.1.2.2.2.1 x.1.2.2.2.2.1 x.1.2.2.2.2.2.1 x.2.2.1.1 s.1 s.2.1 s.2.2) (fun x=>(x.1.2.2.2.2.2.2.1,x.2.1,x.2.2.1.2)) fun x (bb0:(List Int)×(List Bool)×(List (List Xc))×Int×(List Int)×(List Int)×Unit) _ kk0=>kk0 (.ex 2) ⟨[(1,.pt Xi x.1.1),(4,.loc 27 []),(5,.seg 5 [])],[sr 5 (.cd SI bb0.1),(27,some ⟨.mem,.pr (.cs Xi x.2.2.1.1) (.cd (.pair (.sl .bool) (.pair (.sl (.sl Xe)) (.pair I64 (.pair SI (.pair SI .unit))))) bb0.2)⟩)]⟩
theorem ok:Ya5 PR 164 1 (.loop c) fr:=
 Yxl Xg Xf ⟨[1],[],[],0⟩ (G:=Xbe.G) Xbe.Gok [(2,([1,4,5],[5,27]))] (fun x s=>((x.1.1,x.1.2.1,x.1.2.2.1,x.1.2.2.2.1,x.1.2.2.2.2.1,x.1.2.2.2.2.2.1,s.1,x.1.2.2.2.2.2.2.2),(s.2.1,(x.2.2.1.1,s.2.2),x.2.2.2)))
  (fun x s=>by simp only[B,mC,mB,mS,mO,mN];kernel_rfl)
end Xcl
namespace Xd8
def c:=Yap (Yag Proofs.Try.f34) [1,1,1,1,0,1,0,0]
def sp:SP:=⟨[(1,.pt Xi),(4,.loc 27 []),(5,.seg 5 [])],[(5,.reg,.cd SI),(27,.mem,.pr (.cs Xi) (.cd (.pair (.sl .bool) (.pair (.sl (.sl Xe)) (.pair I64 (.pair SI (.pair SI .unit)))))))]⟩
def fr:=Yjc sp (fun x s=>Xd8.B x.1.1 x.2.2.1.1 s.1 s.2) (fun x=>(x.2.1,x.2.2.1.2)) fun x (bb0:(List Bool)×(List (List Xc))×Int×(List Int)×(List Int)×Unit) _ kk0=>kk0 (.ex 0) ⟨[(1,.pt Xi x.1.1),(4,.loc 27 [])],[(27,some ⟨.mem,.pr (.cs Xi x.2.2.1.1) (.cd (.pair (.sl .bool) (.pair (.sl (.sl Xe)) (.pair I64 (.pair SI (.pair SI .unit))))) bb0)⟩)]⟩
theorem ok:Ya5 PR 164 1 (.loop c) fr:=
 Yxn Xg Xf ⟨[1],[],[],0⟩ (.R (.L (.one (.R (.R (.one (.fr 1))))))) (G:=Xbe.G) Xbe.Gok (L:=mkL [(1,Xcl.fr)]) (l:=[(1,.loop Xcl.c)]) ⟨Lam.cons Xcl.ok,trivial⟩ [(0,([1,4],[27]))] (fun x s=>(x.1,(s.1,(x.2.2.1.1,s.2),x.2.2.2)))
  (fun x s=>by simp only[B,mC,mB,mS,mO,mN];kernel_rfl)
end Xd8
namespace Xcp
def c:=Yap (Yag Proofs.Try.f34) [1,1,1,1,1,1,0,1,0,0,1,1,0,0,1,1,1,0,0]
def sp:SP:=⟨[(4,.loc 27 []),(9,.seg 9 []),(10,.cs I64),(123,.cs (.sl Xd)),(124,.cs I64),(125,.cs I64),(139,.cs SI),(140,.cs I64),(141,.cs I64)],[(9,.reg,.cd SI),(27,.mem,.pr (.cs Xi) (.cd (.pair (.sl .bool) (.pair (.sl (.sl Xe)) (.pair I64 (.pair SI (.pair SI .unit)))))))]⟩
def fr:=Yjc sp (fun x s=>Xcp.B x.1.2.2.1 x.1.2.2.2.1 x.1.2.2.2.2.1 x.1.2.2.2.2.2.1 x.1.2.2.2.2.2.2.1 x.1.2.2.2.2.2.2.2.1 x.2.2.1.1 s.1 s.2.1 s.2.2) (fun x=>(x.1.2.2.2.2.2.2.2.2.1,x.2.1,x.2.2.1.2)) fun x (bb0:(List Int)×(List Bool)×(List (List Xc))×Int×(List Int)×(List Int)×Unit) _ kk0=>kk0 (.ex 6) ⟨[(4,.loc 27 []),(9,.seg 9 []),(123,.cs (.sl Xd) x.1.2.2.2.1),(124,.cs I64 x.1.2.2.2.2.1),(125,.cs I64 x.1.2.2.2.2.2.1)],[sr 9 (.cd SI bb0.1),(27,some ⟨.mem,.pr (.cs Xi x.2.2.1.1) (.cd (.pair (.sl .bool) (.pair (.sl (.sl Xe)) (.pair I64 (.pair SI (.pair SI .unit))))) bb0.2)⟩)]⟩
theorem ok:Ya5 PR 164 1 (.loop c) fr:=
 Yxl Xg Xf ⟨[1],[],[],0⟩ (G:=Xbe.G) Xbe.Gok [(6,([4,9,123,124,125],[9,27]))] (fun x s=>((x.1.1,x.1.2.1,x.1.2.2.1,x.1.2.2.2.1,x.1.2.2.2.2.1,x.1.2.2.2.2.2.1,x.1.2.2.2.2.2.2.1,x.1.2.2.2.2.2.2.2.1,s.1,x.1.2.2.2.2.2.2.2.2.2),(s.2.1,(x.2.2.1.1,s.2.2),x.2.2.2)))
  (fun x s=>by simp only[B,mC,mB,mS,mO,mN];kernel_rfl)
end Xcp
namespace Xc3
def c:=Yap (Yag Proofs.Try.f34) [1,1,1,1,1,1,0,1,0,0]
def sp:SP:=⟨[(4,.loc 27 []),(9,.seg 9 []),(123,.cs (.sl Xd)),(124,.cs I64),(125,.cs I64)],[(9,.reg,.cd SI),(27,.mem,.pr (.cs Xi) (.cd (.pair (.sl .bool) (.pair (.sl (.sl Xe)) (.pair I64 (.pair SI (.pair SI .unit)))))))]⟩
def fr:=Yjc sp (fun x s=>Xc3.B x.1.2.2.1 x.1.2.2.2.1 x.2.2.1.1 s.1 s.2.1 s.2.2) (fun x=>(x.1.2.2.2.2.1,x.2.1,x.2.2.1.2)) fun x (bb0:(List Bool)×(List (List Xc))×Int×(List Int)×(List Int)×Unit) _ kk0=>kk0 (.ex 4) ⟨[(4,.loc 27 [])],[(27,some ⟨.mem,.pr (.cs Xi x.2.2.1.1) (.cd (.pair (.sl .bool) (.pair (.sl (.sl Xe)) (.pair I64 (.pair SI (.pair SI .unit))))) bb0)⟩)]⟩
theorem ok:Ya5 PR 164 1 (.loop c) fr:=
 Yxn Xg Xf ⟨[1],[],[],0⟩ (.R (.R (.L (.one (.R (.R (.R (.one (.fr 3))))))))) (G:=Xbe.G) Xbe.Gok (L:=mkL [(3,Xcp.fr)]) (l:=[(3,.loop Xcp.c)]) ⟨Lam.cons Xcp.ok,trivial⟩ [(4,([4],[27]))] (fun x s=>((x.1.1,x.1.2.1,x.1.2.2.1,x.1.2.2.2.1,s.1,x.1.2.2.2.2.2),(s.2.1,(x.2.2.1.1,s.2.2),x.2.2.2)))
  (fun x s=>by simp only[B,mC,mB,mS,mO,mN];kernel_rfl)
end Xc3
namespace Xbe
def pts:List PT:=[.cs Xi]
def FS:FS:=Ybn [.sh] pts (fun x=>Xbe x.1) fun t=>⟨[.op (.pr (.cs Xi t.1) (.cd (.pair (.sl .bool) (.pair (.sl (.sl Xe)) (.pair I64 (.pair SI (.pair SI .unit))))) t.2))],[]⟩
theorem ok:Yb5 PR 34 FS:=
 Yxj Xg Xf Proofs.Try.f34 ⟨[1],[],[],0⟩ (.R (.R (.R (.R (.two (.R (.one (.fr 0))) (.R (.L (.R (.one (.fr 2)))))))))) (G:=G) Gok (L:=mkL [(1,Xcl.fr),(0,Xd8.fr),(3,Xcp.fr),(2,Xc3.fr)]) (l:=[(0,.loop Xd8.c),(2,.loop Xc3.c)]) ⟨Lam.skip rfl (Lam.cons Xd8.ok),Lam.skip rfl (Lam.skip rfl (Lam.skip rfl (Lam.cons Xc3.ok))),trivial⟩
  (fun x=>by simp only[Xbe,mC,mB,mS,mO,mN];kernel_rfl)
end Xbe
noncomputable def Xfu (s:List Int):Option (List Int):=Yma s
noncomputable def Xfu.FS:FS:=Ybn [.sh] [.cl .sh (.sl (.int .u8))] (fun x=>Xfu x.1) fun y=>⟨[.cl .deep (.sl (.int .u8)) y],[]⟩
theorem Xfu.ok:Yb5 Go.Proofs.Try.prog 89 Xfu.FS:=
 Yvo (hn:=⟨[],[],[],0⟩) Xg Xf (fn:=Go.Proofs.Try.f89) (by kernel_rfl) (Yg4 (by kernel_rfl)) (by kernel_rfl) (by kernel_rfl) .deep (.int .u8) 68 68 5 (by kernel_rfl) (by kernel_rfl) (by kernel_rfl) (by kernel_rfl) (by kernel_rfl) (by kernel_rfl) (by kernel_rfl) (by kernel_rfl) (fun xs=>by kernel_rfl) (fun xs=>by kernel_rfl) (fun xs=>by kernel_rfl) (fun xs=>by kernel_rfl)
def Xdm.B (v:List (List Int)) (v2:Int) (v3:Int) (v4:List (List Int)):Option ((Int×List (List Int))⊕(List (List Int))):=
 cond (decide (v3<v2)) (cond (inB v3 v.length) ((Xfu (v.getD v3.toNat [])).bind fun v5=>cond (decide ((v4++([v5])).length≤2147483648)) (some (.inl (w64 (v3+1),v4++([v5])))) none) none) (some (.inr v4))
def Xdm (v:List (List Int)) (v2:Int):(Int×List (List Int))→Option (List (List Int)):=
 Y9 fun s=>Xdm.B v v2 s.1 s.2
def Xdj (v:List (List Int)):Option (List (List Int)):=
 (Xdm v (v.length:Int) (0,[])).bind fun v6=>some v6
namespace Xdj
def G:Gam:=mkG [(89,Xfu.FS)]
theorem Gok:GOk PR G:=.cons Xfu.ok .nil
end Xdj
namespace Xdm
def c:=Yap (Yag Proofs.Try.f75) [1,1,0,1,0,0]
def sp:SP:=⟨[(3,.seg 3 []),(6,.cs (.sl SB)),(7,.cs I64),(8,.cs I64)],[(3,.reg,.cd (.sl SB))]⟩
def fr:=Yjc sp (fun x s=>Xdm.B x.1.2.1 x.1.2.2.1 s.1 s.2) (fun x=>(x.1.2.2.2.1,x.2.1)) fun x (bb0:List (List Int)) _ kk0=>kk0 (.ex 0) ⟨[(3,.seg 3 [])],[sr 3 (.cd (.sl SB) bb0)]⟩
theorem ok:Ya5 PR 19 1 (.loop c) fr:=
 Yxl Xg Xf h0 (G:=Xdj.G) Xdj.Gok [(0,([3],[3]))] (fun x s=>((x.1.1,x.1.2.1,x.1.2.2.1,s.1,x.1.2.2.2.2),(s.2,x.2.2)))
  (fun x s=>by simp only[B,mC,mB,mS,mO,mN];kernel_rfl)
end Xdm
namespace Xdj
def pts:List PT:=[.cs (.sl SB)]
def FS:FS:=Ybn [.sh] pts (fun x=>Xdj x.1) fun t=>⟨[.cd (.sl SB) t],[]⟩
theorem ok:Yb5 PR 75 FS:=
 Yxj Xg Xf Proofs.Try.f75 h0 (.R (.R (.L (.R (.one (.fr 0)))))) (G:=G) Gok (L:=mkL [(0,Xdm.fr)]) (l:=[(0,.loop Xdm.c)]) ⟨Lam.cons Xdm.ok,trivial⟩
  (fun x=>by simp only[Xdj,mC,mB,mS,mO,mN];kernel_rfl)
end Xdj
noncomputable def Xf1 (s:List Int):Option (List Int):=Yma s
noncomputable def Xf1.FS:FS:=Ybn [.sh] [.cl .sh (.sl (.int .i64))] (fun x=>Xf1 x.1) fun y=>⟨[.cl .deep (.sl (.int .i64)) y],[]⟩
theorem Xf1.ok:Yb5 Go.Proofs.Try.prog 76 Xf1.FS:=
 Yvo (hn:=⟨[],[],[],0⟩) Xg Xf (fn:=Go.Proofs.Try.f76) (by kernel_rfl) (Yg4 (by kernel_rfl)) (by kernel_rfl) (by kernel_rfl) .deep (.int .i64) 27 27 2 (by kernel_rfl) (by kernel_rfl) (by kernel_rfl) (by kernel_rfl) (by kernel_rfl) (by kernel_rfl) (by kernel_rfl) (by kernel_rfl) (fun xs=>by kernel_rfl) (fun xs=>by kernel_rfl) (fun xs=>by kernel_rfl) (fun xs=>by kernel_rfl)
noncomputable def Xeg (s:List Xc):Option (List Xc):=Yma s
noncomputable def Xeg.FS:FS:=Ybn [.sh] [.cl .sh (.sl Xe)] (fun x=>Xeg x.1) fun y=>⟨[.cl .deep (.sl Xe) y],[]⟩
theorem Xeg.ok:Yb5 Go.Proofs.Try.prog 56 Xeg.FS:=
 Yvo (hn:=⟨[],[],[],0⟩) Xg Xf (fn:=Go.Proofs.Try.f56) (by kernel_rfl) (Yg4 (by kernel_rfl)) (by kernel_rfl) (by kernel_rfl) .deep Xe 70 70 91 (by kernel_rfl) (by kernel_rfl) (by kernel_rfl) (by kernel_rfl) (by kernel_rfl) (by kernel_rfl) (by kernel_rfl) (by kernel_rfl) (fun xs=>by kernel_rfl) (fun xs=>by kernel_rfl) (fun xs=>by kernel_rfl) (fun xs=>by kernel_rfl)
def Xdq.B (v3:List Xb) (v4:Int) (v6:Fs_) (v5:Int) (v7:Fs_):Option ((Int×Fs_)⊕Fs_):=
 cond (decide (v5<v4)) (cond (inB v5 v3.length) ((Xf1 (v3.getD v5.toNat Xa).2.2.2.1).bind fun v8=>(Xeg (v3.getD v5.toNat Xa).2.2.2.2.1).bind fun v9=>(some (v7.1++([((v3.getD v5.toNat Xa).1,(v3.getD v5.toNat Xa).2.1,(v3.getD v5.toNat Xa).2.2.1,v8,v9,(v3.getD v5.toNat Xa).2.2.2.2.2)]))).bind fun v10=>cond (decide (v10.length≤2147483648)) (some (.inl (w64 (v5+1),(v10,v7.2)))) none) none) (some (.inr v7))
def Xdq (v3:List Xb) (v4:Int) (v6:Fs_):(Int×Fs_)→Option Fs_:=
 Y9 fun s=>Xdq.B v3 v4 v6 s.1 s.2
def Xdy (v:Fs_):Option Fs_:=
 (Xdj v.2.1).bind fun v2=>(Xdq v.1 (v.1.length:Int) ([],[],()) (0,([],v2,()))).bind fun v11=>some (v11.1,v11.2.1,v11.2.2)
namespace Xdy
def G:Gam:=mkG [(75,Xdj.FS),(76,Xf1.FS),(56,Xeg.FS)]
theorem Gok:GOk PR G:=.cons Xdj.ok (.cons Xf1.ok (.cons Xeg.ok .nil))
end Xdy
namespace Xdq
def c:=Yap (Yag Proofs.Try.f55) [1,1,0,1,0,0]
def sp:SP:=⟨[(2,.loc 2 []),(3,.loc 3 []),(11,.cs (.sl Xd)),(12,.cs I64),(13,.cs I64)],[(2,.mem,.cd Xi),(3,.mem,.cd Xi)]⟩
def fr:=Yjc sp (fun x s=>Xdq.B x.1.2.2.1 x.1.2.2.2.1 x.2.1 s.1 s.2) (fun x=>(x.1.2.2.2.2.1,x.2.2.1)) fun x (bb0:Fs_) _ kk0=>kk0 (.ex 0) ⟨[(2,.loc 2 []),(3,.loc 3 [])],[(2,some ⟨.mem,.cd Xi x.2.1⟩),(3,some ⟨.mem,.cd Xi bb0⟩)]⟩
theorem ok:Ya5 PR 33 1 (.loop c) fr:=
 Yxl Xg Xf ⟨[1],[],[],0⟩ (G:=Xdy.G) Xdy.Gok [(0,([2,3],[2,3]))] (fun x s=>((x.1.1,x.1.2.1,x.1.2.2.1,x.1.2.2.2.1,s.1,x.1.2.2.2.2.2),(x.2.1,s.2,x.2.2.2)))
  (fun x s=>by simp only[B,mC,mB,mS,mO,mN];kernel_rfl)
end Xdq
namespace Xdy
def pts:List PT:=[.cs Xi]
def FS:FS:=Ybn [.sh] pts (fun x=>Xdy x.1) fun t=>⟨[.cd Xi t],[]⟩
theorem ok:Yb5 PR 55 FS:=
 Yxj Xg Xf Proofs.Try.f55 ⟨[1],[],[],0⟩ (.R (.R (.L (.R (.one (.fr 0)))))) (G:=G) Gok (L:=mkL [(0,Xdq.fr)]) (l:=[(0,.loop Xdq.c)]) ⟨Lam.cons Xdq.ok,trivial⟩
  (fun x=>by simp only[Xdy,mC,mB,mS,mO,mN];kernel_rfl)
end Xdy
def Xaq.B (v:List Xb) (v2:Int) (v3:Int) (v7:List Int) (v6:Int) (v4:List Int) (v10:Xb) (v8:Int) (v9:List Int):Option ((Int×List Int)⊕(List Int)):=
 cond (decide (v8<v6)) (cond (inB v8 v7.length) ((some (cond (decide ((w64 (v10.2.2.1-(w64 (v8*8))))<8)) (w64 (v10.2.2.1-(w64 (v8*8)))) 8)).bind fun v11=>cond (inB (v7.getD v8.toNat 0) 20) (some (.inl (w64 (v8+1),v9.set ((v7.getD v8.toNat 0).toNat) v11))) none) none) (some (.inr v9))
def Xaq (v:List Xb) (v2:Int) (v3:Int) (v7:List Int) (v6:Int) (v4:List Int) (v10:Xb):(Int×List Int)→Option (List Int):=
 Y9 fun s=>Xaq.B v v2 v3 v7 v6 v4 v10 s.1 s.2
def Xa0.B (v:List Xb) (v2:Int) (v4:List Int) (v3:Int) (v5:List Int):Option ((Int×List Int)⊕(List Int)):=
 cond (decide (v3<v2)) (cond (inB v3 v.length) ((some ((v.getD v3.toNat Xa).2.2.2.1.length:Int)).bind fun v6=>(Xaq v v2 v3 (v.getD v3.toNat Xa).2.2.2.1 v6 v4 (v.getD v3.toNat Xa) (0,v5)).bind fun v12=>some (.inl (w64 (v3+1),v12))) none) (some (.inr v5))
def Xa0 (v:List Xb) (v2:Int) (v4:List Int):(Int×List Int)→Option (List Int):=
 Y9 fun s=>Xa0.B v v2 v4 s.1 s.2
def Xbj (v:List Xb):Option (List Int):=
 (Xa0 v (v.length:Int) (List.replicate 20 0) (0,(List.replicate 20 0))).bind fun v13=>some v13
namespace Xaq
def c:=Yap (Yag Proofs.Try.f47) [1,1,0,1,0,0,1,1,0,0,1,1,0,0]
def sp:SP:=⟨[(2,.loc 2 []),(3,.loc 3 []),(5,.loc 5 []),(8,.cs (.sl Xd)),(9,.cs I64),(10,.cs I64),(15,.cs SI),(16,.cs I64),(17,.cs I64)],[(2,.mem,.cd (.arr 20 I64)),(3,.mem,.cd (.arr 20 I64)),(5,.mem,.cs Xd)]⟩
def fr:=Yjc sp (fun x s=>Xaq.B x.1.2.2.2.1 x.1.2.2.2.2.1 x.1.2.2.2.2.2.1 x.1.2.2.2.2.2.2.1 x.1.2.2.2.2.2.2.2.1 x.2.1 x.2.2.2.1 s.1 s.2) (fun x=>(x.1.2.2.2.2.2.2.2.2.1,x.2.2.1)) fun x (bb0:List Int) _ kk0=>kk0 (.ex 2) ⟨[(2,.loc 2 []),(3,.loc 3 []),(8,.cs (.sl Xd) x.1.2.2.2.1),(9,.cs I64 x.1.2.2.2.2.1),(10,.cs I64 x.1.2.2.2.2.2.1)],[(2,some ⟨.mem,.cd (.arr 20 I64) x.2.1⟩),(3,some ⟨.mem,.cd (.arr 20 I64) bb0⟩)]⟩
theorem ok:Ya5 PR 33 1 (.loop c) fr:=
 Yw4 Xg Xf h0 [(2,([2,3,8,9,10],[2,3]))] (fun x s=>((x.1.1,x.1.2.1,x.1.2.2.1,x.1.2.2.2.1,x.1.2.2.2.2.1,x.1.2.2.2.2.2.1,x.1.2.2.2.2.2.2.1,x.1.2.2.2.2.2.2.2.1,s.1,x.1.2.2.2.2.2.2.2.2.2),(x.2.1,s.2,x.2.2.2)))
  (fun x s=>by simp only[B,mC,mB,mS,mO,mN];kernel_rfl)
end Xaq
namespace Xa0
def c:=Yap (Yag Proofs.Try.f47) [1,1,0,1,0,0]
def sp:SP:=⟨[(2,.loc 2 []),(3,.loc 3 []),(8,.cs (.sl Xd)),(9,.cs I64),(10,.cs I64)],[(2,.mem,.cd (.arr 20 I64)),(3,.mem,.cd (.arr 20 I64))]⟩
def fr:=Yjc sp (fun x s=>Xa0.B x.1.2.2.1 x.1.2.2.2.1 x.2.1 s.1 s.2) (fun x=>(x.1.2.2.2.2.1,x.2.2.1)) fun x (bb0:List Int) _ kk0=>kk0 (.ex 0) ⟨[(2,.loc 2 []),(3,.loc 3 [])],[(2,some ⟨.mem,.cd (.arr 20 I64) x.2.1⟩),(3,some ⟨.mem,.cd (.arr 20 I64) bb0⟩)]⟩
theorem ok:Ya5 PR 33 1 (.loop c) fr:=
 Yxk Xg Xf h0 (.R (.R (.L (.one (.R (.R (.one (.fr 1)))))))) (L:=mkL [(1,Xaq.fr)]) (l:=[(1,.loop Xaq.c)]) ⟨Lam.cons Xaq.ok,trivial⟩ [(0,([2,3],[2,3]))] (fun x s=>((x.1.1,x.1.2.1,x.1.2.2.1,x.1.2.2.2.1,s.1,x.1.2.2.2.2.2),(x.2.1,s.2,x.2.2.2)))
  (fun x s=>by simp only[B,mC,mB,mS,mO,mN];kernel_rfl)
end Xa0
namespace Xbj
def pts:List PT:=[.cs (.sl Xd)]
def FS:FS:=Ybn [.sh] pts (fun x=>Xbj x.1) fun t=>⟨[.cs (.arr 20 I64) t],[]⟩
theorem ok:Yb5 PR 47 FS:=
 Yxj Xg Xf Proofs.Try.f47 h0 (.R (.R (.L (.R (.one (.fr 0)))))) (G:=(mkG [])) .nil (L:=mkL [(1,Xaq.fr),(0,Xa0.fr)]) (l:=[(0,.loop Xa0.c)]) ⟨Lam.skip rfl (Lam.cons Xa0.ok),trivial⟩
  (fun x=>by simp only[Xbj,mC,mB,mS,mO,mN];kernel_rfl)
end Xbj
def Xal (v:List Int):Option Int:=
 some (v.length:Int)
namespace Xal
def pts:List PT:=[.cs SB]
def FS:FS:=Ybn [.sh] pts (fun x=>Xal x.1) fun t=>⟨[.cs I64 t],[]⟩
theorem ok:Yb5 PR 48 FS:=
 Yxj Xg Xf Proofs.Try.f48 h0 .no (G:=(mkG [])) .nil (L:=mkL []) (l:=[]) hT
  (fun x=>by simp only[Xal,mC,mB,mS,mO,mN];kernel_rfl)
end Xal
def X8.B (v2:Int) (v3:List Int):Option ((List Int)⊕(List Int)):=
 (Xal v3).bind fun v4=>cond (decide (v4<v2)) (cond (decide ((v3++([0])).length≤2147483648)) (some (.inl (v3++([0])))) none) (some (.inr v3))
def X8 (v2:Int):(List Int)→Option (List Int):=
 Y9 fun s=>X8.B v2 s
def Xaf (v:List Int) (v2:Int):Option (List Int):=
 (X8 v2 v).bind fun v5=>some v5
namespace Xaf
def G:Gam:=mkG [(48,Xal.FS)]
theorem Gok:GOk PR G:=.cons Xal.ok .nil
end Xaf
namespace X8
def c:=Yap (Yag Proofs.Try.f57) [1,0,0,0]
def sp:SP:=⟨[(0,.seg 0 []),(1,.cs I64)],[(0,.reg,.cd SB)]⟩
def fr:=Yjc sp (fun x s=>X8.B x.1.2.1 s) (fun x=>x.2.1) fun x (bb0:List Int) _ kk0=>kk0 (.ex 0) ⟨[(0,.seg 0 [])],[sr 0 (.cd SB bb0)]⟩
theorem ok:Ya5 PR 13 0 (.loop c) fr:=
 Yxl Xg Xf h0 (G:=Xaf.G) Xaf.Gok [(0,([0],[0]))] (fun x s=>(x.1,(s,x.2.2)))
  (fun x s=>by simp only[B,mC,mB,mS,mO,mN];kernel_rfl)
end X8
namespace Xaf
def pts:List PT:=[.cd SB,.cs I64]
def FS:FS:=Ybn [.mu,.sh] pts (fun x=>Xaf x.1 x.2.1) fun t=>⟨[.cd SB t],[.dead 1]⟩
theorem ok:Yb5 PR 57 FS:=
 Yxd Xg Xf Proofs.Try.f57 h0 (.R (.L (.one (.fr 0)))) (G:=G) Gok (L:=mkL [(0,X8.fr)]) (l:=[(0,.loop X8.c)]) ⟨Lam.cons X8.ok,trivial⟩
  (fun x=>by simp only[Xaf,mC,mB,mS,mO,mN];kernel_rfl)
end Xaf
def Xbb.B (v:Xfp) (v3:Int) (v5:Fs_) (v4:Int) (v6:Fs_):Option ((Int×Fs_)⊕Fs_):=
 cond (decide (v4<v3)) (cond (inB v4 v6.1.length) (cond (inB v4 v.2.1.length) (cond (!(v.2.1.getD v4.toNat false)) (some (.inl (w64 (v4+1),(v6.1.set v4.toNat (0,0,0,[],[],()),v6.2)))) (cond ((v6.1.getD v4.toNat Xa).1 == 2) (cond (inB v4 v.2.2.1.length) ((Xeg (v.2.2.1.getD v4.toNat [])).bind fun v7=>(some (v6.1.set v4.toNat ((v6.1.getD v4.toNat Xa).1,(v6.1.getD v4.toNat Xa).2.1,(v6.1.getD v4.toNat Xa).2.2.1,(v6.1.getD v4.toNat Xa).2.2.2.1,v7,(v6.1.getD v4.toNat Xa).2.2.2.2.2))).bind fun v8=>some (.inl (w64 (v4+1),(v8,v6.2)))) none) (cond (inB v4 v.2.2.2.2.2.1.length) (cond (decide ((0:Int)≤(v.2.2.2.2.2.1.getD v4.toNat 0))&&decide ((v.2.2.2.2.2.1.getD v4.toNat 0)≤((v6.1.getD v4.toNat Xa).2.2.2.1.length:Int))) (cond (Nat.beq v4.toNat v4.toNat&&true) ((some (((v6.1.getD v4.toNat Xa).2.2.2.1.drop 0).take (((v.2.2.2.2.2.1.getD v4.toNat 0).toNat)-0))).bind fun v9=>(some (v6.1.set v4.toNat ((v6.1.getD v4.toNat Xa).1,(v6.1.getD v4.toNat Xa).2.1,(v6.1.getD v4.toNat Xa).2.2.1,v9,(v6.1.getD v4.toNat Xa).2.2.2.2))).bind fun v10=>cond (inB v4 v.2.2.2.2.2.1.length) ((some (cond (decide ((w64 ((v.2.2.2.2.2.1.getD v4.toNat 0)*8))<(v10.getD v4.toNat Xa).2.2.1)) (w64 ((v.2.2.2.2.2.1.getD v4.toNat 0)*8)) (v10.getD v4.toNat Xa).2.2.1)).bind fun v11=>(some (v10.set v4.toNat ((v10.getD v4.toNat Xa).1,(v10.getD v4.toNat Xa).2.1,v11,(v10.getD v4.toNat Xa).2.2.2))).bind fun v12=>cond (inB v4 v.2.2.2.2.1.length) ((some (v12.set v4.toNat ((v12.getD v4.toNat Xa).1,v.2.2.2.2.1.getD v4.toNat 0,(v12.getD v4.toNat Xa).2.2))).bind fun v13=>some (.inl (w64 (v4+1),(v13,v6.2)))) none) none) none) none) none))) none) none) (some (.inr v6))
def Xbb (v:Xfp) (v3:Int) (v5:Fs_):(Int×Fs_)→Option Fs_:=
 Y9 fun s=>Xbb.B v v3 v5 s.1 s.2
def Xaw.B (v15:List Int) (v17:Fs_) (v16:Int) (v18:Fs_):Option ((Int×Fs_)⊕Fs_):=
 cond (decide (v16<20)) (cond (inB v16 20) (cond (inB v16 v18.2.1.length) ((Xaf (v18.2.1.getD v16.toNat []) (v15.getD v16.toNat 0)).bind fun v19=>cond (decide ((0:Int)≤(v15.getD v16.toNat 0))&&decide ((v15.getD v16.toNat 0)≤(v19.length:Int))) (cond (inB v16 v18.2.1.length) (cond (Nat.beq v16.toNat v16.toNat&&true) ((some ((v19.drop 0).take (((v15.getD v16.toNat 0).toNat)-0))).bind fun v20=>some (.inl (w64 (v16+1),(v18.1,v18.2.1.set v16.toNat v20,v18.2.2)))) none) none) none) none) none) (some (.inr v18))
def Xaw (v15:List Int) (v17:Fs_):(Int×Fs_)→Option Fs_:=
 Y9 fun s=>Xaw.B v15 v17 s.1 s.2
def Xac (v:Xfp):Option Fs_:=
 (Xdy v.1).bind fun v2=>(Xbb v (v2.1.length:Int) ([],[],()) (0,(v2.1,v2.2.1,v2.2.2))).bind fun v14=>(Xbj v14.1).bind fun v15=>(Xaw v15 ([],[],()) (0,v14)).bind fun v21=>some (v21.1,v21.2.1,v21.2.2)
namespace Xac
def G:Gam:=mkG [(55,Xdy.FS),(56,Xeg.FS),(47,Xbj.FS),(57,Xaf.FS)]
theorem Gok:GOk PR G:=.cons Xdy.ok (.cons Xeg.ok (.cons Xbj.ok (.cons Xaf.ok .nil)))
end Xac
namespace Xbb
def c:=Yap (Yag Proofs.Try.f35) [1,1,0,1,0,0]
def sp:SP:=⟨[(0,.pt Xel),(2,.loc 2 []),(3,.loc 3 []),(15,.cs I64),(16,.cs I64)],[(2,.mem,.cd Xi),(3,.mem,.cd Xi)]⟩
def fr:=Yjc sp (fun x s=>Xbb.B x.1.1 x.1.2.2.2.1 x.2.1 s.1 s.2) (fun x=>(x.1.2.2.2.2.1,x.2.2.1)) fun x (bb0:Fs_) _ kk0=>kk0 (.ex 0) ⟨[(2,.loc 2 []),(3,.loc 3 [])],[(2,some ⟨.mem,.cd Xi x.2.1⟩),(3,some ⟨.mem,.cd Xi bb0⟩)]⟩
theorem ok:Ya5 PR 116 1 (.loop c) fr:=
 Yxl Xg Xf h0 (G:=Xac.G) Xac.Gok [(0,([2,3],[2,3]))] (fun x s=>((x.1.1,x.1.2.1,x.1.2.2.1,x.1.2.2.2.1,s.1,x.1.2.2.2.2.2),(x.2.1,s.2,x.2.2.2)))
  (fun x s=>by simp only[B,mC,mB,mS,mO,mN];kernel_rfl)
end Xbb
namespace Xaw
def c:=Yap (Yag Proofs.Try.f35) [1,1,1,0,1,0,0]
def sp:SP:=⟨[(2,.loc 2 []),(3,.loc 3 []),(96,.cs (.arr 20 I64)),(97,.cs I64)],[(2,.mem,.cd Xi),(3,.mem,.cd Xi)]⟩
def fr:=Yjc sp (fun x s=>Xaw.B x.1.2.2.1 x.2.1 s.1 s.2) (fun x=>(x.1.2.2.2.1,x.2.2.1)) fun x (bb0:Fs_) _ kk0=>kk0 (.ex 3) ⟨[(2,.loc 2 []),(3,.loc 3 [])],[(2,some ⟨.mem,.cd Xi x.2.1⟩),(3,some ⟨.mem,.cd Xi bb0⟩)]⟩
theorem ok:Ya5 PR 116 1 (.loop c) fr:=
 Yxl Xg Xf h0 (G:=Xac.G) Xac.Gok [(3,([2,3],[2,3]))] (fun x s=>((x.1.1,x.1.2.1,x.1.2.2.1,s.1,x.1.2.2.2.2),(x.2.1,s.2,x.2.2.2)))
  (fun x s=>by simp only[B,mC,mB,mS,mO,mN];kernel_rfl)
end Xaw
namespace Xac
def pts:List PT:=[.pt Xel]
def FS:FS:=Ybn [.sh] pts (fun x=>Xac x.1) fun t=>⟨[.cd Xi t],[]⟩
theorem ok:Yb5 PR 35 FS:=
 Yxj Xg Xf Proofs.Try.f35 h0 (.R (.R (.two (.R (.one (.fr 0))) (.L (.R (.one (.fr 1))))))) (G:=G) Gok (L:=mkL [(0,Xbb.fr),(1,Xaw.fr)]) (l:=[(0,.loop Xbb.c),(1,.loop Xaw.c)]) ⟨Lam.cons Xbb.ok,Lam.skip rfl (Lam.cons Xaw.ok),trivial⟩
  (fun x=>by simp only[Xac,mC,mB,mS,mO,mN];kernel_rfl)
end Xac
def Xay.B (v:Fs_) (v3:List Xb) (v4:Int) (v7:Fs_) (v8:(List Bool)×(List (List Xc))×Int×(List Int)×(List Int)×Unit) (v5:Int) (v6:List Int):Option ((Int×List Int)⊕(List Int)):=
 cond (decide (v5<v4)) (cond (inB v5 v3.length) (cond (cond ((v3.getD v5.toNat Xa).1 != 0) (inB v5 v8.1.length) true) ((some (cond ((v3.getD v5.toNat Xa).1 != 0) (!(v8.1.getD v5.toNat false)) false)).bind fun v9=>cond v9 (cond (inB 1 v6.length) (cond (inB 1 v6.length) ((some (v6.set ((1:Int).toNat) (w64 ((v6.getD ((1:Int).toNat) 0)+1)))).bind fun v10=>some (.inl (w64 (v5+1),v10))) none) none) (cond ((v3.getD v5.toNat Xa).1 == 1) (cond (inB 2 v6.length) ((Xeb (v3.getD v5.toNat Xa).2.2.2.1).bind fun v11=>cond (inB v5 v8.2.2.2.2.1.length) ((some (w64 ((v6.getD ((2:Int).toNat) 0)+(w64 (v11-(v8.2.2.2.2.1.getD v5.toNat 0)))))).bind fun v12=>cond (inB 2 v6.length) (cond (inB v5 v8.2.2.2.1.length) ((some ((v3.getD v5.toNat Xa).2.1 != (v8.2.2.2.1.getD v5.toNat 0))).bind fun v13=>cond v13 (cond (inB 3 ((v6.set ((2:Int).toNat) v12).length)) ((some ((v6.set ((2:Int).toNat) v12).getD ((3:Int).toNat) 0)).bind fun v14=>cond (inB 3 ((v6.set ((2:Int).toNat) v12).length)) ((some ((v6.set ((2:Int).toNat) v12).set ((3:Int).toNat) (w64 (v14+1)))).bind fun v15=>some (.inl (w64 (v5+1),v15))) none) none) (some (.inl (w64 (v5+1),v6.set ((2:Int).toNat) v12)))) none) none) none) none) (some (.inl (w64 (v5+1),v6))))) none) none) (some (.inr v6))
def Xay (v:Fs_) (v3:List Xb) (v4:Int) (v7:Fs_) (v8:(List Bool)×(List (List Xc))×Int×(List Int)×(List Int)×Unit):(Int×List Int)→Option (List Int):=
 Y9 fun s=>Xay.B v v3 v4 v7 v8 s.1 s.2
def Xbl.B (v:Fs_) (v18:List Int) (v19:Int) (v20:List Int):Option ((Int×List Int)⊕(List Int)):=
 cond (decide (v19<20)) (cond (inB v19 20) (cond (inB v19 v.2.1.length) ((Xal (v.2.1.getD v19.toNat [])).bind fun v21=>cond (v21 != (v18.getD v19.toNat 0)) (cond (inB 4 v20.length) (cond (inB 4 v20.length) ((some (v20.set ((4:Int).toNat) (w64 ((v20.getD ((4:Int).toNat) 0)+1)))).bind fun v22=>some (.inl (w64 (v19+1),v22))) none) none) (some (.inl (w64 (v19+1),v20)))) none) none) (some (.inr v20))
def Xbl (v:Fs_) (v18:List Int):(Int×List Int)→Option (List Int):=
 Y9 fun s=>Xbl.B v v18 s.1 s.2
def Xad (v:Fs_):Option (List Int):=
 (Xbe v).bind fun v2=>(Xay v v.1 (v.1.length:Int) v2.1 v2.2 (0,[v2.2.2.2.1,0,0,0,0])).bind fun v16=>(Xac (v2.1,v2.2)).bind fun v17=>(Xbj v17.1).bind fun v18=>(Xbl v v18 (0,v16)).bind fun v23=>some v23
namespace Xad
def G:Gam:=mkG [(34,Xbe.FS),(46,Xeb.FS),(35,Xac.FS),(47,Xbj.FS),(48,Xal.FS)]
theorem Gok:GOk PR G:=.cons Xbe.ok (.cons Xeb.ok (.cons Xac.ok (.cons Xbj.ok (.cons Xal.ok .nil))))
end Xad
namespace Xay
def c:=Yap (Yag Proofs.Try.f26) [1,1,1,0,1,0,0]
def sp:SP:=⟨[(1,.pt Xi),(3,.loc 10 []),(4,.seg 4 []),(17,.cs (.sl Xd)),(18,.cs I64),(19,.cs I64)],[(4,.reg,.cd SI),(10,.mem,.pr (.cs Xi) (.cd (.pair (.sl .bool) (.pair (.sl (.sl Xe)) (.pair I64 (.pair SI (.pair SI .unit)))))))]⟩
def fr:=Yjc sp (fun x s=>Xay.B x.1.1 x.1.2.2.2.1 x.1.2.2.2.2.1 x.2.2.1.1 x.2.2.1.2 s.1 s.2) (fun x=>(x.1.2.2.2.2.2.1,x.2.1)) fun x (bb0:List Int) _ kk0=>kk0 (.ex 0) ⟨[(1,.pt Xi x.1.1),(3,.loc 10 []),(4,.seg 4 [])],[sr 4 (.cd SI bb0),(10,some ⟨.mem,.pr (.cs Xi x.2.2.1.1) (.cd (.pair (.sl .bool) (.pair (.sl (.sl Xe)) (.pair I64 (.pair SI (.pair SI .unit))))) x.2.2.1.2)⟩)]⟩
theorem ok:Ya5 PR 102 1 (.loop c) fr:=
 Yxl Xg Xf ⟨[1],[],[],0⟩ (G:=Xad.G) Xad.Gok [(0,([1,3,4],[4,10]))] (fun x s=>((x.1.1,x.1.2.1,x.1.2.2.1,x.1.2.2.2.1,x.1.2.2.2.2.1,s.1,x.1.2.2.2.2.2.2),(s.2,x.2.2)))
  (fun x s=>by simp only[B,mC,mB,mS,mO,mN];kernel_rfl)
end Xay
namespace Xbl
def c:=Yap (Yag Proofs.Try.f26) [1,1,1,1,0,1,0,0]
def sp:SP:=⟨[(1,.pt Xi),(4,.seg 4 []),(82,.cs (.arr 20 I64)),(83,.cs I64)],[(4,.reg,.cd SI)]⟩
def fr:=Yjc sp (fun x s=>Xbl.B x.1.1 x.1.2.2.1 s.1 s.2) (fun x=>(x.1.2.2.2.1,x.2.1)) fun x (bb0:List Int) _ kk0=>kk0 (.ex 3) ⟨[(4,.seg 4 [])],[sr 4 (.cd SI bb0)]⟩
theorem ok:Ya5 PR 102 1 (.loop c) fr:=
 Yxl Xg Xf ⟨[1],[],[],0⟩ (G:=Xad.G) Xad.Gok [(3,([4],[4]))] (fun x s=>((x.1.1,x.1.2.1,x.1.2.2.1,s.1,x.1.2.2.2.2),(s.2,x.2.2)))
  (fun x s=>by simp only[B,mC,mB,mS,mO,mN];kernel_rfl)
end Xbl
namespace Xad
def pts:List PT:=[.cs Xi]
def FS:FS:=Ybn [.sh] pts (fun x=>Xad x.1) fun t=>⟨[.cd SI t],[]⟩
theorem ok:Yb5 PR 26 FS:=
 Yxj Xg Xf Proofs.Try.f26 ⟨[1],[],[],0⟩ (.R (.R (.R (.two (.R (.one (.fr 0))) (.L (.R (.one (.fr 1)))))))) (G:=G) Gok (L:=mkL [(0,Xay.fr),(1,Xbl.fr)]) (l:=[(0,.loop Xay.c),(1,.loop Xbl.c)]) ⟨Lam.cons Xay.ok,Lam.skip rfl (Lam.cons Xbl.ok),trivial⟩
  (fun x=>by simp only[Xad,mC,mB,mS,mO,mN];kernel_rfl)
end Xad
def Xbt (v:Fs_):Option Xp:=
 (Xfa v).bind fun v2=>cond (v2 != 0) (some (v2,[],())) ((Xad v).bind fun v3=>some (0,v3,()))
namespace Xbt
def G:Gam:=mkG [(25,Xfa.FS),(26,Xad.FS)]
def pts:List PT:=[.cs Xi]
def FS:FS:=Ybn [.sh] pts (fun x=>Xbt x.1) fun t=>⟨[.cd Xk t],[]⟩
theorem ok:Yb5 PR 8 FS:=
 Yxj Xg Xf Proofs.Try.f8 ⟨[1],[],[],0⟩ .no (G:=G) (show GOk PR G from .cons Xfa.ok (.cons Xad.ok .nil)) (L:=mkL []) (l:=[]) hT
  (fun x=>by simp only[Xbt,mC,mB,mS,mO,mN];kernel_rfl)
end Xbt
def Xbd.B (a:List Int) (b:List Int) (i_:Int):Option (Int⊕((Bool⊕Unit))):=
 cond (decide (i_<(a.length:Int))) (cond (inB i_ a.length) (cond (inB i_ b.length) (cond ((a.getD i_.toNat 0) != (b.getD i_.toNat 0)) (some (.inr (.inl false))) (some (.inl (w64 (i_+1))))) none) none) (some (.inr (.inr ())))
def Xbd (a:List Int) (b:List Int):Int→Option ((Bool⊕Unit)):=
 Y9 fun s=>Xbd.B a b s
def Xbk (a:List Int) (b:List Int):Option Bool:=
 cond ((a.length:Int) != (b.length:Int)) (some false) ((Xbd a b 0).bind fun o=>sel o (fun b2=>some b2) (fun c=>some true))
namespace Xbd
def c:=Yap (Yag Proofs.Try.f27) [1,1,0,1,0,0]
def sp:SP:=⟨[(0,.cs SI),(1,.cs SI),(5,.cs I64)],[]⟩
def fr:=Yjc sp (fun x s=>Xbd.B x.1.1 x.1.2.1 s) (fun x=>x.1.2.2.1) fun x (oo0:(Bool⊕Unit)) _ kk0=>sel oo0 (fun bb0=>kk0 (.rt) ⟨[(4,.cs .bool bb0)],[]⟩) (fun cc0=>kk0 (.ex 0) ⟨[],[]⟩)
theorem ok:Ya5 PR 26 2 (.loop c) fr:=
 Ytf Xg Xf h0 .no (G:=(mkG [])) .nil (L:=mkL []) (l:=[]) hT [(0,([],[]))] ([4],[]) (fun x s=>((x.1.1,x.1.2.1,s,x.1.2.2.2),x.2))
  (fun x s=>by simp only[B,mC,mB,mS,mO,mN];kernel_rfl)
end Xbd
namespace Xbk
def pts:List PT:=[.cs SI,.cs SI]
def FS:FS:=Ybn [.sh,.sh] pts (fun x=>Xbk x.1 x.2.1) fun t=>⟨[.cs .bool t],[]⟩
theorem ok:Yb5 PR 27 FS:=
 Yxj Xg Xf Proofs.Try.f27 h0 (.R (.R (.L (.R (.one (.fr 0)))))) (G:=(mkG [])) .nil (L:=mkL [(0,Xbd.fr)]) (l:=[(0,.loop Xbd.c)]) ⟨Lam.cons Xbd.ok,trivial⟩
  (fun x=>by simp only[Xbk,mC,mB,mS,mO,mN];kernel_rfl)
end Xbk
def Xbo (a:Xp) (b:Xp):Option Bool:=
 cond (a.1 != b.1) (some false) ((Xbk a.2.1 b.2.1).bind fun r=>cond (!r) (some false) (some true))
namespace Xbo
def G:Gam:=mkG [(27,Xbk.FS)]
def pts:List PT:=[.cs Xk,.cs Xk]
def FS:FS:=Ybn [.sh,.sh] pts (fun x=>Xbo x.1 x.2.1) fun t=>⟨[.cs .bool t],[]⟩
theorem ok:Yb5 PR 9 FS:=
 Yxj Xg Xf Proofs.Try.f9 ⟨[2,3],[],[],0⟩ .no (G:=G) (show GOk PR G from .cons Xbk.ok .nil) (L:=mkL []) (l:=[]) hT
  (fun x=>by simp only[Xbo,mC,mB,mS,mO,mN];kernel_rfl)
end Xbo
def Xcv (a:Xc) (b:Xc):Option Bool:=
 cond (!(a.1 == b.1)) (some false) (cond (a.2.1 != b.2.1) (some false) (some true))
namespace Xcv
def pts:List PT:=[.cs Xe,.cs Xe]
def FS:FS:=Ybn [.sh,.sh] pts (fun x=>Xcv x.1 x.2.1) fun t=>⟨[.cs .bool t],[]⟩
theorem ok:Yb5 PR 88 FS:=
 Yxj Xg Xf Proofs.Try.f88 ⟨[2,3],[],[],0⟩ .no (G:=(mkG [])) .nil (L:=mkL []) (l:=[]) hT
  (fun x=>by simp only[Xcv,mC,mB,mS,mO,mN];kernel_rfl)
end Xcv
def Xbc.B (a:List Xc) (b:List Xc) (i_:Int):Option (Int⊕((Bool⊕Unit))):=
 cond (decide (i_<(a.length:Int))) (cond (inB i_ a.length) (cond (inB i_ b.length) ((Xcv (a.getD i_.toNat Xh) (b.getD i_.toNat Xh)).bind fun r=>cond (!r) (some (.inr (.inl false))) (some (.inl (w64 (i_+1))))) none) none) (some (.inr (.inr ())))
def Xbc (a:List Xc) (b:List Xc):Int→Option ((Bool⊕Unit)):=
 Y9 fun s=>Xbc.B a b s
def Xau (a:List Xc) (b:List Xc):Option Bool:=
 cond ((a.length:Int) != (b.length:Int)) (some false) ((Xbc a b 0).bind fun o=>sel o (fun b2=>some b2) (fun c=>some true))
namespace Xau
def G:Gam:=mkG [(88,Xcv.FS)]
theorem Gok:GOk PR G:=.cons Xcv.ok .nil
end Xau
namespace Xbc
def c:=Yap (Yag Proofs.Try.f71) [1,1,0,1,0,0]
def sp:SP:=⟨[(0,.cs (.sl Xe)),(1,.cs (.sl Xe)),(5,.cs I64)],[]⟩
def fr:=Yjc sp (fun x s=>Xbc.B x.1.1 x.1.2.1 s) (fun x=>x.1.2.2.1) fun x (oo0:(Bool⊕Unit)) _ kk0=>sel oo0 (fun bb0=>kk0 (.rt) ⟨[(4,.cs .bool bb0)],[]⟩) (fun cc0=>kk0 (.ex 0) ⟨[],[]⟩)
theorem ok:Ya5 PR 27 2 (.loop c) fr:=
 Ytf Xg Xf h0 .no (G:=Xau.G) Xau.Gok (L:=mkL []) (l:=[]) hT [(0,([],[]))] ([4],[]) (fun x s=>((x.1.1,x.1.2.1,s,x.1.2.2.2),x.2))
  (fun x s=>by simp only[B,mC,mB,mS,mO,mN];kernel_rfl)
end Xbc
namespace Xau
def pts:List PT:=[.cs (.sl Xe),.cs (.sl Xe)]
def FS:FS:=Ybn [.sh,.sh] pts (fun x=>Xau x.1 x.2.1) fun t=>⟨[.cs .bool t],[]⟩
theorem ok:Yb5 PR 71 FS:=
 Yxj Xg Xf Proofs.Try.f71 h0 (.R (.R (.L (.R (.one (.fr 0)))))) (G:=G) Gok (L:=mkL [(0,Xbc.fr)]) (l:=[(0,.loop Xbc.c)]) ⟨Lam.cons Xbc.ok,trivial⟩
  (fun x=>by simp only[Xau,mC,mB,mS,mO,mN];kernel_rfl)
end Xau
def Xci (a:Xb) (b:Xb):Option Bool:=
 cond (a.1 != b.1) (some false) (cond (a.2.1 != b.2.1) (some false) (cond (a.2.2.1 != b.2.2.1) (some false) ((Xbk a.2.2.2.1 b.2.2.2.1).bind fun r=>cond (!r) (some false) ((Xau a.2.2.2.2.1 b.2.2.2.2.1).bind fun r2=>cond (!r2) (some false) (some true)))))
namespace Xci
def G:Gam:=mkG [(27,Xbk.FS),(71,Xau.FS)]
def pts:List PT:=[.cs Xd,.cs Xd]
def FS:FS:=Ybn [.sh,.sh] pts (fun x=>Xci x.1 x.2.1) fun t=>⟨[.cs .bool t],[]⟩
theorem ok:Yb5 PR 49 FS:=
 Yxj Xg Xf Proofs.Try.f49 ⟨[2,3],[],[],0⟩ .no (G:=G) (show GOk PR G from .cons Xbk.ok (.cons Xau.ok .nil)) (L:=mkL []) (l:=[]) hT
  (fun x=>by simp only[Xci,mC,mB,mS,mO,mN];kernel_rfl)
end Xci
def Xa2.B (a:List Xb) (b:List Xb) (i_:Int):Option (Int⊕((Bool⊕Unit))):=
 cond (decide (i_<(a.length:Int))) (cond (inB i_ a.length) (cond (inB i_ b.length) ((Xci (a.getD i_.toNat Xa) (b.getD i_.toNat Xa)).bind fun r=>cond (!r) (some (.inr (.inl false))) (some (.inl (w64 (i_+1))))) none) none) (some (.inr (.inr ())))
def Xa2 (a:List Xb) (b:List Xb):Int→Option ((Bool⊕Unit)):=
 Y9 fun s=>Xa2.B a b s
def Xa6 (a:List Xb) (b:List Xb):Option Bool:=
 cond ((a.length:Int) != (b.length:Int)) (some false) ((Xa2 a b 0).bind fun o=>sel o (fun b2=>some b2) (fun c=>some true))
namespace Xa6
def G:Gam:=mkG [(49,Xci.FS)]
theorem Gok:GOk PR G:=.cons Xci.ok .nil
end Xa6
namespace Xa2
def c:=Yap (Yag Proofs.Try.f28) [1,1,0,1,0,0]
def sp:SP:=⟨[(0,.cs (.sl Xd)),(1,.cs (.sl Xd)),(5,.cs I64)],[]⟩
def fr:=Yjc sp (fun x s=>Xa2.B x.1.1 x.1.2.1 s) (fun x=>x.1.2.2.1) fun x (oo0:(Bool⊕Unit)) _ kk0=>sel oo0 (fun bb0=>kk0 (.rt) ⟨[(4,.cs .bool bb0)],[]⟩) (fun cc0=>kk0 (.ex 0) ⟨[],[]⟩)
theorem ok:Ya5 PR 27 2 (.loop c) fr:=
 Ytf Xg Xf h0 .no (G:=Xa6.G) Xa6.Gok (L:=mkL []) (l:=[]) hT [(0,([],[]))] ([4],[]) (fun x s=>((x.1.1,x.1.2.1,s,x.1.2.2.2),x.2))
  (fun x s=>by simp only[B,mC,mB,mS,mO,mN];kernel_rfl)
end Xa2
namespace Xa6
def pts:List PT:=[.cs (.sl Xd),.cs (.sl Xd)]
def FS:FS:=Ybn [.sh,.sh] pts (fun x=>Xa6 x.1 x.2.1) fun t=>⟨[.cs .bool t],[]⟩
theorem ok:Yb5 PR 28 FS:=
 Yxj Xg Xf Proofs.Try.f28 h0 (.R (.R (.L (.R (.one (.fr 0)))))) (G:=G) Gok (L:=mkL [(0,Xa2.fr)]) (l:=[(0,.loop Xa2.c)]) ⟨Lam.cons Xa2.ok,trivial⟩
  (fun x=>by simp only[Xa6,mC,mB,mS,mO,mN];kernel_rfl)
end Xa6
def Xa5.B (a:List Int) (b:List Int) (i_:Int):Option (Int⊕((Bool⊕Unit))):=
 cond (decide (i_<(a.length:Int))) (cond (inB i_ a.length) (cond (inB i_ b.length) (cond ((a.getD i_.toNat 0) != (b.getD i_.toNat 0)) (some (.inr (.inl false))) (some (.inl (w64 (i_+1))))) none) none) (some (.inr (.inr ())))
def Xa5 (a:List Int) (b:List Int):Int→Option ((Bool⊕Unit)):=
 Y9 fun s=>Xa5.B a b s
def Xcu (a:List Int) (b:List Int):Option Bool:=
 cond ((a.length:Int) != (b.length:Int)) (some false) ((Xa5 a b 0).bind fun o=>sel o (fun b2=>some b2) (fun c=>some true))
namespace Xa5
def c:=Yap (Yag Proofs.Try.f50) [1,1,0,1,0,0]
def sp:SP:=⟨[(0,.cs SB),(1,.cs SB),(5,.cs I64)],[]⟩
def fr:=Yjc sp (fun x s=>Xa5.B x.1.1 x.1.2.1 s) (fun x=>x.1.2.2.1) fun x (oo0:(Bool⊕Unit)) _ kk0=>sel oo0 (fun bb0=>kk0 (.rt) ⟨[(4,.cs .bool bb0)],[]⟩) (fun cc0=>kk0 (.ex 0) ⟨[],[]⟩)
theorem ok:Ya5 PR 26 2 (.loop c) fr:=
 Ytf Xg Xf h0 .no (G:=(mkG [])) .nil (L:=mkL []) (l:=[]) hT [(0,([],[]))] ([4],[]) (fun x s=>((x.1.1,x.1.2.1,s,x.1.2.2.2),x.2))
  (fun x s=>by simp only[B,mC,mB,mS,mO,mN];kernel_rfl)
end Xa5
namespace Xcu
def pts:List PT:=[.cs SB,.cs SB]
def FS:FS:=Ybn [.sh,.sh] pts (fun x=>Xcu x.1 x.2.1) fun t=>⟨[.cs .bool t],[]⟩
theorem ok:Yb5 PR 50 FS:=
 Yxj Xg Xf Proofs.Try.f50 h0 (.R (.R (.L (.R (.one (.fr 0)))))) (G:=(mkG [])) .nil (L:=mkL [(0,Xa5.fr)]) (l:=[(0,.loop Xa5.c)]) ⟨Lam.cons Xa5.ok,trivial⟩
  (fun x=>by simp only[Xcu,mC,mB,mS,mO,mN];kernel_rfl)
end Xcu
def Xa7.B (a:List (List Int)) (b:List (List Int)) (i_:Int):Option (Int⊕((Bool⊕Unit))):=
 cond (decide (i_<(a.length:Int))) (cond (inB i_ a.length) (cond (inB i_ b.length) ((Xcu (a.getD i_.toNat []) (b.getD i_.toNat [])).bind fun r=>cond (!r) (some (.inr (.inl false))) (some (.inl (w64 (i_+1))))) none) none) (some (.inr (.inr ())))
def Xa7 (a:List (List Int)) (b:List (List Int)):Int→Option ((Bool⊕Unit)):=
 Y9 fun s=>Xa7.B a b s
def Xav (a:List (List Int)) (b:List (List Int)):Option Bool:=
 cond ((a.length:Int) != (b.length:Int)) (some false) ((Xa7 a b 0).bind fun o=>sel o (fun b2=>some b2) (fun c=>some true))
namespace Xav
def G:Gam:=mkG [(50,Xcu.FS)]
theorem Gok:GOk PR G:=.cons Xcu.ok .nil
end Xav
namespace Xa7
def c:=Yap (Yag Proofs.Try.f29) [1,1,0,1,0,0]
def sp:SP:=⟨[(0,.cs (.sl SB)),(1,.cs (.sl SB)),(5,.cs I64)],[]⟩
def fr:=Yjc sp (fun x s=>Xa7.B x.1.1 x.1.2.1 s) (fun x=>x.1.2.2.1) fun x (oo0:(Bool⊕Unit)) _ kk0=>sel oo0 (fun bb0=>kk0 (.rt) ⟨[(4,.cs .bool bb0)],[]⟩) (fun cc0=>kk0 (.ex 0) ⟨[],[]⟩)
theorem ok:Ya5 PR 27 2 (.loop c) fr:=
 Ytf Xg Xf h0 .no (G:=Xav.G) Xav.Gok (L:=mkL []) (l:=[]) hT [(0,([],[]))] ([4],[]) (fun x s=>((x.1.1,x.1.2.1,s,x.1.2.2.2),x.2))
  (fun x s=>by simp only[B,mC,mB,mS,mO,mN];kernel_rfl)
end Xa7
namespace Xav
def pts:List PT:=[.cs (.sl SB),.cs (.sl SB)]
def FS:FS:=Ybn [.sh,.sh] pts (fun x=>Xav x.1 x.2.1) fun t=>⟨[.cs .bool t],[]⟩
theorem ok:Yb5 PR 29 FS:=
 Yxj Xg Xf Proofs.Try.f29 h0 (.R (.R (.L (.R (.one (.fr 0)))))) (G:=G) Gok (L:=mkL [(0,Xa7.fr)]) (l:=[(0,.loop Xa7.c)]) ⟨Lam.cons Xa7.ok,trivial⟩
  (fun x=>by simp only[Xav,mC,mB,mS,mO,mN];kernel_rfl)
end Xav
def Xcf (a:Fs_) (b:Fs_):Option Bool:=
 (Xa6 a.1 b.1).bind fun r=>cond (!r) (some false) ((Xav a.2.1 b.2.1).bind fun r2=>cond (!r2) (some false) (some true))
namespace Xcf
def G:Gam:=mkG [(28,Xa6.FS),(29,Xav.FS)]
def pts:List PT:=[.cs Xi,.cs Xi]
def FS:FS:=Ybn [.sh,.sh] pts (fun x=>Xcf x.1 x.2.1) fun t=>⟨[.cs .bool t],[]⟩
theorem ok:Yb5 PR 10 FS:=
 Yxj Xg Xf Proofs.Try.f10 ⟨[2,3],[],[],0⟩ .no (G:=G) (show GOk PR G from .cons Xa6.ok (.cons Xav.ok .nil)) (L:=mkL []) (l:=[]) hT
  (fun x=>by simp only[Xcf,mC,mB,mS,mO,mN];kernel_rfl)
end Xcf
def Xap.B (k_:Int) (i_:Int) (a_:List Int):Option ((Int×Int×List Int)⊕(Int×List Int)):=
 cond (decide (i_<(a_.length:Int))) (cond (inB i_ a_.length) (some (.inl (w64 (k_+1),w64 (i_+1),a_.set i_.toNat k_))) none) (some (.inr (k_,a_)))
def Xap :(Int×Int×List Int)→Option (Int×List Int):=
 Y9 fun s=>Xap.B s.1 s.2.1 s.2.2
def Xbi (a:List Int) (k:Int):Option (Int×List Int):=
 (Xap (k,0,a)).bind fun o=>some (o.1,o.2)
namespace Xap
def c:=Yap (Yag Proofs.Try.f32) [1,0,1,0,0]
def sp:SP:=⟨[(0,.seg 0 []),(1,.cs I64),(5,.cs I64)],[(0,.reg,.cd SI)]⟩
def fr:=Yjc sp (fun x s=>Xap.B  s.1 s.2.1 s.2.2) (fun x=>(x.1.2.1,x.1.2.2.1,x.2.1)) fun x (bb0:Int×List Int) _ kk0=>kk0 (.ex 0) ⟨[(1,.cs I64 bb0.1)],[sr 0 (.cd SI bb0.2)]⟩
theorem ok:Ya5 PR 19 2 (.loop c) fr:=
 Yw4 Xg Xf h0 [(0,([1],[0]))] (fun x s=>((x.1.1,s.1,s.2.1,x.1.2.2.2),(s.2.2,x.2.2)))
  (fun x s=>by simp only[B,mC,mB,mS,mO,mN];kernel_rfl)
end Xap
namespace Xbi
def pts:List PT:=[.cd SI,.cs I64]
def FS:FS:=Ybn [.mu,.sh] pts (fun x=>Xbi x.1 x.2.1) fun t=>⟨[.cs I64 t.1],[.cd SI t.2]⟩
theorem ok:Yb5 PR 32 FS:=
 Yxj Xg Xf Proofs.Try.f32 h0 (.R (.L (.R (.one (.fr 0))))) (G:=(mkG [])) .nil (L:=mkL [(0,Xap.fr)]) (l:=[(0,.loop Xap.c)]) ⟨Lam.cons Xap.ok,trivial⟩
  (fun x=>by simp only[Xbi,mC,mB,mS,mO,mN];kernel_rfl)
end Xbi
def Xa3.B (k_:Int) (out_:List UInt8):Option ((Int×List UInt8)⊕(List UInt8)):=
 cond (decide (k_>0)) (cond (!((10:Int) == 0)) ((some (IntKind.u8.wrap (w64 ((48:Int)+(k_.tmod 10))))).bind fun v=>cond (decide ((([v]).map fun n=>UInt8.ofNat n.toNat).length+out_.length≤2147483648)) (cond (!((10:Int) == 0)) (some (.inl (w64 (k_.tdiv 10),(([v]).map fun n=>UInt8.ofNat n.toNat)++out_))) none) none) none) (some (.inr out_))
def Xa3 :(Int×List UInt8)→Option (List UInt8):=
 Y9 fun s=>Xa3.B s.1 s.2
def Xco (k:Int):Option (List UInt8):=
 cond (decide (k≤0)) (some ([109,48]:List UInt8)) ((Xa3 (k,([]:List UInt8))).bind fun o=>cond (decide (([109]:List UInt8).length+o.length≤2147483648)) (some (([109]:List UInt8)++o)) none)
namespace Xa3
def c:=Yap (Yag Proofs.Try.f72) [1,1,1,0,0,0]
def sp:SP:=⟨[(0,.cs I64),(3,.cs .str)],[]⟩
def fr:=Yjc sp (fun x s=>Xa3.B  s.1 s.2) (fun x=>(x.1.1,x.1.2.1)) fun x (bb0:List UInt8) _ kk0=>kk0 (.ex 0) ⟨[(3,.cs .str bb0)],[]⟩
theorem ok:Ya5 PR 20 1 (.loop c) fr:=
 Yw4 Xg Xf h0 [(0,([3],[]))] (fun x s=>((s.1,s.2,x.1.2.2),x.2))
  (fun x s=>by simp only[B,mC,mB,mS,mO,mN];kernel_rfl)
end Xa3
namespace Xco
def pts:List PT:=[.cs I64]
def FS:FS:=Ybn [.sh] pts (fun x=>Xco x.1) fun t=>⟨[.cs .str t],[]⟩
theorem ok:Yb5 PR 72 FS:=
 Yxj Xg Xf Proofs.Try.f72 h0 (.R (.R (.R (.L (.one (.fr 0)))))) (G:=(mkG [])) .nil (L:=mkL [(0,Xa3.fr)]) (l:=[(0,.loop Xa3.c)]) ⟨Lam.cons Xa3.ok,trivial⟩
  (fun x=>by simp only[Xco,mC,mB,mS,mO,mN];kernel_rfl)
end Xco
def Xao.B (k_:Int) (i_:Int) (a_:List Xc):Option ((Int×Int×List Xc)⊕(Int×List Xc)):=
 cond (decide (i_<(a_.length:Int))) ((Xco k_).bind fun r=>cond (inB i_ a_.length) ((some (a_.set i_.toNat (r,(a_.getD i_.toNat Xh).2))).bind fun a_2=>cond (inB i_ a_2.length) ((some (a_2.set i_.toNat ((a_2.getD i_.toNat Xh).1,w64 (k_+1),(a_2.getD i_.toNat Xh).2.2))).bind fun a_3=>some (.inl (w64 ((w64 (k_+1))+1),w64 (i_+1),a_3))) none) none) (some (.inr (k_,a_)))
def Xao :(Int×Int×List Xc)→Option (Int×List Xc):=
 Y9 fun s=>Xao.B s.1 s.2.1 s.2.2
def Xa1 (a:List Xc) (k:Int):Option (Int×List Xc):=
 (Xao (k,0,a)).bind fun o=>some (o.1,o.2)
namespace Xa1
def G:Gam:=mkG [(72,Xco.FS)]
theorem Gok:GOk PR G:=.cons Xco.ok .nil
end Xa1
namespace Xao
def c:=Yap (Yag Proofs.Try.f51) [1,0,1,0,0]
def sp:SP:=⟨[(0,.seg 0 []),(1,.cs I64),(5,.cs I64)],[(0,.reg,.cd (.sl Xe))]⟩
def fr:=Yjc sp (fun x s=>Xao.B  s.1 s.2.1 s.2.2) (fun x=>(x.1.2.1,x.1.2.2.1,x.2.1)) fun x (bb0:Int×List Xc) _ kk0=>kk0 (.ex 0) ⟨[(1,.cs I64 bb0.1)],[sr 0 (.cd (.sl Xe) bb0.2)]⟩
theorem ok:Ya5 PR 28 2 (.loop c) fr:=
 Yxl Xg Xf h0 (G:=Xa1.G) Xa1.Gok [(0,([1],[0]))] (fun x s=>((x.1.1,s.1,s.2.1,x.1.2.2.2),(s.2.2,x.2.2)))
  (fun x s=>by simp only[B,mC,mB,mS,mO,mN];kernel_rfl)
end Xao
namespace Xa1
def pts:List PT:=[.cd (.sl Xe),.cs I64]
def FS:FS:=Ybn [.mu,.sh] pts (fun x=>Xa1 x.1 x.2.1) fun t=>⟨[.cs I64 t.1],[.cd (.sl Xe) t.2]⟩
theorem ok:Yb5 PR 51 FS:=
 Yxj Xg Xf Proofs.Try.f51 h0 (.R (.L (.R (.one (.fr 0))))) (G:=G) Gok (L:=mkL [(0,Xao.fr)]) (l:=[(0,.loop Xao.c)]) ⟨Lam.cons Xao.ok,trivial⟩
  (fun x=>by simp only[Xa1,mC,mB,mS,mO,mN];kernel_rfl)
end Xa1
def Xah.B (k_:Int) (i_:Int) (a_:List Xb):Option ((Int×Int×List Xb)⊕(Int×List Xb)):=
 cond (decide (i_<(a_.length:Int))) (cond (inB i_ a_.length) ((some (a_.set i_.toNat (k_,(a_.getD i_.toNat Xa).2))).bind fun a_2=>cond (inB i_ a_2.length) ((some (a_2.set i_.toNat ((a_2.getD i_.toNat Xa).1,w64 (k_+1),(a_2.getD i_.toNat Xa).2.2))).bind fun a_3=>cond (inB i_ a_3.length) ((some (a_3.set i_.toNat ((a_3.getD i_.toNat Xa).1,(a_3.getD i_.toNat Xa).2.1,w64 ((w64 (k_+1))+1),(a_3.getD i_.toNat Xa).2.2.2))).bind fun a_4=>cond (inB i_ a_4.length) ((Xbi (a_4.getD i_.toNat Xa).2.2.2.1 (w64 ((w64 ((w64 (k_+1))+1))+1))).bind fun r=>cond (inB i_ ((a_4.set i_.toNat ((a_4.getD i_.toNat Xa).1,(a_4.getD i_.toNat Xa).2.1,(a_4.getD i_.toNat Xa).2.2.1,r.2,(a_4.getD i_.toNat Xa).2.2.2.2)).length)) ((Xa1 ((a_4.set i_.toNat ((a_4.getD i_.toNat Xa).1,(a_4.getD i_.toNat Xa).2.1,(a_4.getD i_.toNat Xa).2.2.1,r.2,(a_4.getD i_.toNat Xa).2.2.2.2)).getD i_.toNat Xa).2.2.2.2.1 r.1).bind fun r2=>some (.inl (r2.1,w64 (i_+1),(a_4.set i_.toNat ((a_4.getD i_.toNat Xa).1,(a_4.getD i_.toNat Xa).2.1,(a_4.getD i_.toNat Xa).2.2.1,r.2,(a_4.getD i_.toNat Xa).2.2.2.2)).set i_.toNat (((a_4.set i_.toNat ((a_4.getD i_.toNat Xa).1,(a_4.getD i_.toNat Xa).2.1,(a_4.getD i_.toNat Xa).2.2.1,r.2,(a_4.getD i_.toNat Xa).2.2.2.2)).getD i_.toNat Xa).1,((a_4.set i_.toNat ((a_4.getD i_.toNat Xa).1,(a_4.getD i_.toNat Xa).2.1,(a_4.getD i_.toNat Xa).2.2.1,r.2,(a_4.getD i_.toNat Xa).2.2.2.2)).getD i_.toNat Xa).2.1,((a_4.set i_.toNat ((a_4.getD i_.toNat Xa).1,(a_4.getD i_.toNat Xa).2.1,(a_4.getD i_.toNat Xa).2.2.1,r.2,(a_4.getD i_.toNat Xa).2.2.2.2)).getD i_.toNat Xa).2.2.1,((a_4.set i_.toNat ((a_4.getD i_.toNat Xa).1,(a_4.getD i_.toNat Xa).2.1,(a_4.getD i_.toNat Xa).2.2.1,r.2,(a_4.getD i_.toNat Xa).2.2.2.2)).getD i_.toNat Xa).2.2.2.1,r2.2,((a_4.set i_.toNat ((a_4.getD i_.toNat Xa).1,(a_4.getD i_.toNat Xa).2.1,(a_4.getD i_.toNat Xa).2.2.1,r.2,(a_4.getD i_.toNat Xa).2.2.2.2)).getD i_.toNat Xa).2.2.2.2.2)))) none) none) none) none) none) (some (.inr (k_,a_)))
def Xah :(Int×Int×List Xb)→Option (Int×List Xb):=
 Y9 fun s=>Xah.B s.1 s.2.1 s.2.2
def Xa9 (a:List Xb) (k:Int):Option (Int×List Xb):=
 (Xah (k,0,a)).bind fun o=>some (o.1,o.2)
namespace Xa9
def G:Gam:=mkG [(32,Xbi.FS),(51,Xa1.FS)]
theorem Gok:GOk PR G:=.cons Xbi.ok (.cons Xa1.ok .nil)
end Xa9
namespace Xah
def c:=Yap (Yag Proofs.Try.f30) [1,0,1,0,0]
def sp:SP:=⟨[(0,.seg 0 []),(1,.cs I64),(5,.cs I64)],[(0,.reg,.cd (.sl Xd))]⟩
def fr:=Yjc sp (fun x s=>Xah.B  s.1 s.2.1 s.2.2) (fun x=>(x.1.2.1,x.1.2.2.1,x.2.1)) fun x (bb0:Int×List Xb) _ kk0=>kk0 (.ex 0) ⟨[(1,.cs I64 bb0.1)],[sr 0 (.cd (.sl Xd) bb0.2)]⟩
theorem ok:Ya5 PR 48 2 (.loop c) fr:=
 Yxl Xg Xf h0 (G:=Xa9.G) Xa9.Gok [(0,([1],[0]))] (fun x s=>((x.1.1,s.1,s.2.1,x.1.2.2.2),(s.2.2,x.2.2)))
  (fun x s=>by simp only[B,mC,mB,mS,mO,mN];kernel_rfl)
end Xah
namespace Xa9
def pts:List PT:=[.cd (.sl Xd),.cs I64]
def FS:FS:=Ybn [.mu,.sh] pts (fun x=>Xa9 x.1 x.2.1) fun t=>⟨[.cs I64 t.1],[.cd (.sl Xd) t.2]⟩
theorem ok:Yb5 PR 30 FS:=
 Yxj Xg Xf Proofs.Try.f30 h0 (.R (.L (.R (.one (.fr 0))))) (G:=G) Gok (L:=mkL [(0,Xah.fr)]) (l:=[(0,.loop Xah.c)]) ⟨Lam.cons Xah.ok,trivial⟩
  (fun x=>by simp only[Xa9,mC,mB,mS,mO,mN];kernel_rfl)
end Xa9
def Xak.B (k_:Int) (i_:Int) (a_:List Int):Option ((Int×Int×List Int)⊕(Int×List Int)):=
 cond (decide (i_<(a_.length:Int))) (cond (inB i_ a_.length) (some (.inl (w64 (k_+1),w64 (i_+1),a_.set i_.toNat (IntKind.u8.wrap k_)))) none) (some (.inr (k_,a_)))
def Xak :(Int×Int×List Int)→Option (Int×List Int):=
 Y9 fun s=>Xak.B s.1 s.2.1 s.2.2
def Xcx (a:List Int) (k:Int):Option (Int×List Int):=
 (Xak (k,0,a)).bind fun o=>some (o.1,o.2)
namespace Xak
def c:=Yap (Yag Proofs.Try.f52) [1,0,1,0,0]
def sp:SP:=⟨[(0,.seg 0 []),(1,.cs I64),(5,.cs I64)],[(0,.reg,.cd SB)]⟩
def fr:=Yjc sp (fun x s=>Xak.B  s.1 s.2.1 s.2.2) (fun x=>(x.1.2.1,x.1.2.2.1,x.2.1)) fun x (bb0:Int×List Int) _ kk0=>kk0 (.ex 0) ⟨[(1,.cs I64 bb0.1)],[sr 0 (.cd SB bb0.2)]⟩
theorem ok:Ya5 PR 20 2 (.loop c) fr:=
 Yw4 Xg Xf h0 [(0,([1],[0]))] (fun x s=>((x.1.1,s.1,s.2.1,x.1.2.2.2),(s.2.2,x.2.2)))
  (fun x s=>by simp only[B,mC,mB,mS,mO,mN];kernel_rfl)
end Xak
namespace Xcx
def pts:List PT:=[.cd SB,.cs I64]
def FS:FS:=Ybn [.mu,.sh] pts (fun x=>Xcx x.1 x.2.1) fun t=>⟨[.cs I64 t.1],[.cd SB t.2]⟩
theorem ok:Yb5 PR 52 FS:=
 Yxj Xg Xf Proofs.Try.f52 h0 (.R (.L (.R (.one (.fr 0))))) (G:=(mkG [])) .nil (L:=mkL [(0,Xak.fr)]) (l:=[(0,.loop Xak.c)]) ⟨Lam.cons Xak.ok,trivial⟩
  (fun x=>by simp only[Xcx,mC,mB,mS,mO,mN];kernel_rfl)
end Xcx
def Xan.B (k_:Int) (i_:Int) (a_:List (List Int)):Option ((Int×Int×List (List Int))⊕(Int×List (List Int))):=
 cond (decide (i_<(a_.length:Int))) (cond (inB i_ a_.length) ((Xcx (a_.getD i_.toNat []) k_).bind fun r=>some (.inl (r.1,w64 (i_+1),a_.set i_.toNat r.2))) none) (some (.inr (k_,a_)))
def Xan :(Int×Int×List (List Int))→Option (Int×List (List Int)):=
 Y9 fun s=>Xan.B s.1 s.2.1 s.2.2
def Xaz (a:List (List Int)) (k:Int):Option (Int×List (List Int)):=
 (Xan (k,0,a)).bind fun o=>some (o.1,o.2)
namespace Xaz
def G:Gam:=mkG [(52,Xcx.FS)]
theorem Gok:GOk PR G:=.cons Xcx.ok .nil
end Xaz
namespace Xan
def c:=Yap (Yag Proofs.Try.f31) [1,0,1,0,0]
def sp:SP:=⟨[(0,.seg 0 []),(1,.cs I64),(5,.cs I64)],[(0,.reg,.cd (.sl SB))]⟩
def fr:=Yjc sp (fun x s=>Xan.B  s.1 s.2.1 s.2.2) (fun x=>(x.1.2.1,x.1.2.2.1,x.2.1)) fun x (bb0:Int×List (List Int)) _ kk0=>kk0 (.ex 0) ⟨[(1,.cs I64 bb0.1)],[sr 0 (.cd (.sl SB) bb0.2)]⟩
theorem ok:Ya5 PR 19 2 (.loop c) fr:=
 Yxl Xg Xf h0 (G:=Xaz.G) Xaz.Gok [(0,([1],[0]))] (fun x s=>((x.1.1,s.1,s.2.1,x.1.2.2.2),(s.2.2,x.2.2)))
  (fun x s=>by simp only[B,mC,mB,mS,mO,mN];kernel_rfl)
end Xan
namespace Xaz
def pts:List PT:=[.cd (.sl SB),.cs I64]
def FS:FS:=Ybn [.mu,.sh] pts (fun x=>Xaz x.1 x.2.1) fun t=>⟨[.cs I64 t.1],[.cd (.sl SB) t.2]⟩
theorem ok:Yb5 PR 31 FS:=
 Yxj Xg Xf Proofs.Try.f31 h0 (.R (.L (.R (.one (.fr 0))))) (G:=G) Gok (L:=mkL [(0,Xan.fr)]) (l:=[(0,.loop Xan.c)]) ⟨Lam.cons Xan.ok,trivial⟩
  (fun x=>by simp only[Xaz,mC,mB,mS,mO,mN];kernel_rfl)
end Xaz
def Xch (a:Fs_) (k:Int):Option (Int×Fs_):=
 (Xa9 a.1 k).bind fun r=>(Xaz a.2.1 r.1).bind fun r2=>some (r2.1,(r.2,r2.2,a.2.2))
namespace Xch
def G:Gam:=mkG [(30,Xa9.FS),(31,Xaz.FS)]
def pts:List PT:=[.cd Xi,.cs I64]
def FS:FS:=Ybn [.mu,.sh] pts (fun x=>Xch x.1 x.2.1) fun t=>⟨[.cs I64 t.1],[.cd Xi t.2]⟩
theorem ok:Yb5 PR 11 FS:=
 Yxj Xg Xf Proofs.Try.f11 ⟨[2],[],[],0⟩ .no (G:=G) (show GOk PR G from .cons Xa9.ok (.cons Xaz.ok .nil)) (L:=mkL []) (l:=[]) hT
  (fun x=>by simp only[Xch,mC,mB,mS,mO,mN];kernel_rfl)
end Xch
def Xcw (a:Xp) (k:Int):Option (Int×Xp):=
 (Xbi a.2.1 k).bind fun r=>some (r.1,(a.1,r.2,a.2.2))
namespace Xcw
def G:Gam:=mkG [(32,Xbi.FS)]
def pts:List PT:=[.cd Xk,.cs I64]
def FS:FS:=Ybn [.mu,.sh] pts (fun x=>Xcw x.1 x.2.1) fun t=>⟨[.cs I64 t.1],[.cd Xk t.2]⟩
theorem ok:Yb5 PR 12 FS:=
 Yxj Xg Xf Proofs.Try.f12 ⟨[2],[],[],0⟩ .no (G:=G) (show GOk PR G from .cons Xbi.ok .nil) (L:=mkL []) (l:=[]) hT
  (fun x=>by simp only[Xcw,mC,mB,mS,mO,mN];kernel_rfl)
end Xcw
def Xaj.B (a:List Int) (k_:Int) (i_:Int):Option ((Int×Int)⊕((Int⊕Int))):=
 cond (decide (i_<(a.length:Int))) (cond (inB i_ a.length) (cond ((a.getD i_.toNat 0) != k_) (some (.inr (.inl (-1)))) (some (.inl (w64 (k_+1),w64 (i_+1))))) none) (some (.inr (.inr k_)))
def Xaj (a:List Int):(Int×Int)→Option ((Int⊕Int)):=
 Y9 fun s=>Xaj.B a s.1 s.2
def Xcr (a:List Int) (k:Int):Option Int:=
 (Xaj a (k,0)).bind fun o=>sel o (fun b=>some b) (fun c=>some c)
namespace Xaj
def c:=Yap (Yag Proofs.Try.f33) [1,0,1,0,0]
def sp:SP:=⟨[(0,.cs SI),(1,.cs I64),(5,.cs I64)],[]⟩
def fr:=Yjc sp (fun x s=>Xaj.B x.1.1 s.1 s.2) (fun x=>(x.1.2.1,x.1.2.2.1)) fun x (oo0:(Int⊕Int)) _ kk0=>sel oo0 (fun bb0=>kk0 (.rt) ⟨[(4,.cs I64 bb0)],[]⟩) (fun cc0=>kk0 (.ex 0) ⟨[(1,.cs I64 cc0)],[]⟩)
theorem ok:Ya5 PR 21 2 (.loop c) fr:=
 Ytf Xg Xf h0 .no (G:=(mkG [])) .nil (L:=mkL []) (l:=[]) hT [(0,([1],[]))] ([4],[]) (fun x s=>((x.1.1,s.1,s.2,x.1.2.2.2),x.2))
  (fun x s=>by simp only[B,mC,mB,mS,mO,mN];kernel_rfl)
end Xaj
namespace Xcr
def pts:List PT:=[.cs SI,.cs I64]
def FS:FS:=Ybn [.sh,.sh] pts (fun x=>Xcr x.1 x.2.1) fun t=>⟨[.cs I64 t],[]⟩
theorem ok:Yb5 PR 33 FS:=
 Yxj Xg Xf Proofs.Try.f33 h0 (.R (.L (.R (.one (.fr 0))))) (G:=(mkG [])) .nil (L:=mkL [(0,Xaj.fr)]) (l:=[(0,.loop Xaj.c)]) ⟨Lam.cons Xaj.ok,trivial⟩
  (fun x=>by simp only[Xcr,mC,mB,mS,mO,mN];kernel_rfl)
end Xcr
def Xb7 (a:Xp) (k:Int):Option Int:=
 (Xcr a.2.1 k).bind fun r=>cond (decide (r<0)) (some (-1)) (some r)
namespace Xb7
def G:Gam:=mkG [(33,Xcr.FS)]
def pts:List PT:=[.cs Xk,.cs I64]
def FS:FS:=Ybn [.sh,.sh] pts (fun x=>Xb7 x.1 x.2.1) fun t=>⟨[.cs I64 t],[]⟩
theorem ok:Yb5 PR 13 FS:=
 Yxj Xg Xf Proofs.Try.f13 ⟨[2],[],[],0⟩ .no (G:=G) (show GOk PR G from .cons Xcr.ok .nil) (L:=mkL []) (l:=[]) hT
  (fun x=>by simp only[Xb7,mC,mB,mS,mO,mN];kernel_rfl)
end Xb7
def Xd2 (aF:Fs_):Option Bool:=
 (Xe6 aF 1048576).bind fun r=>cond (decide (r<0)) (some true) ((Xd7 aF).bind fun r2=>(Xeo (r2.1,r2.2.1,r2.2.2)).bind fun r3=>(Xd7 aF).bind fun r4=>(Xbt (r4.1,r4.2.1,r4.2.2)).bind fun r5=>(Xbo (r5.1,r5.2.1,r5.2.2) (r3.1,r3.2.1,r3.2.2)).bind fun r6=>cond (!r6) (some false) ((Xd7 aF).bind fun r7=>(Xcf (r4.1,r4.2.1,r4.2.2) (r7.1,r7.2.1,r7.2.2)).bind fun r8=>cond (!r8) (some false) ((Xch (r4.1,r4.2.1,r4.2.2) 1).bind fun r9=>cond (decide (r9.1<0)) (some false) ((Xbo (r5.1,r5.2.1,r5.2.2) (r3.1,r3.2.1,r3.2.2)).bind fun r10=>cond (!r10) (some false) ((Xcw (r5.1,r5.2.1,r5.2.2) 1).bind fun r11=>(Xb7 (r5.1,r11.2.2.1,r5.2.2) 1).bind fun r12=>cond (decide (r12<0)) (some false) (cond (r12 != r11.1) (some false) ((Xd7 aF).bind fun r13=>(Xbt (r13.1,r13.2.1,r13.2.2)).bind fun r14=>(Xbo (r14.1,r14.2.1,r14.2.2) (r3.1,r3.2.1,r3.2.2)).bind fun r15=>cond (!r15) (some false) ((Xb7 (r5.1,r11.2.2.1,r5.2.2) 1).bind fun r16=>cond (decide (r16<0)) (some false) (cond (r16 != r11.1) (some false) (some true))))))))))
namespace Xd2
def G:Gam:=mkG [(5,Xe6.FS),(7,Xd7.FS),(6,Xeo.FS),(8,Xbt.FS),(9,Xbo.FS),(10,Xcf.FS),(11,Xch.FS),(12,Xcw.FS),(13,Xb7.FS)]
def pts:List PT:=[.cs Xi]
def FS:FS:=Ybn [.sh] pts (fun x=>Xd2 x.1) fun t=>⟨[.cs .bool t],[]⟩
theorem ok:Yb5 PR 3 FS:=
 Yxj Xg Xf Proofs.Try.f3 ⟨[1],[],[],0⟩ .no (G:=G) (show GOk PR G from .cons Xe6.ok (.cons Xd7.ok (.cons Xeo.ok (.cons Xbt.ok (.cons Xbo.ok (.cons Xcf.ok (.cons Xch.ok (.cons Xcw.ok (.cons Xb7.ok .nil))))))))) (L:=mkL []) (l:=[]) hT
  (fun x=>by simp only[Xd2,mC,mB,mS,mO,mN];kernel_rfl)
end Xd2
end Mf
