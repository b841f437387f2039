import Derived.Test.YtdmbfnplackmhaaGreatMountDiskA1
noncomputable section
namespace Mf
open Go
set_option linter.unusedVariables false
set_option linter.unusedSimpArgs false
set_option maxRecDepth 100000
def Zq0.B (list:List Inode_) (v3:List Entry_) (v2:Int) (seen_2:List Bool) (v4:Int) (open_3:List Int):Option ((Int×List Int)⊕(List Int)):=
 cond (decide (v4<v2)) (cond (inB v4 v3.length) (cond (decide ((open_3++([(v3.getD v4.toNat zEntry_).2.1])).length≤2147483648)) (some (.inl (w64 (v4+1),open_3++([(v3.getD v4.toNat zEntry_).2.1])))) none) none) (some (.inr open_3))
def Zq0 (list:List Inode_) (v3:List Entry_) (v2:Int) (seen_2:List Bool):(Int×List Int)→Option (List Int):=
 loopL fun s=>Zq0.B list v3 v2 seen_2 s.1 s.2
def Zq1.B (list:List Inode_) (seen_:List Bool) (open_:List Int):Option (((List Bool)×List Int)⊕(List Bool)):=
 cond (decide ((open_.length:Int)>0)) (cond (inB (w64 ((open_.length:Int)-1)) open_.length) ((some (open_.getD ((w64 ((open_.length:Int)-1)).toNat) 0)).bind fun v=>cond (decide ((0:Int)≤(w64 ((open_.length:Int)-1)))&&decide ((w64 ((open_.length:Int)-1))≤(open_.length:Int))) ((some ((open_.drop 0).take (((w64 ((open_.length:Int)-1)).toNat)-0))).bind fun open_2=>cond (inB v seen_.length) (cond (seen_.getD v.toNat false) (some (.inl (seen_,open_2))) (cond (inB v seen_.length) (cond (inB v list.length) ((some ((list.getD v.toNat zInode_).2.2.2.2.1.length:Int)).bind fun v2=>(Zq0 list (list.getD v.toNat zInode_).2.2.2.2.1 v2 (seen_.set v.toNat true) (0,open_2)).bind fun o=>some (.inl (seen_.set v.toNat true,o))) none) none)) none) none) none) (some (.inr seen_))
def Zq1 (list:List Inode_):((List Bool)×List Int)→Option (List Bool):=
 loopL fun s=>Zq1.B list s.1 s.2
def Zq2.B (v5:Int) (o2:List Bool) (v6:Int) (out_:List Int):Option ((Int×List Int)⊕(List Int)):=
 cond (decide (v6<v5)) (cond (inB v6 o2.length) (cond (o2.getD v6.toNat false) (cond (decide ((out_++([v6])).length≤2147483648)) (some (.inl (w64 (v6+1),out_++([v6])))) none) (some (.inl (w64 (v6+1),out_)))) none) (some (.inr out_))
def Zq2 (v5:Int) (o2:List Bool):(Int×List Int)→Option (List Int):=
 loopL fun s=>Zq2.B v5 o2 s.1 s.2
def Zq3 (list:List Inode_) (from_:Int):Option (List Int):=
 cond (decide ((0:Int)≤(list.length:Int))&&(decide ((list.length:Int)≤(list.length:Int))&&decide ((list.length:Int)≤2147483648))) ((Zq1 list (List.replicate (list.length:Int).toNat false,[from_])).bind fun o2=>(Zq2 (o2.length:Int) o2 (0,[])).bind fun o3=>some o3) none
namespace Zq0
def c:=codeAt (bodyOf Proofs.Tryz.f230) [1,1,1,0,0,0,1,0,1,1,1,1,1,0,0]
def sp:SP:=⟨[(0,.cs (.sl tInode_)),(5,.seg 5 []),(6,.seg 6 []),(43,.cs (.sl tEntry_)),(44,.cs I64),(45,.cs I64)],[(5,.reg,.cd (.sl .bool)),(6,.reg,.cd SI)]⟩
def out (list:List Inode_) (v3:List Entry_) (v2:Int) (seen_2:List Bool):FOut (List Int):=fun b _ k=>k (.ex 2) ⟨[(0,.cs (.sl tInode_) list),(5,.seg 5 []),(6,.seg 6 [])],[sr 5 (.cd (.sl .bool) seen_2),sr 6 (.cd SI b)]⟩
def fr:=lfrag sp (fun x=>Zq0 x.1.1 x.1.2.2.2.1 x.1.2.2.2.2.1 x.2.1 (x.1.2.2.2.2.2.1,x.2.2.1)) fun x=>out x.1.1 x.1.2.2.2.1 x.1.2.2.2.2.1 x.2.1
theorem ok:CodeOk PR 69 2 (.loop c) fr:=
 lp_ok tbok hmix h0 .no (G:=(mkG [])) .nil (L:=mkL []) (l:=[]) hT [0,5,6,43,44,45] [5,6] [(2,([0,5,6],[5,6]))] ([],[]) (fun x s=>B x.1.1 x.1.2.2.2.1 x.1.2.2.2.2.1 x.2.1 s.1 s.2) (fun x s=>⟨[(0,.cs (.sl tInode_) x.1.1),(5,.seg 5 []),(6,.seg 6 []),(43,.cs (.sl tEntry_) x.1.2.2.2.1),(44,.cs I64 x.1.2.2.2.2.1),(45,.cs I64 s.1)],[sr 5 (.cd (.sl .bool) x.2.1),sr 6 (.cd SI s.2)]⟩) (fun x=>(x.1.2.2.2.2.2.1,x.2.2.1))
  (fun x s=>by simp only[B,mC,mB,mS,mO,mN];kernel_rfl)
end Zq0
namespace Zq1
def c:=codeAt (bodyOf Proofs.Tryz.f230) [1,1,1,0,0,0]
def sp:SP:=⟨[(0,.cs (.sl tInode_)),(5,.seg 5 []),(6,.seg 6 [])],[(5,.reg,.cd (.sl .bool)),(6,.reg,.cd SI)]⟩
def out (list:List Inode_):FOut (List Bool):=fun b _ k=>k (.ex 0) ⟨[(5,.seg 5 [])],[sr 5 (.cd (.sl .bool) b)]⟩
def fr:=lfrag sp (fun x=>Zq1 x.1.1 (x.2.1,x.2.2.1)) fun x=>out x.1.1
theorem ok:CodeOk PR 69 2 (.loop c) fr:=
 lp_ok tbok hmix h0 (.R (.one (.R (.R (.R (.R (.R (.one (.fr 1))))))))) (G:=(mkG [])) .nil (L:=mkL [(1,Zq0.fr)]) (l:=[(1,.loop Zq0.c)]) ⟨Lam.cons Zq0.ok,trivial⟩ [0,5,6] [5,6] [(0,([5],[5]))] ([],[]) (fun x s=>B x.1.1 s.1 s.2) (fun x s=>⟨[(0,.cs (.sl tInode_) x.1.1),(5,.seg 5 []),(6,.seg 6 [])],[sr 5 (.cd (.sl .bool) s.1),sr 6 (.cd SI s.2)]⟩) (fun x=>(x.2.1,x.2.2.1))
  (fun x s=>by simp only[B,mC,mB,mS,mO,mN];kernel_rfl)
end Zq1
namespace Zq2
def c:=codeAt (bodyOf Proofs.Tryz.f230) [1,1,1,1,1,0,1,0,0]
def sp:SP:=⟨[(10,.seg 10 []),(55,.seg 5 []),(56,.cs I64),(57,.cs I64)],[(5,.reg,.cd (.sl .bool)),(10,.reg,.cd SI)]⟩
def out (v5:Int) (o2:List Bool):FOut (List Int):=fun b _ k=>k (.ex 4) ⟨[(10,.seg 10 [])],[sr 10 (.cd SI b)]⟩
def fr:=lfrag sp (fun x=>Zq2 x.1.2.2.1 x.2.1 (x.1.2.2.2.1,x.2.2.1)) fun x=>out x.1.2.2.1 x.2.1
theorem ok:CodeOk PR 69 2 (.loop c) fr:=
 lp_ok tbok hmix h0 .no (G:=(mkG [])) .nil (L:=mkL []) (l:=[]) hT [10,55,56,57] [5,10] [(4,([10],[10]))] ([],[]) (fun x s=>B x.1.2.2.1 x.2.1 s.1 s.2) (fun x s=>⟨[(10,.seg 10 []),(55,.seg 5 []),(56,.cs I64 x.1.2.2.1),(57,.cs I64 s.1)],[sr 5 (.cd (.sl .bool) x.2.1),sr 10 (.cd SI s.2)]⟩) (fun x=>(x.1.2.2.2.1,x.2.2.1))
  (fun x s=>by simp only[B,mC,mB,mS,mO,mN];kernel_rfl)
end Zq2
namespace Zq3
def pts:List PT:=[.cs (.sl tInode_),.cs I64]
def FS:FS:=mkFS [.sh,.sh] pts (fun x=>Zq3 x.1 x.2.1) fun t=>⟨[.cd SI t],[]⟩
theorem ok:FsOk PR 230 FS:=
 fn_ok tbok hmix Proofs.Tryz.f230 h0 (.R (.R (.R (.two (.one (.fr 0)) (.R (.L (.R (.one (.fr 2))))))))) (G:=(mkG [])) .nil (L:=mkL [(1,Zq0.fr),(0,Zq1.fr),(2,Zq2.fr)]) (l:=[(0,.loop Zq1.c),(2,.loop Zq2.c)]) ⟨Lam.skip rfl (Lam.cons Zq1.ok),Lam.skip rfl (Lam.skip rfl (Lam.cons Zq2.ok)),trivial⟩
  (fun x=>by simp only[Zq3,mC,mB,mS,mO,mN];kernel_rfl)
end Zq3
def Zq4.B (at_:Int) (list:List Inode_) (v:Int) (v2:Int) (v4:List Entry_) (v3:Int) (count_2:Int) (v5:Int):Option ((Int×Int)⊕Int):=
 cond (decide (v5<v3)) (cond (inB v5 v4.length) (cond ((v4.getD v5.toNat zEntry_).2.1 == at_) (some (.inl (w64 (count_2+1),w64 (v5+1)))) (some (.inl (count_2,w64 (v5+1))))) none) (some (.inr count_2))
def Zq4 (at_:Int) (list:List Inode_) (v:Int) (v2:Int) (v4:List Entry_) (v3:Int):(Int×Int)→Option Int:=
 loopL fun s=>Zq4.B at_ list v v2 v4 v3 s.1 s.2
def Zq5.B (at_:Int) (list:List Inode_) (v:Int) (count_:Int) (v2:Int):Option ((Int×Int)⊕Int):=
 cond (decide (v2<v)) (cond (inB v2 list.length) ((some ((list.getD v2.toNat zInode_).2.2.2.2.1.length:Int)).bind fun v3=>(Zq4 at_ list v v2 (list.getD v2.toNat zInode_).2.2.2.2.1 v3 (count_,0)).bind fun o=>some (.inl (o,w64 (v2+1)))) none) (some (.inr count_))
def Zq5 (at_:Int) (list:List Inode_) (v:Int):(Int×Int)→Option Int:=
 loopL fun s=>Zq5.B at_ list v s.1 s.2
def Zq6 (list:List Inode_) (at_:Int):Option Int:=
 (Zq5 at_ list (list.length:Int) (0,0)).bind fun o2=>some o2
namespace Zq4
def c:=codeAt (bodyOf Proofs.Tryz.f231) [1,1,0,1,0,0,1,1,0,0,1,1,0,0]
def sp:SP:=⟨[(1,.cs I64),(5,.cs I64),(10,.cs (.sl tInode_)),(11,.cs I64),(12,.cs I64),(17,.cs (.sl tEntry_)),(18,.cs I64),(19,.cs I64)],[]⟩
def out (at_:Int) (list:List Inode_) (v:Int) (v2:Int) (v4:List Entry_) (v3:Int):FOut Int:=fun b _ k=>k (.ex 2) ⟨[(1,.cs I64 at_),(5,.cs I64 b),(10,.cs (.sl tInode_) list),(11,.cs I64 v),(12,.cs I64 v2)],[]⟩
def fr:=lfrag sp (fun x=>Zq4 x.1.1 x.1.2.2.1 x.1.2.2.2.1 x.1.2.2.2.2.1 x.1.2.2.2.2.2.1 x.1.2.2.2.2.2.2.1 (x.1.2.1,x.1.2.2.2.2.2.2.2.1)) fun x=>out x.1.1 x.1.2.2.1 x.1.2.2.2.1 x.1.2.2.2.2.1 x.1.2.2.2.2.2.1 x.1.2.2.2.2.2.2.1
theorem ok:CodeOk PR 32 2 (.loop c) fr:=
 lp_ok tbok hmix h0 .no (G:=(mkG [])) .nil (L:=mkL []) (l:=[]) hT [1,5,10,11,12,17,18,19] [] [(2,([1,5,10,11,12],[]))] ([],[]) (fun x s=>B x.1.1 x.1.2.2.1 x.1.2.2.2.1 x.1.2.2.2.2.1 x.1.2.2.2.2.2.1 x.1.2.2.2.2.2.2.1 s.1 s.2) (fun x s=>⟨[(1,.cs I64 x.1.1),(5,.cs I64 s.1),(10,.cs (.sl tInode_) x.1.2.2.1),(11,.cs I64 x.1.2.2.2.1),(12,.cs I64 x.1.2.2.2.2.1),(17,.cs (.sl tEntry_) x.1.2.2.2.2.2.1),(18,.cs I64 x.1.2.2.2.2.2.2.1),(19,.cs I64 s.2)],[]⟩) (fun x=>(x.1.2.1,x.1.2.2.2.2.2.2.2.1))
  (fun x s=>by simp only[B,mC,mB,mS,mO,mN];kernel_rfl)
end Zq4
namespace Zq5
def c:=codeAt (bodyOf Proofs.Tryz.f231) [1,1,0,1,0,0]
def sp:SP:=⟨[(1,.cs I64),(5,.cs I64),(10,.cs (.sl tInode_)),(11,.cs I64),(12,.cs I64)],[]⟩
def out (at_:Int) (list:List Inode_) (v:Int):FOut Int:=fun b _ k=>k (.ex 0) ⟨[(5,.cs I64 b)],[]⟩
def fr:=lfrag sp (fun x=>Zq5 x.1.1 x.1.2.2.1 x.1.2.2.2.1 (x.1.2.1,x.1.2.2.2.2.1)) fun x=>out x.1.1 x.1.2.2.1 x.1.2.2.2.1
theorem ok:CodeOk PR 32 2 (.loop c) fr:=
 lp_ok tbok hmix h0 (.R (.R (.L (.one (.R (.R (.one (.fr 1)))))))) (G:=(mkG [])) .nil (L:=mkL [(1,Zq4.fr)]) (l:=[(1,.loop Zq4.c)]) ⟨Lam.cons Zq4.ok,trivial⟩ [1,5,10,11,12] [] [(0,([5],[]))] ([],[]) (fun x s=>B x.1.1 x.1.2.2.1 x.1.2.2.2.1 s.1 s.2) (fun x s=>⟨[(1,.cs I64 x.1.1),(5,.cs I64 s.1),(10,.cs (.sl tInode_) x.1.2.2.1),(11,.cs I64 x.1.2.2.2.1),(12,.cs I64 s.2)],[]⟩) (fun x=>(x.1.2.1,x.1.2.2.2.2.1))
  (fun x s=>by simp only[B,mC,mB,mS,mO,mN];kernel_rfl)
end Zq5
namespace Zq6
def pts:List PT:=[.cs (.sl tInode_),.cs I64]
def FS:FS:=mkFS [.sh,.sh] pts (fun x=>Zq6 x.1 x.2.1) fun t=>⟨[.cs I64 t],[]⟩
theorem ok:FsOk PR 231 FS:=
 fn_ok tbok hmix Proofs.Tryz.f231 h0 (.R (.R (.L (.R (.one (.fr 0)))))) (G:=(mkG [])) .nil (L:=mkL [(1,Zq4.fr),(0,Zq5.fr)]) (l:=[(0,.loop Zq5.c)]) ⟨Lam.skip rfl (Lam.cons Zq5.ok),trivial⟩
  (fun x=>by simp only[Zq6,mC,mB,mS,mO,mN];kernel_rfl)
end Zq6
def Zq7.B (f:Fs_) (v:List Inode_) (v2:Int) (r:List Int) (v3:Int):Option (Int⊕((Int⊕Unit))):=
 cond (decide (v3<v2)) (cond (inB v3 v.length) ((Zq6 f.1 v3).bind fun r2=>(some (cond ((v.getD v3.toNat zInode_).1 == 1) ((v.getD v3.toNat zInode_).2.1 != r2) false)).bind fun v4=>cond v4 (some (.inr (.inl 1))) ((some (cond ((v.getD v3.toNat zInode_).1 == 2) (v3 == 0) false)).bind fun v5=>cond (cond v5 (r2 != 0) false) (some (.inr (.inl 1))) ((some (cond ((v.getD v3.toNat zInode_).1 == 2) (decide (v3>0)) false)).bind fun v6=>cond (cond v6 (r2 != 1) false) (some (.inr (.inl 1))) (cond ((v.getD v3.toNat zInode_).1 != 0) ((Zq8 r v3).bind fun r3=>cond (!r3) (some (.inr (.inl 1))) (some (.inl (w64 (v3+1))))) (some (.inl (w64 (v3+1)))))))) none) (some (.inr (.inr ())))
def Zq7 (f:Fs_) (v:List Inode_) (v2:Int) (r:List Int):Int→Option ((Int⊕Unit)):=
 loopL fun s=>Zq7.B f v v2 r s
def Zq9 (f:Fs_):Option Int:=
 (Zq3 f.1 0).bind fun r=>(Zq7 f f.1 (f.1.length:Int) r 0).bind fun o=>sel o (fun b=>some b) (fun c=>some 0)
namespace Zq9
def G:Gam:=mkG [(230,Zq3.FS),(231,Zq6.FS),(135,Zq8.FS)]
theorem Gok:GOk PR G:=.cons Zq3.ok (.cons Zq6.ok (.cons Zq8.ok .nil))
end Zq9
namespace Zq7
def c:=codeAt (bodyOf Proofs.Tryz.f157) [1,1,0,1,0,0]
def sp:SP:=⟨[(1,.pt tFs_),(3,.seg 3 []),(12,.cs (.sl tInode_)),(13,.cs I64),(14,.cs I64)],[(3,.reg,.cd SI)]⟩
def out (f:Fs_) (v:List Inode_) (v2:Int) (r:List Int):FOut ((Int⊕Unit)):=fun o _ k=>sel o (fun b=>k (.rt) ⟨[(2,.cs I64 b)],[]⟩) (fun c=>k (.ex 0) ⟨[],[]⟩)
def fr:=lfrag sp (fun x=>Zq7 x.1.1 x.1.2.2.1 x.1.2.2.2.1 x.2.1 x.1.2.2.2.2.1) fun x=>out x.1.1 x.1.2.2.1 x.1.2.2.2.1 x.2.1
theorem ok:CodeOk PR 66 1 (.loop c) fr:=
 lp_ok tbok hmix ⟨[1],[],[],0⟩ .no (G:=Zq9.G) Zq9.Gok (L:=mkL []) (l:=[]) hT [1,3,12,13,14] [3] [(0,([],[]))] ([2],[]) (fun x s=>B x.1.1 x.1.2.2.1 x.1.2.2.2.1 x.2.1 s) (fun x s=>⟨[(1,.pt tFs_ x.1.1),(3,.seg 3 []),(12,.cs (.sl tInode_) x.1.2.2.1),(13,.cs I64 x.1.2.2.2.1),(14,.cs I64 s)],[sr 3 (.cd SI x.2.1)]⟩) (fun x=>x.1.2.2.2.2.1)
  (fun x s=>by simp only[B,mC,mB,mS,mO,mN];kernel_rfl)
end Zq7
namespace Zq9
def pts:List PT:=[.cs tFs_]
def FS:FS:=mkFS [.sh] pts (fun x=>Zq9 x.1) fun t=>⟨[.cs I64 t],[]⟩
theorem ok:FsOk PR 157 FS:=
 fn_ok tbok hmix Proofs.Tryz.f157 ⟨[1],[],[],0⟩ (.R (.R (.L (.R (.one (.fr 0)))))) (G:=G) Gok (L:=mkL [(0,Zq7.fr)]) (l:=[(0,.loop Zq7.c)]) ⟨Lam.cons Zq7.ok,trivial⟩
  (fun x=>by simp only[Zq9,mC,mB,mS,mO,mN];kernel_rfl)
end Zq9
def Zq10 (l:List Int):Option Int:=
 some (l.length:Int)
namespace Zq10
def pts:List PT:=[.cs SB]
def FS:FS:=mkFS [.sh] pts (fun x=>Zq10 x.1) fun t=>⟨[.cs I64 t],[]⟩
theorem ok:FsOk PR 180 FS:=
 fn_ok tbok hmix Proofs.Tryz.f180 h0 .no (G:=(mkG [])) .nil (L:=mkL []) (l:=[]) hT
  (fun x=>by simp only[Zq10,mC,mB,mS,mO,mN];kernel_rfl)
end Zq10
def Zq11.B (f:Fs_) (r:List Int) (v:Int):Option (Int⊕((Int⊕Unit))):=
 cond (decide (v<20)) (cond (inB v 20) (cond (inB v f.2.1.length) ((Zq10 (f.2.1.getD v.toNat [])).bind fun r2=>cond (r2 != (r.getD v.toNat 0)) (some (.inr (.inl 1))) (some (.inl (w64 (v+1))))) none) none) (some (.inr (.inr ())))
def Zq11 (f:Fs_) (r:List Int):Int→Option ((Int⊕Unit)):=
 loopL fun s=>Zq11.B f r s
def Zq12 (f:Fs_):Option Int:=
 (Zq13 f.1).bind fun r=>(Zq11 f r 0).bind fun o=>sel o (fun b=>some b) (fun c=>some 0)
namespace Zq12
def G:Gam:=mkG [(177,Zq13.FS),(180,Zq10.FS)]
theorem Gok:GOk PR G:=.cons Zq13.ok (.cons Zq10.ok .nil)
end Zq12
namespace Zq11
def c:=codeAt (bodyOf Proofs.Tryz.f158) [1,0,1,0,0]
def sp:SP:=⟨[(1,.pt tFs_),(7,.cs (.arr 20 I64)),(8,.cs I64)],[]⟩
def out (f:Fs_) (r:List Int):FOut ((Int⊕Unit)):=fun o _ k=>sel o (fun b=>k (.rt) ⟨[(2,.cs I64 b)],[]⟩) (fun c=>k (.ex 0) ⟨[],[]⟩)
def fr:=lfrag sp (fun x=>Zq11 x.1.1 x.1.2.1 x.1.2.2.1) fun x=>out x.1.1 x.1.2.1
theorem ok:CodeOk PR 21 1 (.loop c) fr:=
 lp_ok tbok hmix ⟨[1],[],[],0⟩ .no (G:=Zq12.G) Zq12.Gok (L:=mkL []) (l:=[]) hT [1,7,8] [] [(0,([],[]))] ([2],[]) (fun x s=>B x.1.1 x.1.2.1 s) (fun x s=>⟨[(1,.pt tFs_ x.1.1),(7,.cs (.arr 20 I64) x.1.2.1),(8,.cs I64 s)],[]⟩) (fun x=>x.1.2.2.1)
  (fun x s=>by simp only[B,mC,mB,mS,mO,mN];kernel_rfl)
end Zq11
namespace Zq12
def pts:List PT:=[.cs tFs_]
def FS:FS:=mkFS [.sh] pts (fun x=>Zq12 x.1) fun t=>⟨[.cs I64 t],[]⟩
theorem ok:FsOk PR 158 FS:=
 fn_ok tbok hmix Proofs.Tryz.f158 ⟨[1],[],[],0⟩ (.R (.L (.R (.one (.fr 0))))) (G:=G) Gok (L:=mkL [(0,Zq11.fr)]) (l:=[(0,.loop Zq11.c)]) ⟨Lam.cons Zq11.ok,trivial⟩
  (fun x=>by simp only[Zq12,mC,mB,mS,mO,mN];kernel_rfl)
end Zq12
def Zq14 (f:Fs_):Option Int:=
 (Zq15 f).bind fun r=>cond (r != 0) (some r) ((Zq9 f).bind fun r2=>cond (r2 != 0) (some r2) ((Zq12 f).bind fun r3=>some r3))
namespace Zq14
def G:Gam:=mkG [(156,Zq15.FS),(157,Zq9.FS),(158,Zq12.FS)]
def pts:List PT:=[.cs tFs_]
def FS:FS:=mkFS [.sh] pts (fun x=>Zq14 x.1) fun t=>⟨[.cs I64 t],[]⟩
theorem ok:FsOk PR 70 FS:=
 fn_ok tbok hmix Proofs.Tryz.f70 ⟨[1],[],[],0⟩ .no (G:=G) (show GOk PR G from .cons Zq15.ok (.cons Zq9.ok (.cons Zq12.ok .nil))) (L:=mkL []) (l:=[]) hT
  (fun x=>by simp only[Zq14,mC,mB,mS,mO,mN];kernel_rfl)
end Zq14
def Zq16.B (d:Disk_) (v2:Fs_) (many_:Int) (v:Int) (f_:Fs_):Option ((Int×Int×Fs_)⊕(((Int×Fs_)⊕(Int×Fs_)))):=
 cond (decide (v<10)) ((Zq17 d (w64 ((17:Int)+v))).bind fun r=>(Zq18 r).bind fun r2=>cond (r2.2 != 0) (some (.inr (.inl (r2.2,([],[],()))))) ((some (f_.1++([(r2.1.1,r2.1.2.1,r2.1.2.2.1,r2.1.2.2.2.1,r2.1.2.2.2.2.1,r2.1.2.2.2.2.2)]))).bind fun v3=>cond (decide (v3.length≤2147483648)) (cond (decide ((r.length:Int)>0)) (some (.inl (w64 (v+1),w64 (v+1),(v3,f_.2)))) (some (.inl (many_,w64 (v+1),(v3,f_.2))))) none)) (some (.inr (.inr (many_,f_))))
def Zq16 (d:Disk_) (v2:Fs_):(Int×Int×Fs_)→Option (((Int×Fs_)⊕(Int×Fs_))):=
 loopL fun s=>Zq16.B d v2 s.1 s.2.1 s.2.2
def Zq19.B (d:Disk_) (v4:Int) (r4:List Int) (v7:Int) (r5:List Int) (v8:Int) (v9:List Int) (r7:Bool) (v10:List Int) (v6:Int) (v5:Fs_) (v11:Int) (f_3:Fs_):Option ((Int×Fs_)⊕Fs_):=
 cond (decide (v11<v6)) (cond (inB v11 v10.length) (cond (inB v4 f_3.2.1.length) ((some ((f_3.2.1.getD v4.toNat [])++([IntKind.u8.wrap (v10.getD v11.toNat 0)]))).bind fun v12=>cond (decide (v12.length≤2147483648)) (cond (inB v4 f_3.2.1.length) (cond (Nat.beq v4.toNat v4.toNat&&true) (some (.inl (w64 (v11+1),(f_3.1,f_3.2.1.set v4.toNat v12,f_3.2.2)))) none) none) none) none) none) (some (.inr f_3))
def Zq19 (d:Disk_) (v4:Int) (r4:List Int) (v7:Int) (r5:List Int) (v8:Int) (v9:List Int) (r7:Bool) (v10:List Int) (v6:Int) (v5:Fs_):(Int×Fs_)→Option Fs_:=
 loopL fun s=>Zq19.B d v4 r4 v7 r5 v8 v9 r7 v10 v6 v5 s.1 s.2
def Zq20.B (d:Disk_) (r4:List Int) (v5:Fs_) (v4:Int) (f_2:Fs_):Option ((Int×Fs_)⊕(((Int×Fs_)⊕Fs_))):=
 cond (decide (v4<20)) (cond (inB v4 20) ((Zq17 d (w64 ((27:Int)+v4))).bind fun r5=>(Zq21 r5).bind fun r6=>cond (decide (r6<(r4.getD v4.toNat 0))) (some (.inr (.inl (5,([],[],()))))) (cond (decide ((0:Int)≤(r4.getD v4.toNat 0))&&decide ((r4.getD v4.toNat 0)≤(r5.length:Int))) ((Zq22 ((r5.take ((r4.getD v4.toNat 0).toNat)).drop 0) ()).bind fun r7=>cond r7 (some (.inr (.inl (5,([],[],()))))) (cond (decide ((0:Int)≤(r4.getD v4.toNat 0))&&decide ((r4.getD v4.toNat 0)≤(r5.length:Int))) ((some (((r5.take ((r4.getD v4.toNat 0).toNat)).drop 0).length:Int)).bind fun v6=>(Zq19 d v4 r4 v4 r5 (r4.getD v4.toNat 0) ((r5.take ((r4.getD v4.toNat 0).toNat)).drop 0) r7 ((r5.take ((r4.getD v4.toNat 0).toNat)).drop 0) v6 v5 (0,f_2)).bind fun o2=>some (.inl (w64 (v4+1),o2))) none)) none)) none) (some (.inr (.inr f_2)))
def Zq20 (d:Disk_) (r4:List Int) (v5:Fs_):(Int×Fs_)→Option (((Int×Fs_)⊕Fs_)):=
 loopL fun s=>Zq20.B d r4 v5 s.1 s.2
def Zq23 (d:Disk_):Option (Fs_×Int):=
 cond (decide ((0:Int)≤(20:Int))&&(decide ((20:Int)≤(20:Int))&&decide ((20:Int)≤2147483648))) ((Zq16 d ([],[],()) (0,0,([],List.replicate (20:Int).toNat ([]:List Int),()))).bind fun o=>sel o (fun b=>some ((b.2.1,b.2.2.1,b.2.2.2),b.1)) (fun c=>cond (decide ((0:Int)≤c.1)&&decide (c.1≤(c.2.1.length:Int))) ((Zq15 ((c.2.1.drop 0).take (c.1.toNat-0),c.2.2.1,c.2.2.2)).bind fun r3=>cond (r3 != 0) (some (([],[],()),r3)) ((Zq13 ((c.2.1.drop 0).take (c.1.toNat-0))).bind fun r4=>(Zq20 d r4 ([],[],()) (0,((c.2.1.drop 0).take (c.1.toNat-0),c.2.2))).bind fun o3=>sel o3 (fun b2=>some ((b2.2.1,b2.2.2.1,b2.2.2.2),b2.1)) (fun c2=>(Zq14 (c2.1,c2.2.1,c2.2.2)).bind fun r8=>some ((c2.1,c2.2.1,c2.2.2),r8)))) none)) none
namespace Zq23
def G:Gam:=mkG [(155,Zq17.FS),(197,Zq18.FS),(156,Zq15.FS),(177,Zq13.FS),(179,Zq21.FS),(195,Zq22.FS),(70,Zq14.FS)]
theorem Gok:GOk PR G:=.cons Zq17.ok (.cons Zq18.ok (.cons Zq15.ok (.cons Zq13.ok (.cons Zq21.ok (.cons Zq22.ok (.cons Zq14.ok .nil))))))
end Zq23
namespace Zq16
def c:=codeAt (bodyOf Proofs.Tryz.f117) [1,1,1,0,1,0,0]
def sp:SP:=⟨[(1,.pt tDisk_),(2,.loc 2 []),(4,.loc 4 []),(5,.cs I64),(18,.cs I64)],[(2,.mem,.cd tFs_),(4,.mem,.cd tFs_)]⟩
def out (d:Disk_) (v2:Fs_):FOut (((Int×Fs_)⊕(Int×Fs_))):=fun o _ k=>sel o (fun b=>k (.rt) ⟨[(2,.loc 2 []),(3,.cs I64 b.1)],[(2,some ⟨.mem,.cd tFs_ b.2⟩)]⟩) (fun c=>k (.ex 0) ⟨[(1,.pt tDisk_ d),(2,.loc 2 []),(4,.loc 4 []),(5,.cs I64 c.1)],[(2,some ⟨.mem,.cd tFs_ v2⟩),(4,some ⟨.mem,.cd tFs_ c.2⟩)]⟩)
def fr:=lfrag sp (fun x=>Zq16 x.1.1 x.2.1 (x.1.2.2.2.1,x.1.2.2.2.2.1,x.2.2.1)) fun x=>out x.1.1 x.2.1
theorem ok:CodeOk PR 103 1 (.loop c) fr:=
 lp_ok tbok hmix ⟨[1],[],[],0⟩ .no (G:=Zq23.G) Zq23.Gok (L:=mkL []) (l:=[]) hT [1,2,4,5,18] [2,4] [(0,([1,2,4,5],[2,4]))] ([2,3],[2]) (fun x s=>B x.1.1 x.2.1 s.1 s.2.1 s.2.2) (fun x s=>⟨[(1,.pt tDisk_ x.1.1),(2,.loc 2 []),(4,.loc 4 []),(5,.cs I64 s.1),(18,.cs I64 s.2.1)],[(2,some ⟨.mem,.cd tFs_ x.2.1⟩),(4,some ⟨.mem,.cd tFs_ s.2.2⟩)]⟩) (fun x=>(x.1.2.2.2.1,x.1.2.2.2.2.1,x.2.2.1))
  (fun x s=>by simp only[B,mC,mB,mS,mO,mN];kernel_rfl)
end Zq16
namespace Zq19
def c:=codeAt (bodyOf Proofs.Tryz.f117) [1,1,1,1,1,1,0,1,0,0,1,1,0,0,1,1,1,1,0,0]
def sp:SP:=⟨[(1,.pt tDisk_),(2,.loc 2 []),(4,.loc 4 []),(11,.cs I64),(58,.cs (.arr 20 I64)),(59,.cs I64),(71,.cs SI),(72,.cs I64),(73,.cs SI),(74,.cs .bool),(79,.cs SI),(80,.cs I64),(81,.cs I64)],[(2,.mem,.cd tFs_),(4,.mem,.cd tFs_)]⟩
def out (d:Disk_) (v4:Int) (r4:List Int) (v7:Int) (r5:List Int) (v8:Int) (v9:List Int) (r7:Bool) (v10:List Int) (v6:Int) (v5:Fs_):FOut Fs_:=fun b _ k=>k (.ex 4) ⟨[(1,.pt tDisk_ d),(2,.loc 2 []),(4,.loc 4 []),(58,.cs (.arr 20 I64) r4),(59,.cs I64 v7),(71,.cs SI r5),(72,.cs I64 v8),(73,.cs SI v9),(74,.cs .bool r7)],[(2,some ⟨.mem,.cd tFs_ v5⟩),(4,some ⟨.mem,.cd tFs_ b⟩)]⟩
def fr:=lfrag sp (fun x=>Zq19 x.1.1 x.1.2.2.2.1 x.1.2.2.2.2.1 x.1.2.2.2.2.2.1 x.1.2.2.2.2.2.2.1 x.1.2.2.2.2.2.2.2.1 x.1.2.2.2.2.2.2.2.2.1 x.1.2.2.2.2.2.2.2.2.2.1 x.1.2.2.2.2.2.2.2.2.2.2.1 x.1.2.2.2.2.2.2.2.2.2.2.2.1 x.2.1 (x.1.2.2.2.2.2.2.2.2.2.2.2.2.1,x.2.2.1)) fun x=>out x.1.1 x.1.2.2.2.1 x.1.2.2.2.2.1 x.1.2.2.2.2.2.1 x.1.2.2.2.2.2.2.1 x.1.2.2.2.2.2.2.2.1 x.1.2.2.2.2.2.2.2.2.1 x.1.2.2.2.2.2.2.2.2.2.1 x.1.2.2.2.2.2.2.2.2.2.2.1 x.1.2.2.2.2.2.2.2.2.2.2.2.1 x.2.1
theorem ok:CodeOk PR 103 1 (.loop c) fr:=
 lp_ok tbok hmix ⟨[1],[],[],0⟩ .no (G:=Zq23.G) Zq23.Gok (L:=mkL []) (l:=[]) hT [1,2,4,11,58,59,71,72,73,74,79,80,81] [2,4] [(4,([1,2,4,58,59,71,72,73,74],[2,4]))] ([],[]) (fun x s=>B x.1.1 x.1.2.2.2.1 x.1.2.2.2.2.1 x.1.2.2.2.2.2.1 x.1.2.2.2.2.2.2.1 x.1.2.2.2.2.2.2.2.1 x.1.2.2.2.2.2.2.2.2.1 x.1.2.2.2.2.2.2.2.2.2.1 x.1.2.2.2.2.2.2.2.2.2.2.1 x.1.2.2.2.2.2.2.2.2.2.2.2.1 x.2.1 s.1 s.2) (fun x s=>⟨[(1,.pt tDisk_ x.1.1),(2,.loc 2 []),(4,.loc 4 []),(11,.cs I64 x.1.2.2.2.1),(58,.cs (.arr 20 I64) x.1.2.2.2.2.1),(59,.cs I64 x.1.2.2.2.2.2.1),(71,.cs SI x.1.2.2.2.2.2.2.1),(72,.cs I64 x.1.2.2.2.2.2.2.2.1),(73,.cs SI x.1.2.2.2.2.2.2.2.2.1),(74,.cs .bool x.1.2.2.2.2.2.2.2.2.2.1),(79,.cs SI x.1.2.2.2.2.2.2.2.2.2.2.1),(80,.cs I64 x.1.2.2.2.2.2.2.2.2.2.2.2.1),(81,.cs I64 s.1)],[(2,some ⟨.mem,.cd tFs_ x.2.1⟩),(4,some ⟨.mem,.cd tFs_ s.2⟩)]⟩) (fun x=>(x.1.2.2.2.2.2.2.2.2.2.2.2.2.1,x.2.2.1))
  (fun x s=>by simp only[B,mC,mB,mS,mO,mN];kernel_rfl)
end Zq19
namespace Zq20
def c:=codeAt (bodyOf Proofs.Tryz.f117) [1,1,1,1,1,1,0,1,0,0]
def sp:SP:=⟨[(1,.pt tDisk_),(2,.loc 2 []),(4,.loc 4 []),(58,.cs (.arr 20 I64)),(59,.cs I64)],[(2,.mem,.cd tFs_),(4,.mem,.cd tFs_)]⟩
def out (d:Disk_) (r4:List Int) (v5:Fs_):FOut (((Int×Fs_)⊕Fs_)):=fun o _ k=>sel o (fun b=>k (.rt) ⟨[(2,.loc 2 []),(3,.cs I64 b.1)],[(2,some ⟨.mem,.cd tFs_ b.2⟩)]⟩) (fun c=>k (.ex 2) ⟨[(2,.loc 2 []),(4,.loc 4 [])],[(2,some ⟨.mem,.cd tFs_ v5⟩),(4,some ⟨.mem,.cd tFs_ c⟩)]⟩)
def fr:=lfrag sp (fun x=>Zq20 x.1.1 x.1.2.2.2.1 x.2.1 (x.1.2.2.2.2.1,x.2.2.1)) fun x=>out x.1.1 x.1.2.2.2.1 x.2.1
theorem ok:CodeOk PR 103 1 (.loop c) fr:=
 lp_ok tbok hmix ⟨[1],[],[],0⟩ (.R (.R (.L (.one (.R (.R (.R (.R (.one (.fr 2)))))))))) (G:=Zq23.G) Zq23.Gok (L:=mkL [(2,Zq19.fr)]) (l:=[(2,.loop Zq19.c)]) ⟨Lam.cons Zq19.ok,trivial⟩ [1,2,4,58,59] [2,4] [(2,([2,4],[2,4]))] ([2,3],[2]) (fun x s=>B x.1.1 x.1.2.2.2.1 x.2.1 s.1 s.2) (fun x s=>⟨[(1,.pt tDisk_ x.1.1),(2,.loc 2 []),(4,.loc 4 []),(58,.cs (.arr 20 I64) x.1.2.2.2.1),(59,.cs I64 s.1)],[(2,some ⟨.mem,.cd tFs_ x.2.1⟩),(4,some ⟨.mem,.cd tFs_ s.2⟩)]⟩) (fun x=>(x.1.2.2.2.2.1,x.2.2.1))
  (fun x s=>by simp only[B,mC,mB,mS,mO,mN];kernel_rfl)
end Zq20
namespace Zq23
def pts:List PT:=[.cs tDisk_]
def FS:FS:=mkFS [.sh] pts (fun x=>Zq23 x.1) fun t=>⟨[.cd tFs_ t.1,.cs I64 t.2],[]⟩
theorem ok:FsOk PR 117 FS:=
 fn_ok tbok hmix Proofs.Tryz.f117 ⟨[1],[],[],0⟩ (.R (.R (.R (.two (.R (.one (.fr 0))) (.R (.R (.L (.R (.one (.fr 1)))))))))) (G:=G) Gok (L:=mkL [(0,Zq16.fr),(2,Zq19.fr),(1,Zq20.fr)]) (l:=[(0,.loop Zq16.c),(1,.loop Zq20.c)]) ⟨Lam.cons Zq16.ok,Lam.skip rfl (Lam.skip rfl (Lam.cons Zq20.ok)),trivial⟩
  (fun x=>by simp only[Zq23,mC,mB,mS,mO,mN];kernel_rfl)
end Zq23
noncomputable def Zq24 (s:List Int):Option (List Int):=cloneP s
noncomputable def Zq24.FS:FS:=mkFS [.sh] [.cl .sh (.sl (.int .u8))] (fun x=>Zq24 x.1) fun y=>⟨[.cl .deep (.sl (.int .u8)) y],[]⟩
theorem Zq24.ok:FsOk Go.Proofs.Tryz.prog 252 Zq24.FS:=
 clone_fs (hn:=⟨[],[],[],0⟩) tbok hmix (fn:=Go.Proofs.Tryz.f252) (by kernel_rfl) (body_some (by kernel_rfl)) (by kernel_rfl) (by kernel_rfl) .deep (.int .u8) 60 60 5 (by kernel_rfl) (by kernel_rfl) (by kernel_rfl) (by kernel_rfl) (by kernel_rfl) (by kernel_rfl) (by kernel_rfl) (by kernel_rfl) (fun xs=>by kernel_rfl) (fun xs=>by kernel_rfl) (fun xs=>by kernel_rfl) (fun xs=>by kernel_rfl)
def Zq25.B (data:List (List Int)) (v:Int) (v2:Int) (out_:List (List Int)):Option ((Int×List (List Int))⊕(List (List Int))):=
 cond (decide (v2<v)) (cond (inB v2 data.length) ((Zq24 (data.getD v2.toNat [])).bind fun r=>cond (decide ((out_++([r])).length≤2147483648)) (some (.inl (w64 (v2+1),out_++([r])))) none) none) (some (.inr out_))
def Zq25 (data:List (List Int)) (v:Int):(Int×List (List Int))→Option (List (List Int)):=
 loopL fun s=>Zq25.B data v s.1 s.2
def Zq26 (data:List (List Int)):Option (List (List Int)):=
 (Zq25 data (data.length:Int) (0,[])).bind fun o=>some o
namespace Zq26
def G:Gam:=mkG [(252,Zq24.FS)]
theorem Gok:GOk PR G:=.cons Zq24.ok .nil
end Zq26
namespace Zq25
def c:=codeAt (bodyOf Proofs.Tryz.f207) [1,1,0,1,0,0]
def sp:SP:=⟨[(3,.seg 3 []),(6,.cs (.sl SB)),(7,.cs I64),(8,.cs I64)],[(3,.reg,.cd (.sl SB))]⟩
def out (data:List (List Int)) (v:Int):FOut (List (List Int)):=fun b _ k=>k (.ex 0) ⟨[(3,.seg 3 [])],[sr 3 (.cd (.sl SB) b)]⟩
def fr:=lfrag sp (fun x=>Zq25 x.1.2.1 x.1.2.2.1 (x.1.2.2.2.1,x.2.1)) fun x=>out x.1.2.1 x.1.2.2.1
theorem ok:CodeOk PR 19 1 (.loop c) fr:=
 lp_ok tbok hmix h0 .no (G:=Zq26.G) Zq26.Gok (L:=mkL []) (l:=[]) hT [3,6,7,8] [3] [(0,([3],[3]))] ([],[]) (fun x s=>B x.1.2.1 x.1.2.2.1 s.1 s.2) (fun x s=>⟨[(3,.seg 3 []),(6,.cs (.sl SB) x.1.2.1),(7,.cs I64 x.1.2.2.1),(8,.cs I64 s.1)],[sr 3 (.cd (.sl SB) s.2)]⟩) (fun x=>(x.1.2.2.2.1,x.2.1))
  (fun x s=>by simp only[B,mC,mB,mS,mO,mN];kernel_rfl)
end Zq25
namespace Zq26
def pts:List PT:=[.cs (.sl SB)]
def FS:FS:=mkFS [.sh] pts (fun x=>Zq26 x.1) fun t=>⟨[.cd (.sl SB) t],[]⟩
theorem ok:FsOk PR 207 FS:=
 fn_ok tbok hmix Proofs.Tryz.f207 h0 (.R (.R (.L (.R (.one (.fr 0)))))) (G:=G) Gok (L:=mkL [(0,Zq25.fr)]) (l:=[(0,.loop Zq25.c)]) ⟨Lam.cons Zq25.ok,trivial⟩
  (fun x=>by simp only[Zq26,mC,mB,mS,mO,mN];kernel_rfl)
end Zq26
noncomputable def Zq27 (s:List Entry_):Option (List Entry_):=cloneP s
noncomputable def Zq27.FS:FS:=mkFS [.sh] [.cl .sh (.sl tEntry_)] (fun x=>Zq27 x.1) fun y=>⟨[.cl .deep (.sl tEntry_) y],[]⟩
theorem Zq27.ok:FsOk Go.Proofs.Tryz.prog 176 Zq27.FS:=
 clone_fs (hn:=⟨[],[],[],0⟩) tbok hmix (fn:=Go.Proofs.Tryz.f176) (by kernel_rfl) (body_some (by kernel_rfl)) (by kernel_rfl) (by kernel_rfl) .deep tEntry_ 134 134 201 (by kernel_rfl) (by kernel_rfl) (by kernel_rfl) (by kernel_rfl) (by kernel_rfl) (by kernel_rfl) (by kernel_rfl) (by kernel_rfl) (fun xs=>by kernel_rfl) (fun xs=>by kernel_rfl) (fun xs=>by kernel_rfl) (fun xs=>by kernel_rfl)
def Zq28.B (v:List Inode_) (v2:Int) (v4:Fs_) (v3:Int) (out_:Fs_):Option ((Int×Fs_)⊕Fs_):=
 cond (decide (v3<v2)) (cond (inB v3 v.length) ((Zq29 (v.getD v3.toNat zInode_).2.2.2.1).bind fun r2=>(Zq27 (v.getD v3.toNat zInode_).2.2.2.2.1).bind fun r3=>(some (out_.1++([((v.getD v3.toNat zInode_).1,(v.getD v3.toNat zInode_).2.1,(v.getD v3.toNat zInode_).2.2.1,r2,r3,(v.getD v3.toNat zInode_).2.2.2.2.2)]))).bind fun v5=>cond (decide (v5.length≤2147483648)) (some (.inl (w64 (v3+1),(v5,out_.2)))) none) none) (some (.inr out_))
def Zq28 (v:List Inode_) (v2:Int) (v4:Fs_):(Int×Fs_)→Option Fs_:=
 loopL fun s=>Zq28.B v v2 v4 s.1 s.2
def Zq30 (f:Fs_):Option Fs_:=
 (Zq26 f.2.1).bind fun r=>(Zq28 f.1 (f.1.length:Int) ([],[],()) (0,([],r,()))).bind fun o=>some (o.1,o.2.1,o.2.2)
namespace Zq30
def G:Gam:=mkG [(207,Zq26.FS),(160,Zq29.FS),(176,Zq27.FS)]
theorem Gok:GOk PR G:=.cons Zq26.ok (.cons Zq29.ok (.cons Zq27.ok .nil))
end Zq30
namespace Zq28
def c:=codeAt (bodyOf Proofs.Tryz.f127) [1,1,0,1,0,0]
def sp:SP:=⟨[(2,.loc 2 []),(3,.loc 3 []),(11,.cs (.sl tInode_)),(12,.cs I64),(13,.cs I64)],[(2,.mem,.cd tFs_),(3,.mem,.cd tFs_)]⟩
def out (v:List Inode_) (v2:Int) (v4:Fs_):FOut Fs_:=fun b _ k=>k (.ex 0) ⟨[(2,.loc 2 []),(3,.loc 3 [])],[(2,some ⟨.mem,.cd tFs_ v4⟩),(3,some ⟨.mem,.cd tFs_ b⟩)]⟩
def fr:=lfrag sp (fun x=>Zq28 x.1.2.2.1 x.1.2.2.2.1 x.2.1 (x.1.2.2.2.2.1,x.2.2.1)) fun x=>out x.1.2.2.1 x.1.2.2.2.1 x.2.1
theorem ok:CodeOk PR 33 1 (.loop c) fr:=
 lp_ok tbok hmix ⟨[1],[],[],0⟩ .no (G:=Zq30.G) Zq30.Gok (L:=mkL []) (l:=[]) hT [2,3,11,12,13] [2,3] [(0,([2,3],[2,3]))] ([],[]) (fun x s=>B x.1.2.2.1 x.1.2.2.2.1 x.2.1 s.1 s.2) (fun x s=>⟨[(2,.loc 2 []),(3,.loc 3 []),(11,.cs (.sl tInode_) x.1.2.2.1),(12,.cs I64 x.1.2.2.2.1),(13,.cs I64 s.1)],[(2,some ⟨.mem,.cd tFs_ x.2.1⟩),(3,some ⟨.mem,.cd tFs_ s.2⟩)]⟩) (fun x=>(x.1.2.2.2.2.1,x.2.2.1))
  (fun x s=>by simp only[B,mC,mB,mS,mO,mN];kernel_rfl)
end Zq28
namespace Zq30
def pts:List PT:=[.cs tFs_]
def FS:FS:=mkFS [.sh] pts (fun x=>Zq30 x.1) fun t=>⟨[.cd tFs_ t],[]⟩
theorem ok:FsOk PR 127 FS:=
 fn_ok tbok hmix Proofs.Tryz.f127 ⟨[1],[],[],0⟩ (.R (.R (.L (.R (.one (.fr 0)))))) (G:=G) Gok (L:=mkL [(0,Zq28.fr)]) (l:=[(0,.loop Zq28.c)]) ⟨Lam.cons Zq28.ok,trivial⟩
  (fun x=>by simp only[Zq30,mC,mB,mS,mO,mN];kernel_rfl)
end Zq30
def Zq31 (d:Disk_):Option WorldResult_:=
 (Zq32 d).bind fun r=>cond (r.2 != 0) (some (r.2,(0,0,0,[],[],([],[],()),()),(([],[],()),([],[],()),([],[],()),()),())) ((Zq33 d r.1).bind fun r2=>(Zq34 d).bind fun r3=>(Zq35 (r3.1,r3.2.1,r3.2.2)).bind fun r4=>(Zq36 r4 r2).bind fun r5=>cond (r5.1 != 0) (some (r5.1,(0,0,0,[],[],([],[],()),()),(([],[],()),([],[],()),([],[],()),()),())) ((Zq23 (r5.2.1,r5.2.2.1,r5.2.2.2)).bind fun r6=>cond (r6.2 != 0) (some (r6.2,(0,0,0,[],[],([],[],()),()),(([],[],()),([],[],()),([],[],()),()),())) ((Zq30 (r6.1.1,r6.1.2.1,r6.1.2.2)).bind fun r7=>some (0,(0,0,0,[],[],([],[],()),()),((r5.2.1,r5.2.2.1,r5.2.2.2),(r6.1.1,r6.1.2.1,r6.1.2.2),(r7.1,r7.2.1,r7.2.2),()),()))))
namespace Zq31
def G:Gam:=mkG [(69,Zq32.FS),(124,Zq33.FS),(115,Zq34.FS),(125,Zq35.FS),(126,Zq36.FS),(117,Zq23.FS),(127,Zq30.FS)]
def pts:List PT:=[.cs tDisk_]
def FS:FS:=mkFS [.sh] pts (fun x=>Zq31 x.1) fun t=>⟨[.cd tWorldResult_ t],[]⟩
theorem ok:FsOk PR 52 FS:=
 fn_ok tbok hmix Proofs.Tryz.f52 ⟨[1],[],[],0⟩ .no (G:=G) (show GOk PR G from .cons Zq32.ok (.cons Zq33.ok (.cons Zq34.ok (.cons Zq35.ok (.cons Zq36.ok (.cons Zq23.ok (.cons Zq30.ok .nil))))))) (L:=mkL []) (l:=[]) hT
  (fun x=>by simp only[Zq31,mC,mB,mS,mO,mN];kernel_rfl)
end Zq31
def Zq37.B (a:List Int) (b:List Int) (i_:Int):Option (Int⊕((Bool⊕Unit))):=
 cond (decide (i_<(a.length:Int))) (cond (inB i_ a.length) (cond (inB i_ b.length) (cond ((a.getD i_.toNat 0) != (b.getD i_.toNat 0)) (some (.inr (.inl false))) (some (.inl (w64 (i_+1))))) none) none) (some (.inr (.inr ())))
def Zq37 (a:List Int) (b:List Int):Int→Option ((Bool⊕Unit)):=
 loopL fun s=>Zq37.B a b s
def Zq38 (a:List Int) (b:List Int):Option Bool:=
 cond ((a.length:Int) != (b.length:Int)) (some false) ((Zq37 a b 0).bind fun o=>sel o (fun b2=>some b2) (fun c=>some true))
namespace Zq37
def c:=codeAt (bodyOf Proofs.Tryz.f166) [1,1,0,1,0,0]
def sp:SP:=⟨[(0,.cs SB),(1,.cs SB),(5,.cs I64)],[]⟩
def out (a:List Int) (b:List Int):FOut ((Bool⊕Unit)):=fun o _ k=>sel o (fun b=>k (.rt) ⟨[(4,.cs .bool b)],[]⟩) (fun c=>k (.ex 0) ⟨[],[]⟩)
def fr:=lfrag sp (fun x=>Zq37 x.1.1 x.1.2.1 x.1.2.2.1) fun x=>out x.1.1 x.1.2.1
theorem ok:CodeOk PR 26 2 (.loop c) fr:=
 lp_ok tbok hmix h0 .no (G:=(mkG [])) .nil (L:=mkL []) (l:=[]) hT [0,1,5] [] [(0,([],[]))] ([4],[]) (fun x s=>B x.1.1 x.1.2.1 s) (fun x s=>⟨[(0,.cs SB x.1.1),(1,.cs SB x.1.2.1),(5,.cs I64 s)],[]⟩) (fun x=>x.1.2.2.1)
  (fun x s=>by simp only[B,mC,mB,mS,mO,mN];kernel_rfl)
end Zq37
namespace Zq38
def pts:List PT:=[.cs SB,.cs SB]
def FS:FS:=mkFS [.sh,.sh] pts (fun x=>Zq38 x.1 x.2.1) fun t=>⟨[.cs .bool t],[]⟩
theorem ok:FsOk PR 166 FS:=
 fn_ok tbok hmix Proofs.Tryz.f166 h0 (.R (.R (.L (.R (.one (.fr 0)))))) (G:=(mkG [])) .nil (L:=mkL [(0,Zq37.fr)]) (l:=[(0,.loop Zq37.c)]) ⟨Lam.cons Zq37.ok,trivial⟩
  (fun x=>by simp only[Zq38,mC,mB,mS,mO,mN];kernel_rfl)
end Zq38
def Zq39.B (a:List (List UInt8)) (b:List (List UInt8)) (i_:Int):Option (Int⊕((Bool⊕Unit))):=
 cond (decide (i_<(a.length:Int))) (cond (inB i_ a.length) (cond (inB i_ b.length) (cond (!((a.getD i_.toNat []) == (b.getD i_.toNat []))) (some (.inr (.inl false))) (some (.inl (w64 (i_+1))))) none) none) (some (.inr (.inr ())))
def Zq39 (a:List (List UInt8)) (b:List (List UInt8)):Int→Option ((Bool⊕Unit)):=
 loopL fun s=>Zq39.B a b s
def Zq40 (a:List (List UInt8)) (b:List (List UInt8)):Option Bool:=
 cond ((a.length:Int) != (b.length:Int)) (some false) ((Zq39 a b 0).bind fun o=>sel o (fun b2=>some b2) (fun c=>some true))
namespace Zq39
def c:=codeAt (bodyOf Proofs.Tryz.f208) [1,1,0,1,0,0]
def sp:SP:=⟨[(0,.cs (.sl .str)),(1,.cs (.sl .str)),(5,.cs I64)],[]⟩
def out (a:List (List UInt8)) (b:List (List UInt8)):FOut ((Bool⊕Unit)):=fun o _ k=>sel o (fun b=>k (.rt) ⟨[(4,.cs .bool b)],[]⟩) (fun c=>k (.ex 0) ⟨[],[]⟩)
def fr:=lfrag sp (fun x=>Zq39 x.1.1 x.1.2.1 x.1.2.2.1) fun x=>out x.1.1 x.1.2.1
theorem ok:CodeOk PR 26 2 (.loop c) fr:=
 lp_ok tbok hmix h0 .no (G:=(mkG [])) .nil (L:=mkL []) (l:=[]) hT [0,1,5] [] [(0,([],[]))] ([4],[]) (fun x s=>B x.1.1 x.1.2.1 s) (fun x s=>⟨[(0,.cs (.sl .str) x.1.1),(1,.cs (.sl .str) x.1.2.1),(5,.cs I64 s)],[]⟩) (fun x=>x.1.2.2.1)
  (fun x s=>by simp only[B,mC,mB,mS,mO,mN];kernel_rfl)
end Zq39
namespace Zq40
def pts:List PT:=[.cs (.sl .str),.cs (.sl .str)]
def FS:FS:=mkFS [.sh,.sh] pts (fun x=>Zq40 x.1 x.2.1) fun t=>⟨[.cs .bool t],[]⟩
theorem ok:FsOk PR 208 FS:=
 fn_ok tbok hmix Proofs.Tryz.f208 h0 (.R (.R (.L (.R (.one (.fr 0)))))) (G:=(mkG [])) .nil (L:=mkL [(0,Zq39.fr)]) (l:=[(0,.loop Zq39.c)]) ⟨Lam.cons Zq39.ok,trivial⟩
  (fun x=>by simp only[Zq40,mC,mB,mS,mO,mN];kernel_rfl)
end Zq40
def Zq41.B (a:List Int) (b:List Int) (i_:Int):Option (Int⊕((Bool⊕Unit))):=
 cond (decide (i_<(a.length:Int))) (cond (inB i_ a.length) (cond (inB i_ b.length) (cond ((a.getD i_.toNat 0) != (b.getD i_.toNat 0)) (some (.inr (.inl false))) (some (.inl (w64 (i_+1))))) none) none) (some (.inr (.inr ())))
def Zq41 (a:List Int) (b:List Int):Int→Option ((Bool⊕Unit)):=
 loopL fun s=>Zq41.B a b s
def Zq42 (a:List Int) (b:List Int):Option Bool:=
 cond ((a.length:Int) != (b.length:Int)) (some false) ((Zq41 a b 0).bind fun o=>sel o (fun b2=>some b2) (fun c=>some true))
namespace Zq41
def c:=codeAt (bodyOf Proofs.Tryz.f95) [1,1,0,1,0,0]
def sp:SP:=⟨[(0,.cs SI),(1,.cs SI),(5,.cs I64)],[]⟩
def out (a:List Int) (b:List Int):FOut ((Bool⊕Unit)):=fun o _ k=>sel o (fun b=>k (.rt) ⟨[(4,.cs .bool b)],[]⟩) (fun c=>k (.ex 0) ⟨[],[]⟩)
def fr:=lfrag sp (fun x=>Zq41 x.1.1 x.1.2.1 x.1.2.2.1) fun x=>out x.1.1 x.1.2.1
theorem ok:CodeOk PR 26 2 (.loop c) fr:=
 lp_ok tbok hmix h0 .no (G:=(mkG [])) .nil (L:=mkL []) (l:=[]) hT [0,1,5] [] [(0,([],[]))] ([4],[]) (fun x s=>B x.1.1 x.1.2.1 s) (fun x s=>⟨[(0,.cs SI x.1.1),(1,.cs SI x.1.2.1),(5,.cs I64 s)],[]⟩) (fun x=>x.1.2.2.1)
  (fun x s=>by simp only[B,mC,mB,mS,mO,mN];kernel_rfl)
end Zq41
namespace Zq42
def pts:List PT:=[.cs SI,.cs SI]
def FS:FS:=mkFS [.sh,.sh] pts (fun x=>Zq42 x.1 x.2.1) fun t=>⟨[.cs .bool t],[]⟩
theorem ok:FsOk PR 95 FS:=
 fn_ok tbok hmix Proofs.Tryz.f95 h0 (.R (.R (.L (.R (.one (.fr 0)))))) (G:=(mkG [])) .nil (L:=mkL [(0,Zq41.fr)]) (l:=[(0,.loop Zq41.c)]) ⟨Lam.cons Zq41.ok,trivial⟩
  (fun x=>by simp only[Zq42,mC,mB,mS,mO,mN];kernel_rfl)
end Zq42
def Zq43 (a:Entry_) (b:Entry_):Option Bool:=
 cond (!(a.1 == b.1)) (some false) (cond (a.2.1 != b.2.1) (some false) (some true))
namespace Zq43
def pts:List PT:=[.cs tEntry_,.cs tEntry_]
def FS:FS:=mkFS [.sh,.sh] pts (fun x=>Zq43 x.1 x.2.1) fun t=>⟨[.cs .bool t],[]⟩
theorem ok:FsOk PR 261 FS:=
 fn_ok tbok hmix Proofs.Tryz.f261 ⟨[2,3],[],[],0⟩ .no (G:=(mkG [])) .nil (L:=mkL []) (l:=[]) hT
  (fun x=>by simp only[Zq43,mC,mB,mS,mO,mN];kernel_rfl)
end Zq43
def Zq44.B (a:List Entry_) (b:List Entry_) (i_:Int):Option (Int⊕((Bool⊕Unit))):=
 cond (decide (i_<(a.length:Int))) (cond (inB i_ a.length) (cond (inB i_ b.length) ((Zq43 (a.getD i_.toNat zEntry_) (b.getD i_.toNat zEntry_)).bind fun r=>cond (!r) (some (.inr (.inl false))) (some (.inl (w64 (i_+1))))) none) none) (some (.inr (.inr ())))
def Zq44 (a:List Entry_) (b:List Entry_):Int→Option ((Bool⊕Unit)):=
 loopL fun s=>Zq44.B a b s
def Zq45 (a:List Entry_) (b:List Entry_):Option Bool:=
 cond ((a.length:Int) != (b.length:Int)) (some false) ((Zq44 a b 0).bind fun o=>sel o (fun b2=>some b2) (fun c=>some true))
namespace Zq45
def G:Gam:=mkG [(261,Zq43.FS)]
theorem Gok:GOk PR G:=.cons Zq43.ok .nil
end Zq45
namespace Zq44
def c:=codeAt (bodyOf Proofs.Tryz.f233) [1,1,0,1,0,0]
def sp:SP:=⟨[(0,.cs (.sl tEntry_)),(1,.cs (.sl tEntry_)),(5,.cs I64)],[]⟩
def out (a:List Entry_) (b:List Entry_):FOut ((Bool⊕Unit)):=fun o _ k=>sel o (fun b=>k (.rt) ⟨[(4,.cs .bool b)],[]⟩) (fun c=>k (.ex 0) ⟨[],[]⟩)
def fr:=lfrag sp (fun x=>Zq44 x.1.1 x.1.2.1 x.1.2.2.1) fun x=>out x.1.1 x.1.2.1
theorem ok:CodeOk PR 27 2 (.loop c) fr:=
 lp_ok tbok hmix h0 .no (G:=Zq45.G) Zq45.Gok (L:=mkL []) (l:=[]) hT [0,1,5] [] [(0,([],[]))] ([4],[]) (fun x s=>B x.1.1 x.1.2.1 s) (fun x s=>⟨[(0,.cs (.sl tEntry_) x.1.1),(1,.cs (.sl tEntry_) x.1.2.1),(5,.cs I64 s)],[]⟩) (fun x=>x.1.2.2.1)
  (fun x s=>by simp only[B,mC,mB,mS,mO,mN];kernel_rfl)
end Zq44
namespace Zq45
def pts:List PT:=[.cs (.sl tEntry_),.cs (.sl tEntry_)]
def FS:FS:=mkFS [.sh,.sh] pts (fun x=>Zq45 x.1 x.2.1) fun t=>⟨[.cs .bool t],[]⟩
theorem ok:FsOk PR 233 FS:=
 fn_ok tbok hmix Proofs.Tryz.f233 h0 (.R (.R (.L (.R (.one (.fr 0)))))) (G:=G) Gok (L:=mkL [(0,Zq44.fr)]) (l:=[(0,.loop Zq44.c)]) ⟨Lam.cons Zq44.ok,trivial⟩
  (fun x=>by simp only[Zq45,mC,mB,mS,mO,mN];kernel_rfl)
end Zq45
def Zq46 (a:Inode_) (b:Inode_):Option Bool:=
 cond (a.1 != b.1) (some false) (cond (a.2.1 != b.2.1) (some false) (cond (a.2.2.1 != b.2.2.1) (some false) ((Zq42 a.2.2.2.1 b.2.2.2.1).bind fun r=>cond (!r) (some false) ((Zq45 a.2.2.2.2.1 b.2.2.2.2.1).bind fun r2=>cond (!r2) (some false) (some true)))))
namespace Zq46
def G:Gam:=mkG [(95,Zq42.FS),(233,Zq45.FS)]
def pts:List PT:=[.cs tInode_,.cs tInode_]
def FS:FS:=mkFS [.sh,.sh] pts (fun x=>Zq46 x.1 x.2.1) fun t=>⟨[.cs .bool t],[]⟩
theorem ok:FsOk PR 165 FS:=
 fn_ok tbok hmix Proofs.Tryz.f165 ⟨[2,3],[],[],0⟩ .no (G:=G) (show GOk PR G from .cons Zq42.ok (.cons Zq45.ok .nil)) (L:=mkL []) (l:=[]) hT
  (fun x=>by simp only[Zq46,mC,mB,mS,mO,mN];kernel_rfl)
end Zq46
def Zq47.B (a:List Inode_) (b:List Inode_) (i_:Int):Option (Int⊕((Bool⊕Unit))):=
 cond (decide (i_<(a.length:Int))) (cond (inB i_ a.length) (cond (inB i_ b.length) ((Zq46 (a.getD i_.toNat zInode_) (b.getD i_.toNat zInode_)).bind fun r=>cond (!r) (some (.inr (.inl false))) (some (.inl (w64 (i_+1))))) none) none) (some (.inr (.inr ())))
def Zq47 (a:List Inode_) (b:List Inode_):Int→Option ((Bool⊕Unit)):=
 loopL fun s=>Zq47.B a b s
def Zq48 (a:List Inode_) (b:List Inode_):Option Bool:=
 cond ((a.length:Int) != (b.length:Int)) (some false) ((Zq47 a b 0).bind fun o=>sel o (fun b2=>some b2) (fun c=>some true))
namespace Zq48
def G:Gam:=mkG [(165,Zq46.FS)]
theorem Gok:GOk PR G:=.cons Zq46.ok .nil
end Zq48
namespace Zq47
def c:=codeAt (bodyOf Proofs.Tryz.f75) [1,1,0,1,0,0]
def sp:SP:=⟨[(0,.cs (.sl tInode_)),(1,.cs (.sl tInode_)),(5,.cs I64)],[]⟩
def out (a:List Inode_) (b:List Inode_):FOut ((Bool⊕Unit)):=fun o _ k=>sel o (fun b=>k (.rt) ⟨[(4,.cs .bool b)],[]⟩) (fun c=>k (.ex 0) ⟨[],[]⟩)
def fr:=lfrag sp (fun x=>Zq47 x.1.1 x.1.2.1 x.1.2.2.1) fun x=>out x.1.1 x.1.2.1
theorem ok:CodeOk PR 27 2 (.loop c) fr:=
 lp_ok tbok hmix h0 .no (G:=Zq48.G) Zq48.Gok (L:=mkL []) (l:=[]) hT [0,1,5] [] [(0,([],[]))] ([4],[]) (fun x s=>B x.1.1 x.1.2.1 s) (fun x s=>⟨[(0,.cs (.sl tInode_) x.1.1),(1,.cs (.sl tInode_) x.1.2.1),(5,.cs I64 s)],[]⟩) (fun x=>x.1.2.2.1)
  (fun x s=>by simp only[B,mC,mB,mS,mO,mN];kernel_rfl)
end Zq47
namespace Zq48
def pts:List PT:=[.cs (.sl tInode_),.cs (.sl tInode_)]
def FS:FS:=mkFS [.sh,.sh] pts (fun x=>Zq48 x.1 x.2.1) fun t=>⟨[.cs .bool t],[]⟩
theorem ok:FsOk PR 75 FS:=
 fn_ok tbok hmix Proofs.Tryz.f75 h0 (.R (.R (.L (.R (.one (.fr 0)))))) (G:=G) Gok (L:=mkL [(0,Zq47.fr)]) (l:=[(0,.loop Zq47.c)]) ⟨Lam.cons Zq47.ok,trivial⟩
  (fun x=>by simp only[Zq48,mC,mB,mS,mO,mN];kernel_rfl)
end Zq48
def Zq49.B (a:List (List Int)) (b:List (List Int)) (i_:Int):Option (Int⊕((Bool⊕Unit))):=
 cond (decide (i_<(a.length:Int))) (cond (inB i_ a.length) (cond (inB i_ b.length) ((Zq38 (a.getD i_.toNat []) (b.getD i_.toNat [])).bind fun r=>cond (!r) (some (.inr (.inl false))) (some (.inl (w64 (i_+1))))) none) none) (some (.inr (.inr ())))
def Zq49 (a:List (List Int)) (b:List (List Int)):Int→Option ((Bool⊕Unit)):=
 loopL fun s=>Zq49.B a b s
def Zq50 (a:List (List Int)) (b:List (List Int)):Option Bool:=
 cond ((a.length:Int) != (b.length:Int)) (some false) ((Zq49 a b 0).bind fun o=>sel o (fun b2=>some b2) (fun c=>some true))
namespace Zq50
def G:Gam:=mkG [(166,Zq38.FS)]
theorem Gok:GOk PR G:=.cons Zq38.ok .nil
end Zq50
namespace Zq49
def c:=codeAt (bodyOf Proofs.Tryz.f76) [1,1,0,1,0,0]
def sp:SP:=⟨[(0,.cs (.sl SB)),(1,.cs (.sl SB)),(5,.cs I64)],[]⟩
def out (a:List (List Int)) (b:List (List Int)):FOut ((Bool⊕Unit)):=fun o _ k=>sel o (fun b=>k (.rt) ⟨[(4,.cs .bool b)],[]⟩) (fun c=>k (.ex 0) ⟨[],[]⟩)
def fr:=lfrag sp (fun x=>Zq49 x.1.1 x.1.2.1 x.1.2.2.1) fun x=>out x.1.1 x.1.2.1
theorem ok:CodeOk PR 27 2 (.loop c) fr:=
 lp_ok tbok hmix h0 .no (G:=Zq50.G) Zq50.Gok (L:=mkL []) (l:=[]) hT [0,1,5] [] [(0,([],[]))] ([4],[]) (fun x s=>B x.1.1 x.1.2.1 s) (fun x s=>⟨[(0,.cs (.sl SB) x.1.1),(1,.cs (.sl SB) x.1.2.1),(5,.cs I64 s)],[]⟩) (fun x=>x.1.2.2.1)
  (fun x s=>by simp only[B,mC,mB,mS,mO,mN];kernel_rfl)
end Zq49
namespace Zq50
def pts:List PT:=[.cs (.sl SB),.cs (.sl SB)]
def FS:FS:=mkFS [.sh,.sh] pts (fun x=>Zq50 x.1 x.2.1) fun t=>⟨[.cs .bool t],[]⟩
theorem ok:FsOk PR 76 FS:=
 fn_ok tbok hmix Proofs.Tryz.f76 h0 (.R (.R (.L (.R (.one (.fr 0)))))) (G:=G) Gok (L:=mkL [(0,Zq49.fr)]) (l:=[(0,.loop Zq49.c)]) ⟨Lam.cons Zq49.ok,trivial⟩
  (fun x=>by simp only[Zq50,mC,mB,mS,mO,mN];kernel_rfl)
end Zq50
def Zq51 (a:Fs_) (b:Fs_):Option Bool:=
 (Zq48 a.1 b.1).bind fun r=>cond (!r) (some false) ((Zq50 a.2.1 b.2.1).bind fun r2=>cond (!r2) (some false) (some true))
namespace Zq51
def G:Gam:=mkG [(75,Zq48.FS),(76,Zq50.FS)]
def pts:List PT:=[.cs tFs_,.cs tFs_]
def FS:FS:=mkFS [.sh,.sh] pts (fun x=>Zq51 x.1 x.2.1) fun t=>⟨[.cs .bool t],[]⟩
theorem ok:FsOk PR 22 FS:=
 fn_ok tbok hmix Proofs.Tryz.f22 ⟨[2,3],[],[],0⟩ .no (G:=G) (show GOk PR G from .cons Zq48.ok (.cons Zq50.ok .nil)) (L:=mkL []) (l:=[]) hT
  (fun x=>by simp only[Zq51,mC,mB,mS,mO,mN];kernel_rfl)
end Zq51
def Zq52 (a:CallResult_) (b:CallResult_):Option Bool:=
 cond (a.1 != b.1) (some false) (cond (a.2.1 != b.2.1) (some false) (cond (a.2.2.1 != b.2.2.1) (some false) ((Zq38 a.2.2.2.1 b.2.2.2.1).bind fun r=>cond (!r) (some false) ((Zq40 a.2.2.2.2.1 b.2.2.2.2.1).bind fun r2=>cond (!r2) (some false) ((Zq51 a.2.2.2.2.2.1 b.2.2.2.2.2.1).bind fun r3=>cond (!r3) (some false) (some true))))))
namespace Zq52
def G:Gam:=mkG [(166,Zq38.FS),(208,Zq40.FS),(22,Zq51.FS)]
def pts:List PT:=[.cs tCallResult_,.cs tCallResult_]
def FS:FS:=mkFS [.sh,.sh] pts (fun x=>Zq52 x.1 x.2.1) fun t=>⟨[.cs .bool t],[]⟩
theorem ok:FsOk PR 128 FS:=
 fn_ok tbok hmix Proofs.Tryz.f128 ⟨[2,3],[],[],0⟩ .no (G:=G) (show GOk PR G from .cons Zq38.ok (.cons Zq40.ok (.cons Zq51.ok .nil))) (L:=mkL []) (l:=[]) hT
  (fun x=>by simp only[Zq52,mC,mB,mS,mO,mN];kernel_rfl)
end Zq52
def Zq53.B (a:List (List Int)) (b:List (List Int)) (i_:Int):Option (Int⊕((Bool⊕Unit))):=
 cond (decide (i_<(a.length:Int))) (cond (inB i_ a.length) (cond (inB i_ b.length) ((Zq42 (a.getD i_.toNat []) (b.getD i_.toNat [])).bind fun r=>cond (!r) (some (.inr (.inl false))) (some (.inl (w64 (i_+1))))) none) none) (some (.inr (.inr ())))
def Zq53 (a:List (List Int)) (b:List (List Int)):Int→Option ((Bool⊕Unit)):=
 loopL fun s=>Zq53.B a b s
def Zq54 (a:List (List Int)) (b:List (List Int)):Option Bool:=
 cond ((a.length:Int) != (b.length:Int)) (some false) ((Zq53 a b 0).bind fun o=>sel o (fun b2=>some b2) (fun c=>some true))
namespace Zq54
def G:Gam:=mkG [(95,Zq42.FS)]
theorem Gok:GOk PR G:=.cons Zq42.ok .nil
end Zq54
namespace Zq53
def c:=codeAt (bodyOf Proofs.Tryz.f73) [1,1,0,1,0,0]
def sp:SP:=⟨[(0,.cs (.sl SI)),(1,.cs (.sl SI)),(5,.cs I64)],[]⟩
def out (a:List (List Int)) (b:List (List Int)):FOut ((Bool⊕Unit)):=fun o _ k=>sel o (fun b=>k (.rt) ⟨[(4,.cs .bool b)],[]⟩) (fun c=>k (.ex 0) ⟨[],[]⟩)
def fr:=lfrag sp (fun x=>Zq53 x.1.1 x.1.2.1 x.1.2.2.1) fun x=>out x.1.1 x.1.2.1
theorem ok:CodeOk PR 27 2 (.loop c) fr:=
 lp_ok tbok hmix h0 .no (G:=Zq54.G) Zq54.Gok (L:=mkL []) (l:=[]) hT [0,1,5] [] [(0,([],[]))] ([4],[]) (fun x s=>B x.1.1 x.1.2.1 s) (fun x s=>⟨[(0,.cs (.sl SI) x.1.1),(1,.cs (.sl SI) x.1.2.1),(5,.cs I64 s)],[]⟩) (fun x=>x.1.2.2.1)
  (fun x s=>by simp only[B,mC,mB,mS,mO,mN];kernel_rfl)
end Zq53
namespace Zq54
def pts:List PT:=[.cs (.sl SI),.cs (.sl SI)]
def FS:FS:=mkFS [.sh,.sh] pts (fun x=>Zq54 x.1 x.2.1) fun t=>⟨[.cs .bool t],[]⟩
theorem ok:FsOk PR 73 FS:=
 fn_ok tbok hmix Proofs.Tryz.f73 h0 (.R (.R (.L (.R (.one (.fr 0)))))) (G:=G) Gok (L:=mkL [(0,Zq53.fr)]) (l:=[(0,.loop Zq53.c)]) ⟨Lam.cons Zq53.ok,trivial⟩
  (fun x=>by simp only[Zq54,mC,mB,mS,mO,mN];kernel_rfl)
end Zq54
def Zq55 (a:Put_) (b:Put_):Option Bool:=
 cond (a.1 != b.1) (some false) ((Zq42 a.2.1 b.2.1).bind fun r=>cond (!r) (some false) (some true))
namespace Zq55
def G:Gam:=mkG [(95,Zq42.FS)]
def pts:List PT:=[.cs tPut_,.cs tPut_]
def FS:FS:=mkFS [.sh,.sh] pts (fun x=>Zq55 x.1 x.2.1) fun t=>⟨[.cs .bool t],[]⟩
theorem ok:FsOk PR 164 FS:=
 fn_ok tbok hmix Proofs.Tryz.f164 ⟨[2,3],[],[],0⟩ .no (G:=G) (show GOk PR G from .cons Zq42.ok .nil) (L:=mkL []) (l:=[]) hT
  (fun x=>by simp only[Zq55,mC,mB,mS,mO,mN];kernel_rfl)
end Zq55
def Zq56.B (a:List Put_) (b:List Put_) (i_:Int):Option (Int⊕((Bool⊕Unit))):=
 cond (decide (i_<(a.length:Int))) (cond (inB i_ a.length) (cond (inB i_ b.length) ((Zq55 (a.getD i_.toNat zPut_) (b.getD i_.toNat zPut_)).bind fun r=>cond (!r) (some (.inr (.inl false))) (some (.inl (w64 (i_+1))))) none) none) (some (.inr (.inr ())))
def Zq56 (a:List Put_) (b:List Put_):Int→Option ((Bool⊕Unit)):=
 loopL fun s=>Zq56.B a b s
def Zq57 (a:List Put_) (b:List Put_):Option Bool:=
 cond ((a.length:Int) != (b.length:Int)) (some false) ((Zq56 a b 0).bind fun o=>sel o (fun b2=>some b2) (fun c=>some true))
namespace Zq57
def G:Gam:=mkG [(164,Zq55.FS)]
theorem Gok:GOk PR G:=.cons Zq55.ok .nil
end Zq57
namespace Zq56
def c:=codeAt (bodyOf Proofs.Tryz.f74) [1,1,0,1,0,0]
def sp:SP:=⟨[(0,.cs (.sl tPut_)),(1,.cs (.sl tPut_)),(5,.cs I64)],[]⟩
def out (a:List Put_) (b:List Put_):FOut ((Bool⊕Unit)):=fun o _ k=>sel o (fun b=>k (.rt) ⟨[(4,.cs .bool b)],[]⟩) (fun c=>k (.ex 0) ⟨[],[]⟩)
def fr:=lfrag sp (fun x=>Zq56 x.1.1 x.1.2.1 x.1.2.2.1) fun x=>out x.1.1 x.1.2.1
theorem ok:CodeOk PR 27 2 (.loop c) fr:=
 lp_ok tbok hmix h0 .no (G:=Zq57.G) Zq57.Gok (L:=mkL []) (l:=[]) hT [0,1,5] [] [(0,([],[]))] ([4],[]) (fun x s=>B x.1.1 x.1.2.1 s) (fun x s=>⟨[(0,.cs (.sl tPut_) x.1.1),(1,.cs (.sl tPut_) x.1.2.1),(5,.cs I64 s)],[]⟩) (fun x=>x.1.2.2.1)
  (fun x s=>by simp only[B,mC,mB,mS,mO,mN];kernel_rfl)
end Zq56
namespace Zq57
def pts:List PT:=[.cs (.sl tPut_),.cs (.sl tPut_)]
def FS:FS:=mkFS [.sh,.sh] pts (fun x=>Zq57 x.1 x.2.1) fun t=>⟨[.cs .bool t],[]⟩
theorem ok:FsOk PR 74 FS:=
 fn_ok tbok hmix Proofs.Tryz.f74 h0 (.R (.R (.L (.R (.one (.fr 0)))))) (G:=G) Gok (L:=mkL [(0,Zq56.fr)]) (l:=[(0,.loop Zq56.c)]) ⟨Lam.cons Zq56.ok,trivial⟩
  (fun x=>by simp only[Zq57,mC,mB,mS,mO,mN];kernel_rfl)
end Zq57
def Zq58 (a:Disk_) (b:Disk_):Option Bool:=
 (Zq54 a.1 b.1).bind fun r=>cond (!r) (some false) ((Zq57 a.2.1 b.2.1).bind fun r2=>cond (!r2) (some false) (some true))
namespace Zq58
def G:Gam:=mkG [(73,Zq54.FS),(74,Zq57.FS)]
def pts:List PT:=[.cs tDisk_,.cs tDisk_]
def FS:FS:=mkFS [.sh,.sh] pts (fun x=>Zq58 x.1 x.2.1) fun t=>⟨[.cs .bool t],[]⟩
theorem ok:FsOk PR 21 FS:=
 fn_ok tbok hmix Proofs.Tryz.f21 ⟨[2,3],[],[],0⟩ .no (G:=G) (show GOk PR G from .cons Zq54.ok (.cons Zq57.ok .nil)) (L:=mkL []) (l:=[]) hT
  (fun x=>by simp only[Zq58,mC,mB,mS,mO,mN];kernel_rfl)
end Zq58
def Zq59 (a:World_) (b:World_):Option Bool:=
 (Zq58 a.1 b.1).bind fun r=>cond (!r) (some false) ((Zq51 a.2.1 b.2.1).bind fun r2=>cond (!r2) (some false) ((Zq51 a.2.2.1 b.2.2.1).bind fun r3=>cond (!r3) (some false) (some true)))
namespace Zq59
def G:Gam:=mkG [(21,Zq58.FS),(22,Zq51.FS)]
def pts:List PT:=[.cs tWorld_,.cs tWorld_]
def FS:FS:=mkFS [.sh,.sh] pts (fun x=>Zq59 x.1 x.2.1) fun t=>⟨[.cs .bool t],[]⟩
theorem ok:FsOk PR 13 FS:=
 fn_ok tbok hmix Proofs.Tryz.f13 ⟨[2,3],[],[],0⟩ .no (G:=G) (show GOk PR G from .cons Zq58.ok (.cons Zq51.ok .nil)) (L:=mkL []) (l:=[]) hT
  (fun x=>by simp only[Zq59,mC,mB,mS,mO,mN];kernel_rfl)
end Zq59
def Zq60 (a:WorldResult_) (b:WorldResult_):Option Bool:=
 cond (a.1 != b.1) (some false) ((Zq52 a.2.1 b.2.1).bind fun r=>cond (!r) (some false) ((Zq59 a.2.2.1 b.2.2.1).bind fun r2=>cond (!r2) (some false) (some true)))
namespace Zq60
def G:Gam:=mkG [(128,Zq52.FS),(13,Zq59.FS)]
def pts:List PT:=[.cs tWorldResult_,.cs tWorldResult_]
def FS:FS:=mkFS [.sh,.sh] pts (fun x=>Zq60 x.1 x.2.1) fun t=>⟨[.cs .bool t],[]⟩
theorem ok:FsOk PR 53 FS:=
 fn_ok tbok hmix Proofs.Tryz.f53 ⟨[2,3],[],[],0⟩ .no (G:=G) (show GOk PR G from .cons Zq52.ok (.cons Zq59.ok .nil)) (L:=mkL []) (l:=[]) hT
  (fun x=>by simp only[Zq60,mC,mB,mS,mO,mN];kernel_rfl)
end Zq60
def Zq61.B (k_:Int) (i_:Int) (a_:List Int):Option ((Int×Int×List Int)⊕(Int×List Int)):=
 cond (decide (i_<(a_.length:Int))) (cond (inB i_ a_.length) (some (.inl (w64 (k_+1),w64 (i_+1),a_.set i_.toNat k_))) none) (some (.inr (k_,a_)))
def Zq61 :(Int×Int×List Int)→Option (Int×List Int):=
 loopL fun s=>Zq61.B s.1 s.2.1 s.2.2
def Zq62 (a:List Int) (k:Int):Option (Int×List Int):=
 (Zq61 (k,0,a)).bind fun o=>some (o.1,o.2)
namespace Zq61
def c:=codeAt (bodyOf Proofs.Tryz.f96) [1,0,1,0,0]
def sp:SP:=⟨[(0,.seg 0 []),(1,.cs I64),(5,.cs I64)],[(0,.reg,.cd SI)]⟩
def out :FOut (Int×List Int):=fun b _ k=>k (.ex 0) ⟨[(1,.cs I64 b.1)],[sr 0 (.cd SI b.2)]⟩
def fr:=lfrag sp (fun x=>Zq61  (x.1.2.1,x.1.2.2.1,x.2.1)) fun x=>out
theorem ok:CodeOk PR 19 2 (.loop c) fr:=
 lp_ok tbok hmix h0 .no (G:=(mkG [])) .nil (L:=mkL []) (l:=[]) hT [0,1,5] [0] [(0,([1],[0]))] ([],[]) (fun x s=>B  s.1 s.2.1 s.2.2) (fun x s=>⟨[(0,.seg 0 []),(1,.cs I64 s.1),(5,.cs I64 s.2.1)],[sr 0 (.cd SI s.2.2)]⟩) (fun x=>(x.1.2.1,x.1.2.2.1,x.2.1))
  (fun x s=>by simp only[B,mC,mB,mS,mO,mN];kernel_rfl)
end Zq61
namespace Zq62
def pts:List PT:=[.cd SI,.cs I64]
def FS:FS:=mkFS [.mu,.sh] pts (fun x=>Zq62 x.1 x.2.1) fun t=>⟨[.cs I64 t.1],[.cd SI t.2]⟩
theorem ok:FsOk PR 96 FS:=
 fn_ok tbok hmix Proofs.Tryz.f96 h0 (.R (.L (.R (.one (.fr 0))))) (G:=(mkG [])) .nil (L:=mkL [(0,Zq61.fr)]) (l:=[(0,.loop Zq61.c)]) ⟨Lam.cons Zq61.ok,trivial⟩
  (fun x=>by simp only[Zq62,mC,mB,mS,mO,mN];kernel_rfl)
end Zq62
def Zq63.B (k_:Int) (i_:Int) (a_:List (List Int)):Option ((Int×Int×List (List Int))⊕(Int×List (List Int))):=
 cond (decide (i_<(a_.length:Int))) (cond (inB i_ a_.length) ((Zq62 (a_.getD i_.toNat []) k_).bind fun r=>some (.inl (r.1,w64 (i_+1),a_.set i_.toNat r.2))) none) (some (.inr (k_,a_)))
def Zq63 :(Int×Int×List (List Int))→Option (Int×List (List Int)):=
 loopL fun s=>Zq63.B s.1 s.2.1 s.2.2
def Zq64 (a:List (List Int)) (k:Int):Option (Int×List (List Int)):=
 (Zq63 (k,0,a)).bind fun o=>some (o.1,o.2)
namespace Zq64
def G:Gam:=mkG [(96,Zq62.FS)]
theorem Gok:GOk PR G:=.cons Zq62.ok .nil
end Zq64
namespace Zq63
def c:=codeAt (bodyOf Proofs.Tryz.f77) [1,0,1,0,0]
def sp:SP:=⟨[(0,.seg 0 []),(1,.cs I64),(5,.cs I64)],[(0,.reg,.cd (.sl SI))]⟩
def out :FOut (Int×List (List Int)):=fun b _ k=>k (.ex 0) ⟨[(1,.cs I64 b.1)],[sr 0 (.cd (.sl SI) b.2)]⟩
def fr:=lfrag sp (fun x=>Zq63  (x.1.2.1,x.1.2.2.1,x.2.1)) fun x=>out
theorem ok:CodeOk PR 19 2 (.loop c) fr:=
 lp_ok tbok hmix h0 .no (G:=Zq64.G) Zq64.Gok (L:=mkL []) (l:=[]) hT [0,1,5] [0] [(0,([1],[0]))] ([],[]) (fun x s=>B  s.1 s.2.1 s.2.2) (fun x s=>⟨[(0,.seg 0 []),(1,.cs I64 s.1),(5,.cs I64 s.2.1)],[sr 0 (.cd (.sl SI) s.2.2)]⟩) (fun x=>(x.1.2.1,x.1.2.2.1,x.2.1))
  (fun x s=>by simp only[B,mC,mB,mS,mO,mN];kernel_rfl)
end Zq63
namespace Zq64
def pts:List PT:=[.cd (.sl SI),.cs I64]
def FS:FS:=mkFS [.mu,.sh] pts (fun x=>Zq64 x.1 x.2.1) fun t=>⟨[.cs I64 t.1],[.cd (.sl SI) t.2]⟩
theorem ok:FsOk PR 77 FS:=
 fn_ok tbok hmix Proofs.Tryz.f77 h0 (.R (.L (.R (.one (.fr 0))))) (G:=G) Gok (L:=mkL [(0,Zq63.fr)]) (l:=[(0,.loop Zq63.c)]) ⟨Lam.cons Zq63.ok,trivial⟩
  (fun x=>by simp only[Zq64,mC,mB,mS,mO,mN];kernel_rfl)
end Zq64
def Zq65.B (k_:Int) (i_:Int) (a_:List Put_):Option ((Int×Int×List Put_)⊕(Int×List Put_)):=
 cond (decide (i_<(a_.length:Int))) (cond (inB i_ a_.length) (cond (inB i_ ((a_.set i_.toNat (k_,(a_.getD i_.toNat zPut_).2)).length)) ((Zq62 ((a_.set i_.toNat (k_,(a_.getD i_.toNat zPut_).2)).getD i_.toNat zPut_).2.1 (w64 (k_+1))).bind fun r=>some (.inl (r.1,w64 (i_+1),(a_.set i_.toNat (k_,(a_.getD i_.toNat zPut_).2)).set i_.toNat (((a_.set i_.toNat (k_,(a_.getD i_.toNat zPut_).2)).getD i_.toNat zPut_).1,r.2,((a_.set i_.toNat (k_,(a_.getD i_.toNat zPut_).2)).getD i_.toNat zPut_).2.2)))) none) none) (some (.inr (k_,a_)))
def Zq65 :(Int×Int×List Put_)→Option (Int×List Put_):=
 loopL fun s=>Zq65.B s.1 s.2.1 s.2.2
def Zq66 (a:List Put_) (k:Int):Option (Int×List Put_):=
 (Zq65 (k,0,a)).bind fun o=>some (o.1,o.2)
namespace Zq66
def G:Gam:=mkG [(96,Zq62.FS)]
theorem Gok:GOk PR G:=.cons Zq62.ok .nil
end Zq66
namespace Zq65
def c:=codeAt (bodyOf Proofs.Tryz.f78) [1,0,1,0,0]
def sp:SP:=⟨[(0,.seg 0 []),(1,.cs I64),(5,.cs I64)],[(0,.reg,.cd (.sl tPut_))]⟩
def out :FOut (Int×List Put_):=fun b _ k=>k (.ex 0) ⟨[(1,.cs I64 b.1)],[sr 0 (.cd (.sl tPut_) b.2)]⟩
def fr:=lfrag sp (fun x=>Zq65  (x.1.2.1,x.1.2.2.1,x.2.1)) fun x=>out
theorem ok:CodeOk PR 27 2 (.loop c) fr:=
 lp_ok tbok hmix h0 .no (G:=Zq66.G) Zq66.Gok (L:=mkL []) (l:=[]) hT [0,1,5] [0] [(0,([1],[0]))] ([],[]) (fun x s=>B  s.1 s.2.1 s.2.2) (fun x s=>⟨[(0,.seg 0 []),(1,.cs I64 s.1),(5,.cs I64 s.2.1)],[sr 0 (.cd (.sl tPut_) s.2.2)]⟩) (fun x=>(x.1.2.1,x.1.2.2.1,x.2.1))
  (fun x s=>by simp only[B,mC,mB,mS,mO,mN];kernel_rfl)
end Zq65
namespace Zq66
def pts:List PT:=[.cd (.sl tPut_),.cs I64]
def FS:FS:=mkFS [.mu,.sh] pts (fun x=>Zq66 x.1 x.2.1) fun t=>⟨[.cs I64 t.1],[.cd (.sl tPut_) t.2]⟩
theorem ok:FsOk PR 78 FS:=
 fn_ok tbok hmix Proofs.Tryz.f78 h0 (.R (.L (.R (.one (.fr 0))))) (G:=G) Gok (L:=mkL [(0,Zq65.fr)]) (l:=[(0,.loop Zq65.c)]) ⟨Lam.cons Zq65.ok,trivial⟩
  (fun x=>by simp only[Zq66,mC,mB,mS,mO,mN];kernel_rfl)
end Zq66
def Zq67 (a:Disk_) (k:Int):Option (Int×Disk_):=
 (Zq64 a.1 k).bind fun r=>(Zq66 a.2.1 r.1).bind fun r2=>some (r2.1,(r.2,r2.2,a.2.2))
namespace Zq67
def G:Gam:=mkG [(77,Zq64.FS),(78,Zq66.FS)]
def pts:List PT:=[.cd tDisk_,.cs I64]
def FS:FS:=mkFS [.mu,.sh] pts (fun x=>Zq67 x.1 x.2.1) fun t=>⟨[.cs I64 t.1],[.cd tDisk_ t.2]⟩
theorem ok:FsOk PR 23 FS:=
 fn_ok tbok hmix Proofs.Tryz.f23 ⟨[2],[],[],0⟩ .no (G:=G) (show GOk PR G from .cons Zq64.ok (.cons Zq66.ok .nil)) (L:=mkL []) (l:=[]) hT
  (fun x=>by simp only[Zq67,mC,mB,mS,mO,mN];kernel_rfl)
end Zq67
def Zq68.B (k_:Int) (i_:Int) (a_:List Int):Option ((Int×Int×List Int)⊕(Int×List Int)):=
 cond (decide (i_<(a_.length:Int))) (cond (inB i_ a_.length) (some (.inl (w64 (k_+1),w64 (i_+1),a_.set i_.toNat (IntKind.u8.wrap k_)))) none) (some (.inr (k_,a_)))
def Zq68 :(Int×Int×List Int)→Option (Int×List Int):=
 loopL fun s=>Zq68.B s.1 s.2.1 s.2.2
def Zq69 (a:List Int) (k:Int):Option (Int×List Int):=
 (Zq68 (k,0,a)).bind fun o=>some (o.1,o.2)
namespace Zq68
def c:=codeAt (bodyOf Proofs.Tryz.f168) [1,0,1,0,0]
def sp:SP:=⟨[(0,.seg 0 []),(1,.cs I64),(5,.cs I64)],[(0,.reg,.cd SB)]⟩
def out :FOut (Int×List Int):=fun b _ k=>k (.ex 0) ⟨[(1,.cs I64 b.1)],[sr 0 (.cd SB b.2)]⟩
def fr:=lfrag sp (fun x=>Zq68  (x.1.2.1,x.1.2.2.1,x.2.1)) fun x=>out
theorem ok:CodeOk PR 20 2 (.loop c) fr:=
 lp_ok tbok hmix h0 .no (G:=(mkG [])) .nil (L:=mkL []) (l:=[]) hT [0,1,5] [0] [(0,([1],[0]))] ([],[]) (fun x s=>B  s.1 s.2.1 s.2.2) (fun x s=>⟨[(0,.seg 0 []),(1,.cs I64 s.1),(5,.cs I64 s.2.1)],[sr 0 (.cd SB s.2.2)]⟩) (fun x=>(x.1.2.1,x.1.2.2.1,x.2.1))
  (fun x s=>by simp only[B,mC,mB,mS,mO,mN];kernel_rfl)
end Zq68
namespace Zq69
def pts:List PT:=[.cd SB,.cs I64]
def FS:FS:=mkFS [.mu,.sh] pts (fun x=>Zq69 x.1 x.2.1) fun t=>⟨[.cs I64 t.1],[.cd SB t.2]⟩
theorem ok:FsOk PR 168 FS:=
 fn_ok tbok hmix Proofs.Tryz.f168 h0 (.R (.L (.R (.one (.fr 0))))) (G:=(mkG [])) .nil (L:=mkL [(0,Zq68.fr)]) (l:=[(0,.loop Zq68.c)]) ⟨Lam.cons Zq68.ok,trivial⟩
  (fun x=>by simp only[Zq69,mC,mB,mS,mO,mN];kernel_rfl)
end Zq69
def Zq70.B (k_:Int) (out_:List UInt8):Option ((Int×List UInt8)⊕(List UInt8)):=
 cond (decide (k_>0)) (cond (!((10:Int) == 0)) ((some (IntKind.u8.wrap (w64 ((48:Int)+(k_.tmod 10))))).bind fun v=>cond (decide ((([v]).map fun n=>UInt8.ofNat n.toNat).length+out_.length≤2147483648)) (cond (!((10:Int) == 0)) (some (.inl (w64 (k_.tdiv 10),(([v]).map fun n=>UInt8.ofNat n.toNat)++out_))) none) none) none) (some (.inr out_))
def Zq70 :(Int×List UInt8)→Option (List UInt8):=
 loopL fun s=>Zq70.B s.1 s.2
def Zq71 (k:Int):Option (List UInt8):=
 cond (decide (k≤0)) (some ([109,48]:List UInt8)) ((Zq70 (k,([]:List UInt8))).bind fun o=>cond (decide (([109]:List UInt8).length+o.length≤2147483648)) (some (([109]:List UInt8)++o)) none)
namespace Zq70
def c:=codeAt (bodyOf Proofs.Tryz.f234) [1,1,1,0,0,0]
def sp:SP:=⟨[(0,.cs I64),(3,.cs .str)],[]⟩
def out :FOut (List UInt8):=fun b _ k=>k (.ex 0) ⟨[(3,.cs .str b)],[]⟩
def fr:=lfrag sp (fun x=>Zq70  (x.1.1,x.1.2.1)) fun x=>out
theorem ok:CodeOk PR 20 1 (.loop c) fr:=
 lp_ok tbok hmix h0 .no (G:=(mkG [])) .nil (L:=mkL []) (l:=[]) hT [0,3] [] [(0,([3],[]))] ([],[]) (fun x s=>B  s.1 s.2) (fun x s=>⟨[(0,.cs I64 s.1),(3,.cs .str s.2)],[]⟩) (fun x=>(x.1.1,x.1.2.1))
  (fun x s=>by simp only[B,mC,mB,mS,mO,mN];kernel_rfl)
end Zq70
namespace Zq71
def pts:List PT:=[.cs I64]
def FS:FS:=mkFS [.sh] pts (fun x=>Zq71 x.1) fun t=>⟨[.cs .str t],[]⟩
theorem ok:FsOk PR 234 FS:=
 fn_ok tbok hmix Proofs.Tryz.f234 h0 (.R (.R (.R (.L (.one (.fr 0)))))) (G:=(mkG [])) .nil (L:=mkL [(0,Zq70.fr)]) (l:=[(0,.loop Zq70.c)]) ⟨Lam.cons Zq70.ok,trivial⟩
  (fun x=>by simp only[Zq71,mC,mB,mS,mO,mN];kernel_rfl)
end Zq71
def Zq72.B (k_:Int) (i_:Int) (a_:List (List UInt8)):Option ((Int×Int×List (List UInt8))⊕(Int×List (List UInt8))):=
 cond (decide (i_<(a_.length:Int))) ((Zq71 k_).bind fun r=>cond (inB i_ a_.length) (some (.inl (w64 (k_+1),w64 (i_+1),a_.set i_.toNat r))) none) (some (.inr (k_,a_)))
def Zq72 :(Int×Int×List (List UInt8))→Option (Int×List (List UInt8)):=
 loopL fun s=>Zq72.B s.1 s.2.1 s.2.2
def Zq73 (a:List (List UInt8)) (k:Int):Option (Int×List (List UInt8)):=
 (Zq72 (k,0,a)).bind fun o=>some (o.1,o.2)
namespace Zq73
def G:Gam:=mkG [(234,Zq71.FS)]
theorem Gok:GOk PR G:=.cons Zq71.ok .nil
end Zq73
namespace Zq72
def c:=codeAt (bodyOf Proofs.Tryz.f209) [1,0,1,0,0]
def sp:SP:=⟨[(0,.seg 0 []),(1,.cs I64),(5,.cs I64)],[(0,.reg,.cd (.sl .str))]⟩
def out :FOut (Int×List (List UInt8)):=fun b _ k=>k (.ex 0) ⟨[(1,.cs I64 b.1)],[sr 0 (.cd (.sl .str) b.2)]⟩
def fr:=lfrag sp (fun x=>Zq72  (x.1.2.1,x.1.2.2.1,x.2.1)) fun x=>out
theorem ok:CodeOk PR 20 2 (.loop c) fr:=
 lp_ok tbok hmix h0 .no (G:=Zq73.G) Zq73.Gok (L:=mkL []) (l:=[]) hT [0,1,5] [0] [(0,([1],[0]))] ([],[]) (fun x s=>B  s.1 s.2.1 s.2.2) (fun x s=>⟨[(0,.seg 0 []),(1,.cs I64 s.1),(5,.cs I64 s.2.1)],[sr 0 (.cd (.sl .str) s.2.2)]⟩) (fun x=>(x.1.2.1,x.1.2.2.1,x.2.1))
  (fun x s=>by simp only[B,mC,mB,mS,mO,mN];kernel_rfl)
end Zq72
namespace Zq73
def pts:List PT:=[.cd (.sl .str),.cs I64]
def FS:FS:=mkFS [.mu,.sh] pts (fun x=>Zq73 x.1 x.2.1) fun t=>⟨[.cs I64 t.1],[.cd (.sl .str) t.2]⟩
theorem ok:FsOk PR 209 FS:=
 fn_ok tbok hmix Proofs.Tryz.f209 h0 (.R (.L (.R (.one (.fr 0))))) (G:=G) Gok (L:=mkL [(0,Zq72.fr)]) (l:=[(0,.loop Zq72.c)]) ⟨Lam.cons Zq72.ok,trivial⟩
  (fun x=>by simp only[Zq73,mC,mB,mS,mO,mN];kernel_rfl)
end Zq73
def Zq74.B (k_:Int) (i_:Int) (a_:List Entry_):Option ((Int×Int×List Entry_)⊕(Int×List Entry_)):=
 cond (decide (i_<(a_.length:Int))) ((Zq71 k_).bind fun r=>cond (inB i_ a_.length) ((some (a_.set i_.toNat (r,(a_.getD i_.toNat zEntry_).2))).bind fun a_2=>cond (inB i_ a_2.length) ((some (a_2.set i_.toNat ((a_2.getD i_.toNat zEntry_).1,w64 (k_+1),(a_2.getD i_.toNat zEntry_).2.2))).bind fun a_3=>some (.inl (w64 ((w64 (k_+1))+1),w64 (i_+1),a_3))) none) none) (some (.inr (k_,a_)))
def Zq74 :(Int×Int×List Entry_)→Option (Int×List Entry_):=
 loopL fun s=>Zq74.B s.1 s.2.1 s.2.2
def Zq75 (a:List Entry_) (k:Int):Option (Int×List Entry_):=
 (Zq74 (k,0,a)).bind fun o=>some (o.1,o.2)
namespace Zq75
def G:Gam:=mkG [(234,Zq71.FS)]
theorem Gok:GOk PR G:=.cons Zq71.ok .nil
end Zq75
namespace Zq74
def c:=codeAt (bodyOf Proofs.Tryz.f167) [1,0,1,0,0]
def sp:SP:=⟨[(0,.seg 0 []),(1,.cs I64),(5,.cs I64)],[(0,.reg,.cd (.sl tEntry_))]⟩
def out :FOut (Int×List Entry_):=fun b _ k=>k (.ex 0) ⟨[(1,.cs I64 b.1)],[sr 0 (.cd (.sl tEntry_) b.2)]⟩
def fr:=lfrag sp (fun x=>Zq74  (x.1.2.1,x.1.2.2.1,x.2.1)) fun x=>out
theorem ok:CodeOk PR 28 2 (.loop c) fr:=
 lp_ok tbok hmix h0 .no (G:=Zq75.G) Zq75.Gok (L:=mkL []) (l:=[]) hT [0,1,5] [0] [(0,([1],[0]))] ([],[]) (fun x s=>B  s.1 s.2.1 s.2.2) (fun x s=>⟨[(0,.seg 0 []),(1,.cs I64 s.1),(5,.cs I64 s.2.1)],[sr 0 (.cd (.sl tEntry_) s.2.2)]⟩) (fun x=>(x.1.2.1,x.1.2.2.1,x.2.1))
  (fun x s=>by simp only[B,mC,mB,mS,mO,mN];kernel_rfl)
end Zq74
namespace Zq75
def pts:List PT:=[.cd (.sl tEntry_),.cs I64]
def FS:FS:=mkFS [.mu,.sh] pts (fun x=>Zq75 x.1 x.2.1) fun t=>⟨[.cs I64 t.1],[.cd (.sl tEntry_) t.2]⟩
theorem ok:FsOk PR 167 FS:=
 fn_ok tbok hmix Proofs.Tryz.f167 h0 (.R (.L (.R (.one (.fr 0))))) (G:=G) Gok (L:=mkL [(0,Zq74.fr)]) (l:=[(0,.loop Zq74.c)]) ⟨Lam.cons Zq74.ok,trivial⟩
  (fun x=>by simp only[Zq75,mC,mB,mS,mO,mN];kernel_rfl)
end Zq75
def Zq76.B (k_:Int) (i_:Int) (a_:List Inode_):Option ((Int×Int×List Inode_)⊕(Int×List Inode_)):=
 cond (decide (i_<(a_.length:Int))) (cond (inB i_ a_.length) ((some (a_.set i_.toNat (k_,(a_.getD i_.toNat zInode_).2))).bind fun a_2=>cond (inB i_ a_2.length) ((some (a_2.set i_.toNat ((a_2.getD i_.toNat zInode_).1,w64 (k_+1),(a_2.getD i_.toNat zInode_).2.2))).bind fun a_3=>cond (inB i_ a_3.length) ((some (a_3.set i_.toNat ((a_3.getD i_.toNat zInode_).1,(a_3.getD i_.toNat zInode_).2.1,w64 ((w64 (k_+1))+1),(a_3.getD i_.toNat zInode_).2.2.2))).bind fun a_4=>cond (inB i_ a_4.length) ((Zq62 (a_4.getD i_.toNat zInode_).2.2.2.1 (w64 ((w64 ((w64 (k_+1))+1))+1))).bind fun r=>cond (inB i_ ((a_4.set i_.toNat ((a_4.getD i_.toNat zInode_).1,(a_4.getD i_.toNat zInode_).2.1,(a_4.getD i_.toNat zInode_).2.2.1,r.2,(a_4.getD i_.toNat zInode_).2.2.2.2)).length)) ((Zq75 ((a_4.set i_.toNat ((a_4.getD i_.toNat zInode_).1,(a_4.getD i_.toNat zInode_).2.1,(a_4.getD i_.toNat zInode_).2.2.1,r.2,(a_4.getD i_.toNat zInode_).2.2.2.2)).getD i_.toNat zInode_).2.2.2.2.1 r.1).bind fun r2=>some (.inl (r2.1,w64 (i_+1),(a_4.set i_.toNat ((a_4.getD i_.toNat zInode_).1,(a_4.getD i_.toNat zInode_).2.1,(a_4.getD i_.toNat zInode_).2.2.1,r.2,(a_4.getD i_.toNat zInode_).2.2.2.2)).set i_.toNat (((a_4.set i_.toNat ((a_4.getD i_.toNat zInode_).1,(a_4.getD i_.toNat zInode_).2.1,(a_4.getD i_.toNat zInode_).2.2.1,r.2,(a_4.getD i_.toNat zInode_).2.2.2.2)).getD i_.toNat zInode_).1,((a_4.set i_.toNat ((a_4.getD i_.toNat zInode_).1,(a_4.getD i_.toNat zInode_).2.1,(a_4.getD i_.toNat zInode_).2.2.1,r.2,(a_4.getD i_.toNat zInode_).2.2.2.2)).getD i_.toNat zInode_).2.1,((a_4.set i_.toNat ((a_4.getD i_.toNat zInode_).1,(a_4.getD i_.toNat zInode_).2.1,(a_4.getD i_.toNat zInode_).2.2.1,r.2,(a_4.getD i_.toNat zInode_).2.2.2.2)).getD i_.toNat zInode_).2.2.1,((a_4.set i_.toNat ((a_4.getD i_.toNat zInode_).1,(a_4.getD i_.toNat zInode_).2.1,(a_4.getD i_.toNat zInode_).2.2.1,r.2,(a_4.getD i_.toNat zInode_).2.2.2.2)).getD i_.toNat zInode_).2.2.2.1,r2.2,((a_4.set i_.toNat ((a_4.getD i_.toNat zInode_).1,(a_4.getD i_.toNat zInode_).2.1,(a_4.getD i_.toNat zInode_).2.2.1,r.2,(a_4.getD i_.toNat zInode_).2.2.2.2)).getD i_.toNat zInode_).2.2.2.2.2)))) none) none) none) none) none) (some (.inr (k_,a_)))
def Zq76 :(Int×Int×List Inode_)→Option (Int×List Inode_):=
 loopL fun s=>Zq76.B s.1 s.2.1 s.2.2
def Zq77 (a:List Inode_) (k:Int):Option (Int×List Inode_):=
 (Zq76 (k,0,a)).bind fun o=>some (o.1,o.2)
namespace Zq77
def G:Gam:=mkG [(96,Zq62.FS),(167,Zq75.FS)]
theorem Gok:GOk PR G:=.cons Zq62.ok (.cons Zq75.ok .nil)
end Zq77
namespace Zq76
def c:=codeAt (bodyOf Proofs.Tryz.f79) [1,0,1,0,0]
def sp:SP:=⟨[(0,.seg 0 []),(1,.cs I64),(5,.cs I64)],[(0,.reg,.cd (.sl tInode_))]⟩
def out :FOut (Int×List Inode_):=fun b _ k=>k (.ex 0) ⟨[(1,.cs I64 b.1)],[sr 0 (.cd (.sl tInode_) b.2)]⟩
def fr:=lfrag sp (fun x=>Zq76  (x.1.2.1,x.1.2.2.1,x.2.1)) fun x=>out
theorem ok:CodeOk PR 48 2 (.loop c) fr:=
 lp_ok tbok hmix h0 .no (G:=Zq77.G) Zq77.Gok (L:=mkL []) (l:=[]) hT [0,1,5] [0] [(0,([1],[0]))] ([],[]) (fun x s=>B  s.1 s.2.1 s.2.2) (fun x s=>⟨[(0,.seg 0 []),(1,.cs I64 s.1),(5,.cs I64 s.2.1)],[sr 0 (.cd (.sl tInode_) s.2.2)]⟩) (fun x=>(x.1.2.1,x.1.2.2.1,x.2.1))
  (fun x s=>by simp only[B,mC,mB,mS,mO,mN];kernel_rfl)
end Zq76
namespace Zq77
def pts:List PT:=[.cd (.sl tInode_),.cs I64]
def FS:FS:=mkFS [.mu,.sh] pts (fun x=>Zq77 x.1 x.2.1) fun t=>⟨[.cs I64 t.1],[.cd (.sl tInode_) t.2]⟩
theorem ok:FsOk PR 79 FS:=
 fn_ok tbok hmix Proofs.Tryz.f79 h0 (.R (.L (.R (.one (.fr 0))))) (G:=G) Gok (L:=mkL [(0,Zq76.fr)]) (l:=[(0,.loop Zq76.c)]) ⟨Lam.cons Zq76.ok,trivial⟩
  (fun x=>by simp only[Zq77,mC,mB,mS,mO,mN];kernel_rfl)
end Zq77
def Zq78.B (k_:Int) (i_:Int) (a_:List (List Int)):Option ((Int×Int×List (List Int))⊕(Int×List (List Int))):=
 cond (decide (i_<(a_.length:Int))) (cond (inB i_ a_.length) ((Zq69 (a_.getD i_.toNat []) k_).bind fun r=>some (.inl (r.1,w64 (i_+1),a_.set i_.toNat r.2))) none) (some (.inr (k_,a_)))
def Zq78 :(Int×Int×List (List Int))→Option (Int×List (List Int)):=
 loopL fun s=>Zq78.B s.1 s.2.1 s.2.2
def Zq79 (a:List (List Int)) (k:Int):Option (Int×List (List Int)):=
 (Zq78 (k,0,a)).bind fun o=>some (o.1,o.2)
namespace Zq79
def G:Gam:=mkG [(168,Zq69.FS)]
theorem Gok:GOk PR G:=.cons Zq69.ok .nil
end Zq79
namespace Zq78
def c:=codeAt (bodyOf Proofs.Tryz.f80) [1,0,1,0,0]
def sp:SP:=⟨[(0,.seg 0 []),(1,.cs I64),(5,.cs I64)],[(0,.reg,.cd (.sl SB))]⟩
def out :FOut (Int×List (List Int)):=fun b _ k=>k (.ex 0) ⟨[(1,.cs I64 b.1)],[sr 0 (.cd (.sl SB) b.2)]⟩
def fr:=lfrag sp (fun x=>Zq78  (x.1.2.1,x.1.2.2.1,x.2.1)) fun x=>out
theorem ok:CodeOk PR 19 2 (.loop c) fr:=
 lp_ok tbok hmix h0 .no (G:=Zq79.G) Zq79.Gok (L:=mkL []) (l:=[]) hT [0,1,5] [0] [(0,([1],[0]))] ([],[]) (fun x s=>B  s.1 s.2.1 s.2.2) (fun x s=>⟨[(0,.seg 0 []),(1,.cs I64 s.1),(5,.cs I64 s.2.1)],[sr 0 (.cd (.sl SB) s.2.2)]⟩) (fun x=>(x.1.2.1,x.1.2.2.1,x.2.1))
  (fun x s=>by simp only[B,mC,mB,mS,mO,mN];kernel_rfl)
end Zq78
namespace Zq79
def pts:List PT:=[.cd (.sl SB),.cs I64]
def FS:FS:=mkFS [.mu,.sh] pts (fun x=>Zq79 x.1 x.2.1) fun t=>⟨[.cs I64 t.1],[.cd (.sl SB) t.2]⟩
theorem ok:FsOk PR 80 FS:=
 fn_ok tbok hmix Proofs.Tryz.f80 h0 (.R (.L (.R (.one (.fr 0))))) (G:=G) Gok (L:=mkL [(0,Zq78.fr)]) (l:=[(0,.loop Zq78.c)]) ⟨Lam.cons Zq78.ok,trivial⟩
  (fun x=>by simp only[Zq79,mC,mB,mS,mO,mN];kernel_rfl)
end Zq79
def Zq80 (a:Fs_) (k:Int):Option (Int×Fs_):=
 (Zq77 a.1 k).bind fun r=>(Zq79 a.2.1 r.1).bind fun r2=>some (r2.1,(r.2,r2.2,a.2.2))
namespace Zq80
def G:Gam:=mkG [(79,Zq77.FS),(80,Zq79.FS)]
def pts:List PT:=[.cd tFs_,.cs I64]
def FS:FS:=mkFS [.mu,.sh] pts (fun x=>Zq80 x.1 x.2.1) fun t=>⟨[.cs I64 t.1],[.cd tFs_ t.2]⟩
theorem ok:FsOk PR 24 FS:=
 fn_ok tbok hmix Proofs.Tryz.f24 ⟨[2],[],[],0⟩ .no (G:=G) (show GOk PR G from .cons Zq77.ok (.cons Zq79.ok .nil)) (L:=mkL []) (l:=[]) hT
  (fun x=>by simp only[Zq80,mC,mB,mS,mO,mN];kernel_rfl)
end Zq80
def Zq81 (a:CallResult_) (k:Int):Option (Int×CallResult_):=
 (Zq69 a.2.2.2.1 k).bind fun r=>(Zq73 a.2.2.2.2.1 r.1).bind fun r2=>(Zq80 (a.2.2.2.2.2.1.1,a.2.2.2.2.2.1.2.1,a.2.2.2.2.2.1.2.2) r2.1).bind fun r3=>some (r3.1,(a.1,a.2.1,a.2.2.1,r.2,r2.2,(r3.2.1,r3.2.2.1,a.2.2.2.2.2.1.2.2),a.2.2.2.2.2.2))
namespace Zq81
def G:Gam:=mkG [(168,Zq69.FS),(209,Zq73.FS),(24,Zq80.FS)]
def pts:List PT:=[.cd tCallResult_,.cs I64]
def FS:FS:=mkFS [.mu,.sh] pts (fun x=>Zq81 x.1 x.2.1) fun t=>⟨[.cs I64 t.1],[.cd tCallResult_ t.2]⟩
theorem ok:FsOk PR 129 FS:=
 fn_ok tbok hmix Proofs.Tryz.f129 ⟨[2],[],[],0⟩ .no (G:=G) (show GOk PR G from .cons Zq69.ok (.cons Zq73.ok (.cons Zq80.ok .nil))) (L:=mkL []) (l:=[]) hT
  (fun x=>by simp only[Zq81,mC,mB,mS,mO,mN];kernel_rfl)
end Zq81
def Zq82 (a:World_) (k:Int):Option (Int×World_):=
 (Zq67 (a.1.1,a.1.2.1,a.1.2.2) k).bind fun r=>(Zq80 (a.2.1.1,a.2.1.2.1,a.2.1.2.2) r.1).bind fun r2=>(Zq80 (a.2.2.1.1,a.2.2.1.2.1,a.2.2.1.2.2) r2.1).bind fun r3=>some (r3.1,((r.2.1,r.2.2.1,a.1.2.2),(r2.2.1,r2.2.2.1,a.2.1.2.2),(r3.2.1,r3.2.2.1,a.2.2.1.2.2),a.2.2.2))
namespace Zq82
def G:Gam:=mkG [(23,Zq67.FS),(24,Zq80.FS)]
def pts:List PT:=[.cd tWorld_,.cs I64]
def FS:FS:=mkFS [.mu,.sh] pts (fun x=>Zq82 x.1 x.2.1) fun t=>⟨[.cs I64 t.1],[.cd tWorld_ t.2]⟩
theorem ok:FsOk PR 130 FS:=
 fn_ok tbok hmix Proofs.Tryz.f130 ⟨[2],[],[],0⟩ .no (G:=G) (show GOk PR G from .cons Zq67.ok (.cons Zq80.ok .nil)) (L:=mkL []) (l:=[]) hT
  (fun x=>by simp only[Zq82,mC,mB,mS,mO,mN];kernel_rfl)
end Zq82
def Zq83 (a:WorldResult_) (k:Int):Option (Int×WorldResult_):=
 (Zq81 (a.2.1.1,a.2.1.2.1,a.2.1.2.2.1,a.2.1.2.2.2.1,a.2.1.2.2.2.2.1,(a.2.1.2.2.2.2.2.1.1,a.2.1.2.2.2.2.2.1.2.1,a.2.1.2.2.2.2.2.1.2.2),a.2.1.2.2.2.2.2.2) k).bind fun r=>(Zq82 ((a.2.2.1.1.1,a.2.2.1.1.2.1,a.2.2.1.1.2.2),(a.2.2.1.2.1.1,a.2.2.1.2.1.2.1,a.2.2.1.2.1.2.2),(a.2.2.1.2.2.1.1,a.2.2.1.2.2.1.2.1,a.2.2.1.2.2.1.2.2),a.2.2.1.2.2.2) r.1).bind fun r2=>some (r2.1,(a.1,(a.2.1.1,a.2.1.2.1,a.2.1.2.2.1,r.2.2.2.2.1,r.2.2.2.2.2.1,(r.2.2.2.2.2.2.1.1,r.2.2.2.2.2.2.1.2.1,a.2.1.2.2.2.2.2.1.2.2),a.2.1.2.2.2.2.2.2),((r2.2.1.1,r2.2.1.2.1,a.2.2.1.1.2.2),(r2.2.2.1.1,r2.2.2.1.2.1,a.2.2.1.2.1.2.2),(r2.2.2.2.1.1,r2.2.2.2.1.2.1,a.2.2.1.2.2.1.2.2),a.2.2.1.2.2.2),a.2.2.2))
namespace Zq83
def G:Gam:=mkG [(129,Zq81.FS),(130,Zq82.FS)]
def pts:List PT:=[.cd tWorldResult_,.cs I64]
def FS:FS:=mkFS [.mu,.sh] pts (fun x=>Zq83 x.1 x.2.1) fun t=>⟨[.cs I64 t.1],[.cd tWorldResult_ t.2]⟩
theorem ok:FsOk PR 54 FS:=
 fn_ok tbok hmix Proofs.Tryz.f54 ⟨[2],[],[],0⟩ .no (G:=G) (show GOk PR G from .cons Zq81.ok (.cons Zq82.ok .nil)) (L:=mkL []) (l:=[]) hT
  (fun x=>by simp only[Zq83,mC,mB,mS,mO,mN];kernel_rfl)
end Zq83
def Zq84.B (a:List Int) (k_:Int) (i_:Int):Option ((Int×Int)⊕((Int⊕Int))):=
 cond (decide (i_<(a.length:Int))) (cond (inB i_ a.length) (cond ((a.getD i_.toNat 0) != (IntKind.u8.wrap k_)) (some (.inr (.inl (-1)))) (some (.inl (w64 (k_+1),w64 (i_+1))))) none) (some (.inr (.inr k_)))
def Zq84 (a:List Int):(Int×Int)→Option ((Int⊕Int)):=
 loopL fun s=>Zq84.B a s.1 s.2
def Zq85 (a:List Int) (k:Int):Option Int:=
 (Zq84 a (k,0)).bind fun o=>sel o (fun b=>some b) (fun c=>some c)
namespace Zq84
def c:=codeAt (bodyOf Proofs.Tryz.f210) [1,0,1,0,0]
def sp:SP:=⟨[(0,.cs SB),(1,.cs I64),(5,.cs I64)],[]⟩
def out (a:List Int):FOut ((Int⊕Int)):=fun o _ k=>sel o (fun b=>k (.rt) ⟨[(4,.cs I64 b)],[]⟩) (fun c=>k (.ex 0) ⟨[(1,.cs I64 c)],[]⟩)
def fr:=lfrag sp (fun x=>Zq84 x.1.1 (x.1.2.1,x.1.2.2.1)) fun x=>out x.1.1
theorem ok:CodeOk PR 22 2 (.loop c) fr:=
 lp_ok tbok hmix h0 .no (G:=(mkG [])) .nil (L:=mkL []) (l:=[]) hT [0,1,5] [] [(0,([1],[]))] ([4],[]) (fun x s=>B x.1.1 s.1 s.2) (fun x s=>⟨[(0,.cs SB x.1.1),(1,.cs I64 s.1),(5,.cs I64 s.2)],[]⟩) (fun x=>(x.1.2.1,x.1.2.2.1))
  (fun x s=>by simp only[B,mC,mB,mS,mO,mN];kernel_rfl)
end Zq84
namespace Zq85
def pts:List PT:=[.cs SB,.cs I64]
def FS:FS:=mkFS [.sh,.sh] pts (fun x=>Zq85 x.1 x.2.1) fun t=>⟨[.cs I64 t],[]⟩
theorem ok:FsOk PR 210 FS:=
 fn_ok tbok hmix Proofs.Tryz.f210 h0 (.R (.L (.R (.one (.fr 0))))) (G:=(mkG [])) .nil (L:=mkL [(0,Zq84.fr)]) (l:=[(0,.loop Zq84.c)]) ⟨Lam.cons Zq84.ok,trivial⟩
  (fun x=>by simp only[Zq85,mC,mB,mS,mO,mN];kernel_rfl)
end Zq85
def Zq86.B (a:List (List UInt8)) (k_:Int) (i_:Int):Option ((Int×Int)⊕((Int⊕Int))):=
 cond (decide (i_<(a.length:Int))) (cond (inB i_ a.length) ((Zq71 k_).bind fun r=>cond (!((a.getD i_.toNat []) == r)) (some (.inr (.inl (-1)))) (some (.inl (w64 (k_+1),w64 (i_+1))))) none) (some (.inr (.inr k_)))
def Zq86 (a:List (List UInt8)):(Int×Int)→Option ((Int⊕Int)):=
 loopL fun s=>Zq86.B a s.1 s.2
def Zq87 (a:List (List UInt8)) (k:Int):Option Int:=
 (Zq86 a (k,0)).bind fun o=>sel o (fun b=>some b) (fun c=>some c)
namespace Zq87
def G:Gam:=mkG [(234,Zq71.FS)]
theorem Gok:GOk PR G:=.cons Zq71.ok .nil
end Zq87
namespace Zq86
def c:=codeAt (bodyOf Proofs.Tryz.f211) [1,0,1,0,0]
def sp:SP:=⟨[(0,.cs (.sl .str)),(1,.cs I64),(5,.cs I64)],[]⟩
def out (a:List (List UInt8)):FOut ((Int⊕Int)):=fun o _ k=>sel o (fun b=>k (.rt) ⟨[(4,.cs I64 b)],[]⟩) (fun c=>k (.ex 0) ⟨[(1,.cs I64 c)],[]⟩)
def fr:=lfrag sp (fun x=>Zq86 x.1.1 (x.1.2.1,x.1.2.2.1)) fun x=>out x.1.1
theorem ok:CodeOk PR 22 2 (.loop c) fr:=
 lp_ok tbok hmix h0 .no (G:=Zq87.G) Zq87.Gok (L:=mkL []) (l:=[]) hT [0,1,5] [] [(0,([1],[]))] ([4],[]) (fun x s=>B x.1.1 s.1 s.2) (fun x s=>⟨[(0,.cs (.sl .str) x.1.1),(1,.cs I64 s.1),(5,.cs I64 s.2)],[]⟩) (fun x=>(x.1.2.1,x.1.2.2.1))
  (fun x s=>by simp only[B,mC,mB,mS,mO,mN];kernel_rfl)
end Zq86
namespace Zq87
def pts:List PT:=[.cs (.sl .str),.cs I64]
def FS:FS:=mkFS [.sh,.sh] pts (fun x=>Zq87 x.1 x.2.1) fun t=>⟨[.cs I64 t],[]⟩
theorem ok:FsOk PR 211 FS:=
 fn_ok tbok hmix Proofs.Tryz.f211 h0 (.R (.L (.R (.one (.fr 0))))) (G:=G) Gok (L:=mkL [(0,Zq86.fr)]) (l:=[(0,.loop Zq86.c)]) ⟨Lam.cons Zq86.ok,trivial⟩
  (fun x=>by simp only[Zq87,mC,mB,mS,mO,mN];kernel_rfl)
end Zq87
def Zq88.B (a:List Int) (k_:Int) (i_:Int):Option ((Int×Int)⊕((Int⊕Int))):=
 cond (decide (i_<(a.length:Int))) (cond (inB i_ a.length) (cond ((a.getD i_.toNat 0) != k_) (some (.inr (.inl (-1)))) (some (.inl (w64 (k_+1),w64 (i_+1))))) none) (some (.inr (.inr k_)))
def Zq88 (a:List Int):(Int×Int)→Option ((Int⊕Int)):=
 loopL fun s=>Zq88.B a s.1 s.2
def Zq89 (a:List Int) (k:Int):Option Int:=
 (Zq88 a (k,0)).bind fun o=>sel o (fun b=>some b) (fun c=>some c)
namespace Zq88
def c:=codeAt (bodyOf Proofs.Tryz.f97) [1,0,1,0,0]
def sp:SP:=⟨[(0,.cs SI),(1,.cs I64),(5,.cs I64)],[]⟩
def out (a:List Int):FOut ((Int⊕Int)):=fun o _ k=>sel o (fun b=>k (.rt) ⟨[(4,.cs I64 b)],[]⟩) (fun c=>k (.ex 0) ⟨[(1,.cs I64 c)],[]⟩)
def fr:=lfrag sp (fun x=>Zq88 x.1.1 (x.1.2.1,x.1.2.2.1)) fun x=>out x.1.1
theorem ok:CodeOk PR 21 2 (.loop c) fr:=
 lp_ok tbok hmix h0 .no (G:=(mkG [])) .nil (L:=mkL []) (l:=[]) hT [0,1,5] [] [(0,([1],[]))] ([4],[]) (fun x s=>B x.1.1 s.1 s.2) (fun x s=>⟨[(0,.cs SI x.1.1),(1,.cs I64 s.1),(5,.cs I64 s.2)],[]⟩) (fun x=>(x.1.2.1,x.1.2.2.1))
  (fun x s=>by simp only[B,mC,mB,mS,mO,mN];kernel_rfl)
end Zq88
namespace Zq89
def pts:List PT:=[.cs SI,.cs I64]
def FS:FS:=mkFS [.sh,.sh] pts (fun x=>Zq89 x.1 x.2.1) fun t=>⟨[.cs I64 t],[]⟩
theorem ok:FsOk PR 97 FS:=
 fn_ok tbok hmix Proofs.Tryz.f97 h0 (.R (.L (.R (.one (.fr 0))))) (G:=(mkG [])) .nil (L:=mkL [(0,Zq88.fr)]) (l:=[(0,.loop Zq88.c)]) ⟨Lam.cons Zq88.ok,trivial⟩
  (fun x=>by simp only[Zq89,mC,mB,mS,mO,mN];kernel_rfl)
end Zq89
def Zq90.B (a:List Entry_) (k_:Int) (i_:Int):Option ((Int×Int)⊕((Int⊕Int))):=
 cond (decide (i_<(a.length:Int))) (cond (inB i_ a.length) ((Zq71 k_).bind fun r=>cond (!((a.getD i_.toNat zEntry_).1 == r)) (some (.inr (.inl (-1)))) (cond (inB i_ a.length) ((some ((a.getD i_.toNat zEntry_).2.1 != (w64 (k_+1)))).bind fun v=>cond v (some (.inr (.inl (-1)))) (some (.inl (w64 ((w64 (k_+1))+1),w64 (i_+1))))) none)) none) (some (.inr (.inr k_)))
def Zq90 (a:List Entry_):(Int×Int)→Option ((Int⊕Int)):=
 loopL fun s=>Zq90.B a s.1 s.2
def Zq91 (a:List Entry_) (k:Int):Option Int:=
 (Zq90 a (k,0)).bind fun o=>sel o (fun b=>some b) (fun c=>some c)
namespace Zq91
def G:Gam:=mkG [(234,Zq71.FS)]
theorem Gok:GOk PR G:=.cons Zq71.ok .nil
end Zq91
namespace Zq90
def c:=codeAt (bodyOf Proofs.Tryz.f287) [1,0,1,0,0]
def sp:SP:=⟨[(0,.cs (.sl tEntry_)),(1,.cs I64),(5,.cs I64)],[]⟩
def out (a:List Entry_):FOut ((Int⊕Int)):=fun o _ k=>sel o (fun b=>k (.rt) ⟨[(4,.cs I64 b)],[]⟩) (fun c=>k (.ex 0) ⟨[(1,.cs I64 c)],[]⟩)
def fr:=lfrag sp (fun x=>Zq90 x.1.1 (x.1.2.1,x.1.2.2.1)) fun x=>out x.1.1
theorem ok:CodeOk PR 32 2 (.loop c) fr:=
 lp_ok tbok hmix h0 .no (G:=Zq91.G) Zq91.Gok (L:=mkL []) (l:=[]) hT [0,1,5] [] [(0,([1],[]))] ([4],[]) (fun x s=>B x.1.1 s.1 s.2) (fun x s=>⟨[(0,.cs (.sl tEntry_) x.1.1),(1,.cs I64 s.1),(5,.cs I64 s.2)],[]⟩) (fun x=>(x.1.2.1,x.1.2.2.1))
  (fun x s=>by simp only[B,mC,mB,mS,mO,mN];kernel_rfl)
end Zq90
namespace Zq91
def pts:List PT:=[.cs (.sl tEntry_),.cs I64]
def FS:FS:=mkFS [.sh,.sh] pts (fun x=>Zq91 x.1 x.2.1) fun t=>⟨[.cs I64 t],[]⟩
theorem ok:FsOk PR 287 FS:=
 fn_ok tbok hmix Proofs.Tryz.f287 h0 (.R (.L (.R (.one (.fr 0))))) (G:=G) Gok (L:=mkL [(0,Zq90.fr)]) (l:=[(0,.loop Zq90.c)]) ⟨Lam.cons Zq90.ok,trivial⟩
  (fun x=>by simp only[Zq91,mC,mB,mS,mO,mN];kernel_rfl)
end Zq91
def Zq92.B (a:List Inode_) (k_:Int) (i_:Int):Option ((Int×Int)⊕((Int⊕Int))):=
 cond (decide (i_<(a.length:Int))) (cond (inB i_ a.length) (cond ((a.getD i_.toNat zInode_).1 != k_) (some (.inr (.inl (-1)))) (cond (inB i_ a.length) ((some ((a.getD i_.toNat zInode_).2.1 != (w64 (k_+1)))).bind fun v=>cond v (some (.inr (.inl (-1)))) (cond (inB i_ a.length) ((some ((a.getD i_.toNat zInode_).2.2.1 != (w64 ((w64 (k_+1))+1)))).bind fun v2=>cond v2 (some (.inr (.inl (-1)))) (cond (inB i_ a.length) ((Zq89 (a.getD i_.toNat zInode_).2.2.2.1 (w64 ((w64 ((w64 (k_+1))+1))+1))).bind fun r=>cond (decide (r<0)) (some (.inr (.inl (-1)))) (cond (inB i_ a.length) ((Zq91 (a.getD i_.toNat zInode_).2.2.2.2.1 r).bind fun r2=>cond (decide (r2<0)) (some (.inr (.inl (-1)))) (some (.inl (r2,w64 (i_+1))))) none)) none)) none)) none)) none) (some (.inr (.inr k_)))
def Zq92 (a:List Inode_):(Int×Int)→Option ((Int⊕Int)):=
 loopL fun s=>Zq92.B a s.1 s.2
def Zq93 (a:List Inode_) (k:Int):Option Int:=
 (Zq92 a (k,0)).bind fun o=>sel o (fun b=>some b) (fun c=>some c)
namespace Zq93
def G:Gam:=mkG [(97,Zq89.FS),(287,Zq91.FS)]
theorem Gok:GOk PR G:=.cons Zq89.ok (.cons Zq91.ok .nil)
end Zq93
namespace Zq92
def c:=codeAt (bodyOf Proofs.Tryz.f253) [1,0,1,0,0]
def sp:SP:=⟨[(0,.cs (.sl tInode_)),(1,.cs I64),(5,.cs I64)],[]⟩
def out (a:List Inode_):FOut ((Int⊕Int)):=fun o _ k=>sel o (fun b=>k (.rt) ⟨[(4,.cs I64 b)],[]⟩) (fun c=>k (.ex 0) ⟨[(1,.cs I64 c)],[]⟩)
def fr:=lfrag sp (fun x=>Zq92 x.1.1 (x.1.2.1,x.1.2.2.1)) fun x=>out x.1.1
theorem ok:CodeOk PR 58 2 (.loop c) fr:=
 lp_ok tbok hmix h0 .no (G:=Zq93.G) Zq93.Gok (L:=mkL []) (l:=[]) hT [0,1,5] [] [(0,([1],[]))] ([4],[]) (fun x s=>B x.1.1 s.1 s.2) (fun x s=>⟨[(0,.cs (.sl tInode_) x.1.1),(1,.cs I64 s.1),(5,.cs I64 s.2)],[]⟩) (fun x=>(x.1.2.1,x.1.2.2.1))
  (fun x s=>by simp only[B,mC,mB,mS,mO,mN];kernel_rfl)
end Zq92
namespace Zq93
def pts:List PT:=[.cs (.sl tInode_),.cs I64]
def FS:FS:=mkFS [.sh,.sh] pts (fun x=>Zq93 x.1 x.2.1) fun t=>⟨[.cs I64 t],[]⟩
theorem ok:FsOk PR 253 FS:=
 fn_ok tbok hmix Proofs.Tryz.f253 h0 (.R (.L (.R (.one (.fr 0))))) (G:=G) Gok (L:=mkL [(0,Zq92.fr)]) (l:=[(0,.loop Zq92.c)]) ⟨Lam.cons Zq92.ok,trivial⟩
  (fun x=>by simp only[Zq93,mC,mB,mS,mO,mN];kernel_rfl)
end Zq93
def Zq94.B (a:List (List Int)) (k_:Int) (i_:Int):Option ((Int×Int)⊕((Int⊕Int))):=
 cond (decide (i_<(a.length:Int))) (cond (inB i_ a.length) ((Zq85 (a.getD i_.toNat []) k_).bind fun r=>cond (decide (r<0)) (some (.inr (.inl (-1)))) (some (.inl (r,w64 (i_+1))))) none) (some (.inr (.inr k_)))
def Zq94 (a:List (List Int)):(Int×Int)→Option ((Int⊕Int)):=
 loopL fun s=>Zq94.B a s.1 s.2
def Zq95 (a:List (List Int)) (k:Int):Option Int:=
 (Zq94 a (k,0)).bind fun o=>sel o (fun b=>some b) (fun c=>some c)
namespace Zq95
def G:Gam:=mkG [(210,Zq85.FS)]
theorem Gok:GOk PR G:=.cons Zq85.ok .nil
end Zq95
namespace Zq94
def c:=codeAt (bodyOf Proofs.Tryz.f254) [1,0,1,0,0]
def sp:SP:=⟨[(0,.cs (.sl SB)),(1,.cs I64),(5,.cs I64)],[]⟩
def out (a:List (List Int)):FOut ((Int⊕Int)):=fun o _ k=>sel o (fun b=>k (.rt) ⟨[(4,.cs I64 b)],[]⟩) (fun c=>k (.ex 0) ⟨[(1,.cs I64 c)],[]⟩)
def fr:=lfrag sp (fun x=>Zq94 x.1.1 (x.1.2.1,x.1.2.2.1)) fun x=>out x.1.1
theorem ok:CodeOk PR 21 2 (.loop c) fr:=
 lp_ok tbok hmix h0 .no (G:=Zq95.G) Zq95.Gok (L:=mkL []) (l:=[]) hT [0,1,5] [] [(0,([1],[]))] ([4],[]) (fun x s=>B x.1.1 s.1 s.2) (fun x s=>⟨[(0,.cs (.sl SB) x.1.1),(1,.cs I64 s.1),(5,.cs I64 s.2)],[]⟩) (fun x=>(x.1.2.1,x.1.2.2.1))
  (fun x s=>by simp only[B,mC,mB,mS,mO,mN];kernel_rfl)
end Zq94
namespace Zq95
def pts:List PT:=[.cs (.sl SB),.cs I64]
def FS:FS:=mkFS [.sh,.sh] pts (fun x=>Zq95 x.1 x.2.1) fun t=>⟨[.cs I64 t],[]⟩
theorem ok:FsOk PR 254 FS:=
 fn_ok tbok hmix Proofs.Tryz.f254 h0 (.R (.L (.R (.one (.fr 0))))) (G:=G) Gok (L:=mkL [(0,Zq94.fr)]) (l:=[(0,.loop Zq94.c)]) ⟨Lam.cons Zq94.ok,trivial⟩
  (fun x=>by simp only[Zq95,mC,mB,mS,mO,mN];kernel_rfl)
end Zq95
def Zq96 (a:Fs_) (k:Int):Option Int:=
 (Zq93 a.1 k).bind fun r=>cond (decide (r<0)) (some (-1)) ((Zq95 a.2.1 r).bind fun r2=>cond (decide (r2<0)) (some (-1)) (some r2))
namespace Zq96
def G:Gam:=mkG [(253,Zq93.FS),(254,Zq95.FS)]
def pts:List PT:=[.cs tFs_,.cs I64]
def FS:FS:=mkFS [.sh,.sh] pts (fun x=>Zq96 x.1 x.2.1) fun t=>⟨[.cs I64 t],[]⟩
theorem ok:FsOk PR 212 FS:=
 fn_ok tbok hmix Proofs.Tryz.f212 ⟨[2],[],[],0⟩ .no (G:=G) (show GOk PR G from .cons Zq93.ok (.cons Zq95.ok .nil)) (L:=mkL []) (l:=[]) hT
  (fun x=>by simp only[Zq96,mC,mB,mS,mO,mN];kernel_rfl)
end Zq96
def Zq97 (a:CallResult_) (k:Int):Option Int:=
 (Zq85 a.2.2.2.1 k).bind fun r=>cond (decide (r<0)) (some (-1)) ((Zq87 a.2.2.2.2.1 r).bind fun r2=>cond (decide (r2<0)) (some (-1)) ((Zq96 a.2.2.2.2.2.1 r2).bind fun r3=>cond (decide (r3<0)) (some (-1)) (some r3)))
namespace Zq97
def G:Gam:=mkG [(210,Zq85.FS),(211,Zq87.FS),(212,Zq96.FS)]
def pts:List PT:=[.cs tCallResult_,.cs I64]
def FS:FS:=mkFS [.sh,.sh] pts (fun x=>Zq97 x.1 x.2.1) fun t=>⟨[.cs I64 t],[]⟩
theorem ok:FsOk PR 131 FS:=
 fn_ok tbok hmix Proofs.Tryz.f131 ⟨[2],[],[],0⟩ .no (G:=G) (show GOk PR G from .cons Zq85.ok (.cons Zq87.ok (.cons Zq96.ok .nil))) (L:=mkL []) (l:=[]) hT
  (fun x=>by simp only[Zq97,mC,mB,mS,mO,mN];kernel_rfl)
end Zq97
def Zq98.B (a:List (List Int)) (k_:Int) (i_:Int):Option ((Int×Int)⊕((Int⊕Int))):=
 cond (decide (i_<(a.length:Int))) (cond (inB i_ a.length) ((Zq89 (a.getD i_.toNat []) k_).bind fun r=>cond (decide (r<0)) (some (.inr (.inl (-1)))) (some (.inl (r,w64 (i_+1))))) none) (some (.inr (.inr k_)))
def Zq98 (a:List (List Int)):(Int×Int)→Option ((Int⊕Int)):=
 loopL fun s=>Zq98.B a s.1 s.2
def Zq99 (a:List (List Int)) (k:Int):Option Int:=
 (Zq98 a (k,0)).bind fun o=>sel o (fun b=>some b) (fun c=>some c)
namespace Zq99
def G:Gam:=mkG [(97,Zq89.FS)]
theorem Gok:GOk PR G:=.cons Zq89.ok .nil
end Zq99
namespace Zq98
def c:=codeAt (bodyOf Proofs.Tryz.f255) [1,0,1,0,0]
def sp:SP:=⟨[(0,.cs (.sl SI)),(1,.cs I64),(5,.cs I64)],[]⟩
def out (a:List (List Int)):FOut ((Int⊕Int)):=fun o _ k=>sel o (fun b=>k (.rt) ⟨[(4,.cs I64 b)],[]⟩) (fun c=>k (.ex 0) ⟨[(1,.cs I64 c)],[]⟩)
def fr:=lfrag sp (fun x=>Zq98 x.1.1 (x.1.2.1,x.1.2.2.1)) fun x=>out x.1.1
theorem ok:CodeOk PR 21 2 (.loop c) fr:=
 lp_ok tbok hmix h0 .no (G:=Zq99.G) Zq99.Gok (L:=mkL []) (l:=[]) hT [0,1,5] [] [(0,([1],[]))] ([4],[]) (fun x s=>B x.1.1 s.1 s.2) (fun x s=>⟨[(0,.cs (.sl SI) x.1.1),(1,.cs I64 s.1),(5,.cs I64 s.2)],[]⟩) (fun x=>(x.1.2.1,x.1.2.2.1))
  (fun x s=>by simp only[B,mC,mB,mS,mO,mN];kernel_rfl)
end Zq98
namespace Zq99
def pts:List PT:=[.cs (.sl SI),.cs I64]
def FS:FS:=mkFS [.sh,.sh] pts (fun x=>Zq99 x.1 x.2.1) fun t=>⟨[.cs I64 t],[]⟩
theorem ok:FsOk PR 255 FS:=
 fn_ok tbok hmix Proofs.Tryz.f255 h0 (.R (.L (.R (.one (.fr 0))))) (G:=G) Gok (L:=mkL [(0,Zq98.fr)]) (l:=[(0,.loop Zq98.c)]) ⟨Lam.cons Zq98.ok,trivial⟩
  (fun x=>by simp only[Zq99,mC,mB,mS,mO,mN];kernel_rfl)
end Zq99
def Zq100.B (a:List Put_) (k_:Int) (i_:Int):Option ((Int×Int)⊕((Int⊕Int))):=
 cond (decide (i_<(a.length:Int))) (cond (inB i_ a.length) (cond ((a.getD i_.toNat zPut_).1 != k_) (some (.inr (.inl (-1)))) (cond (inB i_ a.length) ((Zq89 (a.getD i_.toNat zPut_).2.1 (w64 (k_+1))).bind fun r=>cond (decide (r<0)) (some (.inr (.inl (-1)))) (some (.inl (r,w64 (i_+1))))) none)) none) (some (.inr (.inr k_)))
def Zq100 (a:List Put_):(Int×Int)→Option ((Int⊕Int)):=
 loopL fun s=>Zq100.B a s.1 s.2
def Zq101 (a:List Put_) (k:Int):Option Int:=
 (Zq100 a (k,0)).bind fun o=>sel o (fun b=>some b) (fun c=>some c)
namespace Zq101
def G:Gam:=mkG [(97,Zq89.FS)]
theorem Gok:GOk PR G:=.cons Zq89.ok .nil
end Zq101
namespace Zq100
def c:=codeAt (bodyOf Proofs.Tryz.f256) [1,0,1,0,0]
def sp:SP:=⟨[(0,.cs (.sl tPut_)),(1,.cs I64),(5,.cs I64)],[]⟩
def out (a:List Put_):FOut ((Int⊕Int)):=fun o _ k=>sel o (fun b=>k (.rt) ⟨[(4,.cs I64 b)],[]⟩) (fun c=>k (.ex 0) ⟨[(1,.cs I64 c)],[]⟩)
def fr:=lfrag sp (fun x=>Zq100 x.1.1 (x.1.2.1,x.1.2.2.1)) fun x=>out x.1.1
theorem ok:CodeOk PR 31 2 (.loop c) fr:=
 lp_ok tbok hmix h0 .no (G:=Zq101.G) Zq101.Gok (L:=mkL []) (l:=[]) hT [0,1,5] [] [(0,([1],[]))] ([4],[]) (fun x s=>B x.1.1 s.1 s.2) (fun x s=>⟨[(0,.cs (.sl tPut_) x.1.1),(1,.cs I64 s.1),(5,.cs I64 s.2)],[]⟩) (fun x=>(x.1.2.1,x.1.2.2.1))
  (fun x s=>by simp only[B,mC,mB,mS,mO,mN];kernel_rfl)
end Zq100
namespace Zq101
def pts:List PT:=[.cs (.sl tPut_),.cs I64]
def FS:FS:=mkFS [.sh,.sh] pts (fun x=>Zq101 x.1 x.2.1) fun t=>⟨[.cs I64 t],[]⟩
theorem ok:FsOk PR 256 FS:=
 fn_ok tbok hmix Proofs.Tryz.f256 h0 (.R (.L (.R (.one (.fr 0))))) (G:=G) Gok (L:=mkL [(0,Zq100.fr)]) (l:=[(0,.loop Zq100.c)]) ⟨Lam.cons Zq100.ok,trivial⟩
  (fun x=>by simp only[Zq101,mC,mB,mS,mO,mN];kernel_rfl)
end Zq101
def Zq102 (a:Disk_) (k:Int):Option Int:=
 (Zq99 a.1 k).bind fun r=>cond (decide (r<0)) (some (-1)) ((Zq101 a.2.1 r).bind fun r2=>cond (decide (r2<0)) (some (-1)) (some r2))
namespace Zq102
def G:Gam:=mkG [(255,Zq99.FS),(256,Zq101.FS)]
def pts:List PT:=[.cs tDisk_,.cs I64]
def FS:FS:=mkFS [.sh,.sh] pts (fun x=>Zq102 x.1 x.2.1) fun t=>⟨[.cs I64 t],[]⟩
theorem ok:FsOk PR 213 FS:=
 fn_ok tbok hmix Proofs.Tryz.f213 ⟨[2],[],[],0⟩ .no (G:=G) (show GOk PR G from .cons Zq99.ok (.cons Zq101.ok .nil)) (L:=mkL []) (l:=[]) hT
  (fun x=>by simp only[Zq102,mC,mB,mS,mO,mN];kernel_rfl)
end Zq102
def Zq103 (a:World_) (k:Int):Option Int:=
 (Zq102 a.1 k).bind fun r=>cond (decide (r<0)) (some (-1)) ((Zq96 a.2.1 r).bind fun r2=>cond (decide (r2<0)) (some (-1)) ((Zq96 a.2.2.1 r2).bind fun r3=>cond (decide (r3<0)) (some (-1)) (some r3)))
namespace Zq103
def G:Gam:=mkG [(213,Zq102.FS),(212,Zq96.FS)]
def pts:List PT:=[.cs tWorld_,.cs I64]
def FS:FS:=mkFS [.sh,.sh] pts (fun x=>Zq103 x.1 x.2.1) fun t=>⟨[.cs I64 t],[]⟩
theorem ok:FsOk PR 132 FS:=
 fn_ok tbok hmix Proofs.Tryz.f132 ⟨[2],[],[],0⟩ .no (G:=G) (show GOk PR G from .cons Zq102.ok (.cons Zq96.ok .nil)) (L:=mkL []) (l:=[]) hT
  (fun x=>by simp only[Zq103,mC,mB,mS,mO,mN];kernel_rfl)
end Zq103
def Zq104 (a:WorldResult_) (k:Int):Option Int:=
 (Zq97 a.2.1 k).bind fun r=>cond (decide (r<0)) (some (-1)) ((Zq103 a.2.2.1 r).bind fun r2=>cond (decide (r2<0)) (some (-1)) (some r2))
namespace Zq104
def G:Gam:=mkG [(131,Zq97.FS),(132,Zq103.FS)]
def pts:List PT:=[.cs tWorldResult_,.cs I64]
def FS:FS:=mkFS [.sh,.sh] pts (fun x=>Zq104 x.1 x.2.1) fun t=>⟨[.cs I64 t],[]⟩
theorem ok:FsOk PR 55 FS:=
 fn_ok tbok hmix Proofs.Tryz.f55 ⟨[2],[],[],0⟩ .no (G:=G) (show GOk PR G from .cons Zq97.ok (.cons Zq103.ok .nil)) (L:=mkL []) (l:=[]) hT
  (fun x=>by simp only[Zq104,mC,mB,mS,mO,mN];kernel_rfl)
end Zq104
def Zq105 (aD:Disk_):Option Bool:=
 (Zq106 aD 1048576).bind fun r=>cond (decide (r<0)) (some true) ((Zq107 aD).bind fun r2=>(Zq108 (r2.1,r2.2.1,r2.2.2)).bind fun r3=>(Zq107 aD).bind fun r4=>(Zq31 (r4.1,r4.2.1,r4.2.2)).bind fun r5=>(Zq60 (r5.1,(r5.2.1.1,r5.2.1.2.1,r5.2.1.2.2.1,r5.2.1.2.2.2.1,r5.2.1.2.2.2.2.1,(r5.2.1.2.2.2.2.2.1.1,r5.2.1.2.2.2.2.2.1.2.1,r5.2.1.2.2.2.2.2.1.2.2),r5.2.1.2.2.2.2.2.2),((r5.2.2.1.1.1,r5.2.2.1.1.2.1,r5.2.2.1.1.2.2),(r5.2.2.1.2.1.1,r5.2.2.1.2.1.2.1,r5.2.2.1.2.1.2.2),(r5.2.2.1.2.2.1.1,r5.2.2.1.2.2.1.2.1,r5.2.2.1.2.2.1.2.2),r5.2.2.1.2.2.2),r5.2.2.2) (r3.1,(r3.2.1.1,r3.2.1.2.1,r3.2.1.2.2.1,r3.2.1.2.2.2.1,r3.2.1.2.2.2.2.1,(r3.2.1.2.2.2.2.2.1.1,r3.2.1.2.2.2.2.2.1.2.1,r3.2.1.2.2.2.2.2.1.2.2),r3.2.1.2.2.2.2.2.2),((r3.2.2.1.1.1,r3.2.2.1.1.2.1,r3.2.2.1.1.2.2),(r3.2.2.1.2.1.1,r3.2.2.1.2.1.2.1,r3.2.2.1.2.1.2.2),(r3.2.2.1.2.2.1.1,r3.2.2.1.2.2.1.2.1,r3.2.2.1.2.2.1.2.2),r3.2.2.1.2.2.2),r3.2.2.2)).bind fun r6=>cond (!r6) (some false) ((Zq107 aD).bind fun r7=>(Zq58 (r4.1,r4.2.1,r4.2.2) (r7.1,r7.2.1,r7.2.2)).bind fun r8=>cond (!r8) (some false) ((Zq67 (r4.1,r4.2.1,r4.2.2) 1).bind fun r9=>cond (decide (r9.1<0)) (some false) ((Zq60 (r5.1,(r5.2.1.1,r5.2.1.2.1,r5.2.1.2.2.1,r5.2.1.2.2.2.1,r5.2.1.2.2.2.2.1,(r5.2.1.2.2.2.2.2.1.1,r5.2.1.2.2.2.2.2.1.2.1,r5.2.1.2.2.2.2.2.1.2.2),r5.2.1.2.2.2.2.2.2),((r5.2.2.1.1.1,r5.2.2.1.1.2.1,r5.2.2.1.1.2.2),(r5.2.2.1.2.1.1,r5.2.2.1.2.1.2.1,r5.2.2.1.2.1.2.2),(r5.2.2.1.2.2.1.1,r5.2.2.1.2.2.1.2.1,r5.2.2.1.2.2.1.2.2),r5.2.2.1.2.2.2),r5.2.2.2) (r3.1,(r3.2.1.1,r3.2.1.2.1,r3.2.1.2.2.1,r3.2.1.2.2.2.1,r3.2.1.2.2.2.2.1,(r3.2.1.2.2.2.2.2.1.1,r3.2.1.2.2.2.2.2.1.2.1,r3.2.1.2.2.2.2.2.1.2.2),r3.2.1.2.2.2.2.2.2),((r3.2.2.1.1.1,r3.2.2.1.1.2.1,r3.2.2.1.1.2.2),(r3.2.2.1.2.1.1,r3.2.2.1.2.1.2.1,r3.2.2.1.2.1.2.2),(r3.2.2.1.2.2.1.1,r3.2.2.1.2.2.1.2.1,r3.2.2.1.2.2.1.2.2),r3.2.2.1.2.2.2),r3.2.2.2)).bind fun r10=>cond (!r10) (some false) ((Zq83 (r5.1,(r5.2.1.1,r5.2.1.2.1,r5.2.1.2.2.1,r5.2.1.2.2.2.1,r5.2.1.2.2.2.2.1,(r5.2.1.2.2.2.2.2.1.1,r5.2.1.2.2.2.2.2.1.2.1,r5.2.1.2.2.2.2.2.1.2.2),r5.2.1.2.2.2.2.2.2),((r5.2.2.1.1.1,r5.2.2.1.1.2.1,r5.2.2.1.1.2.2),(r5.2.2.1.2.1.1,r5.2.2.1.2.1.2.1,r5.2.2.1.2.1.2.2),(r5.2.2.1.2.2.1.1,r5.2.2.1.2.2.1.2.1,r5.2.2.1.2.2.1.2.2),r5.2.2.1.2.2.2),r5.2.2.2) 1).bind fun r11=>(Zq104 (r5.1,(r5.2.1.1,r5.2.1.2.1,r5.2.1.2.2.1,r11.2.2.1.2.2.2.1,r11.2.2.1.2.2.2.2.1,(r11.2.2.1.2.2.2.2.2.1.1,r11.2.2.1.2.2.2.2.2.1.2.1,r5.2.1.2.2.2.2.2.1.2.2),r5.2.1.2.2.2.2.2.2),((r11.2.2.2.1.1.1,r11.2.2.2.1.1.2.1,r5.2.2.1.1.2.2),(r11.2.2.2.1.2.1.1,r11.2.2.2.1.2.1.2.1,r5.2.2.1.2.1.2.2),(r11.2.2.2.1.2.2.1.1,r11.2.2.2.1.2.2.1.2.1,r5.2.2.1.2.2.1.2.2),r5.2.2.1.2.2.2),r5.2.2.2) 1).bind fun r12=>cond (decide (r12<0)) (some false) (cond (r12 != r11.1) (some false) ((Zq107 aD).bind fun r13=>(Zq31 (r13.1,r13.2.1,r13.2.2)).bind fun r14=>(Zq60 (r14.1,(r14.2.1.1,r14.2.1.2.1,r14.2.1.2.2.1,r14.2.1.2.2.2.1,r14.2.1.2.2.2.2.1,(r14.2.1.2.2.2.2.2.1.1,r14.2.1.2.2.2.2.2.1.2.1,r14.2.1.2.2.2.2.2.1.2.2),r14.2.1.2.2.2.2.2.2),((r14.2.2.1.1.1,r14.2.2.1.1.2.1,r14.2.2.1.1.2.2),(r14.2.2.1.2.1.1,r14.2.2.1.2.1.2.1,r14.2.2.1.2.1.2.2),(r14.2.2.1.2.2.1.1,r14.2.2.1.2.2.1.2.1,r14.2.2.1.2.2.1.2.2),r14.2.2.1.2.2.2),r14.2.2.2) (r3.1,(r3.2.1.1,r3.2.1.2.1,r3.2.1.2.2.1,r3.2.1.2.2.2.1,r3.2.1.2.2.2.2.1,(r3.2.1.2.2.2.2.2.1.1,r3.2.1.2.2.2.2.2.1.2.1,r3.2.1.2.2.2.2.2.1.2.2),r3.2.1.2.2.2.2.2.2),((r3.2.2.1.1.1,r3.2.2.1.1.2.1,r3.2.2.1.1.2.2),(r3.2.2.1.2.1.1,r3.2.2.1.2.1.2.1,r3.2.2.1.2.1.2.2),(r3.2.2.1.2.2.1.1,r3.2.2.1.2.2.1.2.1,r3.2.2.1.2.2.1.2.2),r3.2.2.1.2.2.2),r3.2.2.2)).bind fun r15=>cond (!r15) (some false) ((Zq104 (r5.1,(r5.2.1.1,r5.2.1.2.1,r5.2.1.2.2.1,r11.2.2.1.2.2.2.1,r11.2.2.1.2.2.2.2.1,(r11.2.2.1.2.2.2.2.2.1.1,r11.2.2.1.2.2.2.2.2.1.2.1,r5.2.1.2.2.2.2.2.1.2.2),r5.2.1.2.2.2.2.2.2),((r11.2.2.2.1.1.1,r11.2.2.2.1.1.2.1,r5.2.2.1.1.2.2),(r11.2.2.2.1.2.1.1,r11.2.2.2.1.2.1.2.1,r5.2.2.1.2.1.2.2),(r11.2.2.2.1.2.2.1.1,r11.2.2.2.1.2.2.1.2.1,r5.2.2.1.2.2.1.2.2),r5.2.2.1.2.2.2),r5.2.2.2) 1).bind fun r16=>cond (decide (r16<0)) (some false) (cond (r16 != r11.1) (some false) (some true))))))))))
namespace Zq105
def G:Gam:=mkG [(14,Zq106.FS),(17,Zq107.FS),(51,Zq108.FS),(52,Zq31.FS),(53,Zq60.FS),(21,Zq58.FS),(23,Zq67.FS),(54,Zq83.FS),(55,Zq104.FS)]
def pts:List PT:=[.cs tDisk_]
def FS:FS:=mkFS [.sh] pts (fun x=>Zq105 x.1) fun t=>⟨[.cs .bool t],[]⟩
theorem ok:FsOk PR 8 FS:=
 fn_ok tbok hmix Proofs.Tryz.f8 ⟨[1],[],[],0⟩ .no (G:=G) (show GOk PR G from .cons Zq106.ok (.cons Zq107.ok (.cons Zq108.ok (.cons Zq31.ok (.cons Zq60.ok (.cons Zq58.ok (.cons Zq67.ok (.cons Zq83.ok (.cons Zq104.ok .nil))))))))) (L:=mkL []) (l:=[]) hT
  (fun x=>by simp only[Zq105,mC,mB,mS,mO,mN];kernel_rfl)
end Zq105
end Mf
