import Derived.Test.YtdmbfnplackmhaaGreatWorldFaultA1
noncomputable section
namespace Mf
open Go
set_option linter.unusedVariables false
set_option linter.unusedSimpArgs false
set_option maxRecDepth 100000
def Zq190.B (d:Disk_) (v2:Fs_) (many_:Int) (v:Int) (f_:Fs_):Option ((Int×Int×Fs_)⊕(((Int×Fs_)⊕(Int×Fs_)))):=
 cond (decide (v<10)) ((Zq123 d (w64 ((17:Int)+v))).bind fun r=>(Zq185 r).bind fun r2=>cond (r2.2 != 0) (some (.inr (.inl (r2.2,([],[],()))))) ((some (f_.1++([(r2.1.1,r2.1.2.1,r2.1.2.2.1,r2.1.2.2.2.1,r2.1.2.2.2.2.1,r2.1.2.2.2.2.2)]))).bind fun v3=>cond (decide (v3.length≤2147483648)) (cond (decide ((r.length:Int)>0)) (some (.inl (w64 (v+1),w64 (v+1),(v3,f_.2)))) (some (.inl (many_,w64 (v+1),(v3,f_.2))))) none)) (some (.inr (.inr (many_,f_))))
def Zq190 (d:Disk_) (v2:Fs_):(Int×Int×Fs_)→Option (((Int×Fs_)⊕(Int×Fs_))):=
 loopL fun s=>Zq190.B d v2 s.1 s.2.1 s.2.2
def Zq191.B (d:Disk_) (v4:Int) (r4:List Int) (v7:Int) (r5:List Int) (v8:Int) (v9:List Int) (r7:Bool) (v10:List Int) (v6:Int) (v5:Fs_) (v11:Int) (f_3:Fs_):Option ((Int×Fs_)⊕Fs_):=
 cond (decide (v11<v6)) (cond (inB v11 v10.length) (cond (inB v4 f_3.2.1.length) ((some ((f_3.2.1.getD v4.toNat [])++([IntKind.u8.wrap (v10.getD v11.toNat 0)]))).bind fun v12=>cond (decide (v12.length≤2147483648)) (cond (inB v4 f_3.2.1.length) (cond (Nat.beq v4.toNat v4.toNat&&true) (some (.inl (w64 (v11+1),(f_3.1,f_3.2.1.set v4.toNat v12,f_3.2.2)))) none) none) none) none) none) (some (.inr f_3))
def Zq191 (d:Disk_) (v4:Int) (r4:List Int) (v7:Int) (r5:List Int) (v8:Int) (v9:List Int) (r7:Bool) (v10:List Int) (v6:Int) (v5:Fs_):(Int×Fs_)→Option Fs_:=
 loopL fun s=>Zq191.B d v4 r4 v7 r5 v8 v9 r7 v10 v6 v5 s.1 s.2
def Zq192.B (d:Disk_) (r4:List Int) (v5:Fs_) (v4:Int) (f_2:Fs_):Option ((Int×Fs_)⊕(((Int×Fs_)⊕Fs_))):=
 cond (decide (v4<20)) (cond (inB v4 20) ((Zq123 d (w64 ((27:Int)+v4))).bind fun r5=>(Zq126 r5).bind fun r6=>cond (decide (r6<(r4.getD v4.toNat 0))) (some (.inr (.inl (5,([],[],()))))) (cond (decide ((0:Int)≤(r4.getD v4.toNat 0))&&decide ((r4.getD v4.toNat 0)≤(r5.length:Int))) ((Zq189 ((r5.take ((r4.getD v4.toNat 0).toNat)).drop 0) ()).bind fun r7=>cond r7 (some (.inr (.inl (5,([],[],()))))) (cond (decide ((0:Int)≤(r4.getD v4.toNat 0))&&decide ((r4.getD v4.toNat 0)≤(r5.length:Int))) ((some (((r5.take ((r4.getD v4.toNat 0).toNat)).drop 0).length:Int)).bind fun v6=>(Zq191 d v4 r4 v4 r5 (r4.getD v4.toNat 0) ((r5.take ((r4.getD v4.toNat 0).toNat)).drop 0) r7 ((r5.take ((r4.getD v4.toNat 0).toNat)).drop 0) v6 v5 (0,f_2)).bind fun o2=>some (.inl (w64 (v4+1),o2))) none)) none)) none) (some (.inr (.inr f_2)))
def Zq192 (d:Disk_) (r4:List Int) (v5:Fs_):(Int×Fs_)→Option (((Int×Fs_)⊕Fs_)):=
 loopL fun s=>Zq192.B d r4 v5 s.1 s.2
def Zq193 (d:Disk_):Option (Fs_×Int):=
 cond (decide ((0:Int)≤(20:Int))&&(decide ((20:Int)≤(20:Int))&&decide ((20:Int)≤2147483648))) ((Zq190 d ([],[],()) (0,0,([],List.replicate (20:Int).toNat ([]:List Int),()))).bind fun o=>sel o (fun b=>some ((b.2.1,b.2.2.1,b.2.2.2),b.1)) (fun c=>cond (decide ((0:Int)≤c.1)&&decide (c.1≤(c.2.1.length:Int))) ((Zq159 ((c.2.1.drop 0).take (c.1.toNat-0),c.2.2.1,c.2.2.2)).bind fun r3=>cond (r3 != 0) (some (([],[],()),r3)) ((Zq171 ((c.2.1.drop 0).take (c.1.toNat-0))).bind fun r4=>(Zq192 d r4 ([],[],()) (0,((c.2.1.drop 0).take (c.1.toNat-0),c.2.2))).bind fun o3=>sel o3 (fun b2=>some ((b2.2.1,b2.2.2.1,b2.2.2.2),b2.1)) (fun c2=>(Zq175 (c2.1,c2.2.1,c2.2.2)).bind fun r8=>some ((c2.1,c2.2.1,c2.2.2),r8)))) none)) none
namespace Zq193
def G:Gam:=mkG [(155,Zq123.FS),(197,Zq185.FS),(156,Zq159.FS),(177,Zq171.FS),(179,Zq126.FS),(195,Zq189.FS),(70,Zq175.FS)]
theorem Gok:GOk PR G:=.cons Zq123.ok (.cons Zq185.ok (.cons Zq159.ok (.cons Zq171.ok (.cons Zq126.ok (.cons Zq189.ok (.cons Zq175.ok .nil))))))
end Zq193
namespace Zq190
def c:=codeAt (bodyOf Proofs.Tryz.f117) [1,1,1,0,1,0,0]
def sp:SP:=⟨[(1,.pt tDisk_),(2,.loc 2 []),(4,.loc 4 []),(5,.cs I64),(18,.cs I64)],[(2,.mem,.cd tFs_),(4,.mem,.cd tFs_)]⟩
def out (d:Disk_) (v2:Fs_):FOut (((Int×Fs_)⊕(Int×Fs_))):=fun oo0 _ kk0=>sel oo0 (fun bb0=>kk0 (.rt) ⟨[(2,.loc 2 []),(3,.cs I64 bb0.1)],[(2,some ⟨.mem,.cd tFs_ bb0.2⟩)]⟩) (fun cc0=>kk0 (.ex 0) ⟨[(1,.pt tDisk_ d),(2,.loc 2 []),(4,.loc 4 []),(5,.cs I64 cc0.1)],[(2,some ⟨.mem,.cd tFs_ v2⟩),(4,some ⟨.mem,.cd tFs_ cc0.2⟩)]⟩)
def fr:=lfrag sp (fun x=>Zq190 x.1.1 x.2.1 (x.1.2.2.2.1,x.1.2.2.2.2.1,x.2.2.1)) fun x=>out x.1.1 x.2.1
theorem ok:CodeOk PR 103 1 (.loop c) fr:=
 lp_ok tbok hmix ⟨[1],[],[],0⟩ .no (G:=Zq193.G) Zq193.Gok (L:=mkL []) (l:=[]) hT [1,2,4,5,18] [2,4] [(0,([1,2,4,5],[2,4]))] ([2,3],[2]) (fun x s=>B x.1.1 x.2.1 s.1 s.2.1 s.2.2) (fun x s=>⟨[(1,.pt tDisk_ x.1.1),(2,.loc 2 []),(4,.loc 4 []),(5,.cs I64 s.1),(18,.cs I64 s.2.1)],[(2,some ⟨.mem,.cd tFs_ x.2.1⟩),(4,some ⟨.mem,.cd tFs_ s.2.2⟩)]⟩) (fun x=>(x.1.2.2.2.1,x.1.2.2.2.2.1,x.2.2.1))
  (fun x s=>by simp only[B,mC,mB,mS,mO,mN];kernel_rfl)
end Zq190
namespace Zq191
def c:=codeAt (bodyOf Proofs.Tryz.f117) [1,1,1,1,1,1,0,1,0,0,1,1,0,0,1,1,1,1,0,0]
def sp:SP:=⟨[(1,.pt tDisk_),(2,.loc 2 []),(4,.loc 4 []),(11,.cs I64),(58,.cs (.arr 20 I64)),(59,.cs I64),(71,.cs SI),(72,.cs I64),(73,.cs SI),(74,.cs .bool),(79,.cs SI),(80,.cs I64),(81,.cs I64)],[(2,.mem,.cd tFs_),(4,.mem,.cd tFs_)]⟩
def out (d:Disk_) (v4:Int) (r4:List Int) (v7:Int) (r5:List Int) (v8:Int) (v9:List Int) (r7:Bool) (v10:List Int) (v6:Int) (v5:Fs_):FOut Fs_:=fun bb0 _ kk0=>kk0 (.ex 4) ⟨[(1,.pt tDisk_ d),(2,.loc 2 []),(4,.loc 4 []),(58,.cs (.arr 20 I64) r4),(59,.cs I64 v7),(71,.cs SI r5),(72,.cs I64 v8),(73,.cs SI v9),(74,.cs .bool r7)],[(2,some ⟨.mem,.cd tFs_ v5⟩),(4,some ⟨.mem,.cd tFs_ bb0⟩)]⟩
def fr:=lfrag sp (fun x=>Zq191 x.1.1 x.1.2.2.2.1 x.1.2.2.2.2.1 x.1.2.2.2.2.2.1 x.1.2.2.2.2.2.2.1 x.1.2.2.2.2.2.2.2.1 x.1.2.2.2.2.2.2.2.2.1 x.1.2.2.2.2.2.2.2.2.2.1 x.1.2.2.2.2.2.2.2.2.2.2.1 x.1.2.2.2.2.2.2.2.2.2.2.2.1 x.2.1 (x.1.2.2.2.2.2.2.2.2.2.2.2.2.1,x.2.2.1)) fun x=>out x.1.1 x.1.2.2.2.1 x.1.2.2.2.2.1 x.1.2.2.2.2.2.1 x.1.2.2.2.2.2.2.1 x.1.2.2.2.2.2.2.2.1 x.1.2.2.2.2.2.2.2.2.1 x.1.2.2.2.2.2.2.2.2.2.1 x.1.2.2.2.2.2.2.2.2.2.2.1 x.1.2.2.2.2.2.2.2.2.2.2.2.1 x.2.1
theorem ok:CodeOk PR 103 1 (.loop c) fr:=
 lp_ok tbok hmix ⟨[1],[],[],0⟩ .no (G:=Zq193.G) Zq193.Gok (L:=mkL []) (l:=[]) hT [1,2,4,11,58,59,71,72,73,74,79,80,81] [2,4] [(4,([1,2,4,58,59,71,72,73,74],[2,4]))] ([],[]) (fun x s=>B x.1.1 x.1.2.2.2.1 x.1.2.2.2.2.1 x.1.2.2.2.2.2.1 x.1.2.2.2.2.2.2.1 x.1.2.2.2.2.2.2.2.1 x.1.2.2.2.2.2.2.2.2.1 x.1.2.2.2.2.2.2.2.2.2.1 x.1.2.2.2.2.2.2.2.2.2.2.1 x.1.2.2.2.2.2.2.2.2.2.2.2.1 x.2.1 s.1 s.2) (fun x s=>⟨[(1,.pt tDisk_ x.1.1),(2,.loc 2 []),(4,.loc 4 []),(11,.cs I64 x.1.2.2.2.1),(58,.cs (.arr 20 I64) x.1.2.2.2.2.1),(59,.cs I64 x.1.2.2.2.2.2.1),(71,.cs SI x.1.2.2.2.2.2.2.1),(72,.cs I64 x.1.2.2.2.2.2.2.2.1),(73,.cs SI x.1.2.2.2.2.2.2.2.2.1),(74,.cs .bool x.1.2.2.2.2.2.2.2.2.2.1),(79,.cs SI x.1.2.2.2.2.2.2.2.2.2.2.1),(80,.cs I64 x.1.2.2.2.2.2.2.2.2.2.2.2.1),(81,.cs I64 s.1)],[(2,some ⟨.mem,.cd tFs_ x.2.1⟩),(4,some ⟨.mem,.cd tFs_ s.2⟩)]⟩) (fun x=>(x.1.2.2.2.2.2.2.2.2.2.2.2.2.1,x.2.2.1))
  (fun x s=>by simp only[B,mC,mB,mS,mO,mN];kernel_rfl)
end Zq191
namespace Zq192
def c:=codeAt (bodyOf Proofs.Tryz.f117) [1,1,1,1,1,1,0,1,0,0]
def sp:SP:=⟨[(1,.pt tDisk_),(2,.loc 2 []),(4,.loc 4 []),(58,.cs (.arr 20 I64)),(59,.cs I64)],[(2,.mem,.cd tFs_),(4,.mem,.cd tFs_)]⟩
def out (d:Disk_) (r4:List Int) (v5:Fs_):FOut (((Int×Fs_)⊕Fs_)):=fun oo0 _ kk0=>sel oo0 (fun bb0=>kk0 (.rt) ⟨[(2,.loc 2 []),(3,.cs I64 bb0.1)],[(2,some ⟨.mem,.cd tFs_ bb0.2⟩)]⟩) (fun cc0=>kk0 (.ex 2) ⟨[(2,.loc 2 []),(4,.loc 4 [])],[(2,some ⟨.mem,.cd tFs_ v5⟩),(4,some ⟨.mem,.cd tFs_ cc0⟩)]⟩)
def fr:=lfrag sp (fun x=>Zq192 x.1.1 x.1.2.2.2.1 x.2.1 (x.1.2.2.2.2.1,x.2.2.1)) fun x=>out x.1.1 x.1.2.2.2.1 x.2.1
theorem ok:CodeOk PR 103 1 (.loop c) fr:=
 lp_ok tbok hmix ⟨[1],[],[],0⟩ (.R (.R (.L (.one (.R (.R (.R (.R (.one (.fr 2)))))))))) (G:=Zq193.G) Zq193.Gok (L:=mkL [(2,Zq191.fr)]) (l:=[(2,.loop Zq191.c)]) ⟨Lam.cons Zq191.ok,trivial⟩ [1,2,4,58,59] [2,4] [(2,([2,4],[2,4]))] ([2,3],[2]) (fun x s=>B x.1.1 x.1.2.2.2.1 x.2.1 s.1 s.2) (fun x s=>⟨[(1,.pt tDisk_ x.1.1),(2,.loc 2 []),(4,.loc 4 []),(58,.cs (.arr 20 I64) x.1.2.2.2.1),(59,.cs I64 s.1)],[(2,some ⟨.mem,.cd tFs_ x.2.1⟩),(4,some ⟨.mem,.cd tFs_ s.2⟩)]⟩) (fun x=>(x.1.2.2.2.2.1,x.2.2.1))
  (fun x s=>by simp only[B,mC,mB,mS,mO,mN];kernel_rfl)
end Zq192
namespace Zq193
def pts:List PT:=[.cs tDisk_]
def FS:FS:=mkFS [.sh] pts (fun x=>Zq193 x.1) fun t=>⟨[.cd tFs_ t.1,.cs I64 t.2],[]⟩
theorem ok:FsOk PR 117 FS:=
 fn_ok tbok hmix Proofs.Tryz.f117 ⟨[1],[],[],0⟩ (.R (.R (.R (.two (.R (.one (.fr 0))) (.R (.R (.L (.R (.one (.fr 1)))))))))) (G:=G) Gok (L:=mkL [(0,Zq190.fr),(2,Zq191.fr),(1,Zq192.fr)]) (l:=[(0,.loop Zq190.c),(1,.loop Zq192.c)]) ⟨Lam.cons Zq190.ok,Lam.skip rfl (Lam.skip rfl (Lam.cons Zq192.ok)),trivial⟩
  (fun x=>by simp only[Zq193,mC,mB,mS,mO,mN];kernel_rfl)
end Zq193
def Zq194.B (s1:List Entry_) (s2:List Entry_) (v:Int) (v2:Int):Option (Int⊕((Bool⊕Unit))):=
 cond (decide (v2<v)) (cond (inB v2 s1.length) (cond (inB v2 s2.length) ((some (!(((s1.getD v2.toNat zEntry_).1 == (s2.getD v2.toNat zEntry_).1)&&(((s1.getD v2.toNat zEntry_).2.1 == (s2.getD v2.toNat zEntry_).2.1)&&true)))).bind fun v3=>cond v3 (some (.inr (.inl false))) (some (.inl (w64 (v2+1))))) none) none) (some (.inr (.inr ())))
def Zq194 (s1:List Entry_) (s2:List Entry_) (v:Int):Int→Option ((Bool⊕Unit)):=
 loopL fun s=>Zq194.B s1 s2 v s
def Zq195 (s1:List Entry_) (s2:List Entry_):Option Bool:=
 cond ((s1.length:Int) != (s2.length:Int)) (some false) ((Zq194 s1 s2 (s1.length:Int) 0).bind fun o=>sel o (fun b=>some b) (fun c=>some true))
namespace Zq194
def c:=codeAt (bodyOf Proofs.Tryz.f186) [1,1,0,1,0,0]
def sp:SP:=⟨[(0,.cs (.sl tEntry_)),(1,.cs (.sl tEntry_)),(12,.cs I64),(13,.cs I64)],[]⟩
def out (s1:List Entry_) (s2:List Entry_) (v:Int):FOut ((Bool⊕Unit)):=fun oo0 _ kk0=>sel oo0 (fun bb0=>kk0 (.rt) ⟨[(4,.cs .bool bb0)],[]⟩) (fun cc0=>kk0 (.ex 0) ⟨[],[]⟩)
def fr:=lfrag sp (fun x=>Zq194 x.1.1 x.1.2.1 x.1.2.2.1 x.1.2.2.2.1) fun x=>out x.1.1 x.1.2.1 x.1.2.2.1
theorem ok:CodeOk PR 26 2 (.loop c) fr:=
 lp_ok tbok hmix h0 .no (G:=(mkG [])) .nil (L:=mkL []) (l:=[]) hT [0,1,12,13] [] [(0,([],[]))] ([4],[]) (fun x s=>B x.1.1 x.1.2.1 x.1.2.2.1 s) (fun x s=>⟨[(0,.cs (.sl tEntry_) x.1.1),(1,.cs (.sl tEntry_) x.1.2.1),(12,.cs I64 x.1.2.2.1),(13,.cs I64 s)],[]⟩) (fun x=>x.1.2.2.2.1)
  (fun x s=>by simp only[B,mC,mB,mS,mO,mN];kernel_rfl)
end Zq194
namespace Zq195
def pts:List PT:=[.cs (.sl tEntry_),.cs (.sl tEntry_)]
def FS:FS:=mkFS [.sh,.sh] pts (fun x=>Zq195 x.1 x.2.1) fun t=>⟨[.cs .bool t],[]⟩
theorem ok:FsOk PR 186 FS:=
 fn_ok tbok hmix Proofs.Tryz.f186 h0 (.R (.R (.L (.R (.one (.fr 0)))))) (G:=(mkG [])) .nil (L:=mkL [(0,Zq194.fr)]) (l:=[(0,.loop Zq194.c)]) ⟨Lam.cons Zq194.ok,trivial⟩
  (fun x=>by simp only[Zq195,mC,mB,mS,mO,mN];kernel_rfl)
end Zq195
def Zq196 (a:Inode_) (b:Inode_):Option Bool:=
 (some (cond (cond (a.1 == b.1) (a.2.1 == b.2.1) false) (a.2.2.1 == b.2.2.1) false)).bind fun v=>cond v ((Zq184 a.2.2.2.1 b.2.2.2.1).bind fun r=>cond r ((Zq195 a.2.2.2.2.1 b.2.2.2.2.1).bind fun r2=>some r2) (some false)) (some false)
namespace Zq196
def G:Gam:=mkG [(185,Zq184.FS),(186,Zq195.FS)]
def pts:List PT:=[.cs tInode_,.cs tInode_]
def FS:FS:=mkFS [.sh,.sh] pts (fun x=>Zq196 x.1 x.2.1) fun t=>⟨[.cs .bool t],[]⟩
theorem ok:FsOk PR 92 FS:=
 fn_ok tbok hmix Proofs.Tryz.f92 ⟨[2,3],[],[],0⟩ .no (G:=G) (show GOk PR G from .cons Zq184.ok (.cons Zq195.ok .nil)) (L:=mkL []) (l:=[]) hT
  (fun x=>by simp only[Zq196,mC,mB,mS,mO,mN];kernel_rfl)
end Zq196
def Zq197.B (s2:List Inode_) (eq:Unit) (s1:List Inode_) (v:Int) (v2:Int):Option (Int⊕((Bool⊕Unit))):=
 cond (decide (v2<v)) (cond (inB v2 s1.length) (cond (inB v2 s2.length) ((Zq196 (s1.getD v2.toNat zInode_) (s2.getD v2.toNat zInode_)).bind fun r=>cond (!r) (some (.inr (.inl false))) (some (.inl (w64 (v2+1))))) none) none) (some (.inr (.inr ())))
def Zq197 (s2:List Inode_) (eq:Unit) (s1:List Inode_) (v:Int):Int→Option ((Bool⊕Unit)):=
 loopL fun s=>Zq197.B s2 eq s1 v s
def Zq198 (s1:List Inode_) (s2:List Inode_) (eq:Unit):Option Bool:=
 cond ((s1.length:Int) != (s2.length:Int)) (some false) ((Zq197 s2 eq s1 (s1.length:Int) 0).bind fun o=>sel o (fun b=>some b) (fun c=>some true))
namespace Zq198
def G:Gam:=mkG [(92,Zq196.FS)]
theorem Gok:GOk PR G:=.cons Zq196.ok .nil
end Zq198
namespace Zq197
def c:=codeAt (bodyOf Proofs.Tryz.f91) [1,1,0,1,0,0]
def sp:SP:=⟨[(1,.cs (.sl tInode_)),(2,.clo 92 (.cs .unit)),(15,.cs (.sl tInode_)),(16,.cs I64),(17,.cs I64)],[]⟩
def out (s2:List Inode_) (eq:Unit) (s1:List Inode_) (v:Int):FOut ((Bool⊕Unit)):=fun oo0 _ kk0=>sel oo0 (fun bb0=>kk0 (.rt) ⟨[(6,.cs .bool bb0)],[]⟩) (fun cc0=>kk0 (.ex 0) ⟨[],[]⟩)
def fr:=lfrag sp (fun x=>Zq197 x.1.1 x.1.2.1 x.1.2.2.1 x.1.2.2.2.1 x.1.2.2.2.2.1) fun x=>out x.1.1 x.1.2.1 x.1.2.2.1 x.1.2.2.2.1
theorem ok:CodeOk PR 32 3 (.loop c) fr:=
 lp_ok tbok hmix h0 .no (G:=Zq198.G) Zq198.Gok (L:=mkL []) (l:=[]) hT [1,2,15,16,17] [] [(0,([],[]))] ([6],[]) (fun x s=>B x.1.1 x.1.2.1 x.1.2.2.1 x.1.2.2.2.1 s) (fun x s=>⟨[(1,.cs (.sl tInode_) x.1.1),(2,.clo 92 (.cs .unit x.1.2.1)),(15,.cs (.sl tInode_) x.1.2.2.1),(16,.cs I64 x.1.2.2.2.1),(17,.cs I64 s)],[]⟩) (fun x=>x.1.2.2.2.2.1)
  (fun x s=>by simp only[B,mC,mB,mS,mO,mN];kernel_rfl)
end Zq197
namespace Zq198
def pts:List PT:=[.cs (.sl tInode_),.cs (.sl tInode_),.clo 92 (.cs .unit)]
def FS:FS:=mkFS [.sh,.sh,.sh] pts (fun x=>Zq198 x.1 x.2.1 x.2.2.1) fun t=>⟨[.cs .bool t],[]⟩
theorem ok:FsOk PR 91 FS:=
 fn_ok tbok hmix Proofs.Tryz.f91 h0 (.R (.R (.L (.R (.one (.fr 0)))))) (G:=G) Gok (L:=mkL [(0,Zq197.fr)]) (l:=[(0,.loop Zq197.c)]) ⟨Lam.cons Zq197.ok,trivial⟩
  (fun x=>by simp only[Zq198,mC,mB,mS,mO,mN];kernel_rfl)
end Zq198
def Zq199 (a:List Int) (b:List Int):Option Bool:=
 (some ((a.map fun n=>UInt8.ofNat n.toNat) == (b.map fun n=>UInt8.ofNat n.toNat))).bind fun v=>some v
namespace Zq199
def pts:List PT:=[.cs SB,.cs SB]
def FS:FS:=mkFS [.sh,.sh] pts (fun x=>Zq199 x.1 x.2.1) fun t=>⟨[.cs .bool t],[]⟩
theorem ok:FsOk PR 94 FS:=
 fn_ok tbok hmix Proofs.Tryz.f94 h0 .no (G:=(mkG [])) .nil (L:=mkL []) (l:=[]) hT
  (fun x=>by simp only[Zq199,mC,mB,mS,mO,mN];kernel_rfl)
end Zq199
def Zq200.B (s2:List (List Int)) (eq:Unit) (s1:List (List Int)) (v:Int) (v2:Int):Option (Int⊕((Bool⊕Unit))):=
 cond (decide (v2<v)) (cond (inB v2 s1.length) (cond (inB v2 s2.length) ((Zq199 (s1.getD v2.toNat []) (s2.getD v2.toNat [])).bind fun r=>cond (!r) (some (.inr (.inl false))) (some (.inl (w64 (v2+1))))) none) none) (some (.inr (.inr ())))
def Zq200 (s2:List (List Int)) (eq:Unit) (s1:List (List Int)) (v:Int):Int→Option ((Bool⊕Unit)):=
 loopL fun s=>Zq200.B s2 eq s1 v s
def Zq201 (s1:List (List Int)) (s2:List (List Int)) (eq:Unit):Option Bool:=
 cond ((s1.length:Int) != (s2.length:Int)) (some false) ((Zq200 s2 eq s1 (s1.length:Int) 0).bind fun o=>sel o (fun b=>some b) (fun c=>some true))
namespace Zq201
def G:Gam:=mkG [(94,Zq199.FS)]
theorem Gok:GOk PR G:=.cons Zq199.ok .nil
end Zq201
namespace Zq200
def c:=codeAt (bodyOf Proofs.Tryz.f93) [1,1,0,1,0,0]
def sp:SP:=⟨[(1,.cs (.sl SB)),(2,.clo 94 (.cs .unit)),(15,.cs (.sl SB)),(16,.cs I64),(17,.cs I64)],[]⟩
def out (s2:List (List Int)) (eq:Unit) (s1:List (List Int)) (v:Int):FOut ((Bool⊕Unit)):=fun oo0 _ kk0=>sel oo0 (fun bb0=>kk0 (.rt) ⟨[(6,.cs .bool bb0)],[]⟩) (fun cc0=>kk0 (.ex 0) ⟨[],[]⟩)
def fr:=lfrag sp (fun x=>Zq200 x.1.1 x.1.2.1 x.1.2.2.1 x.1.2.2.2.1 x.1.2.2.2.2.1) fun x=>out x.1.1 x.1.2.1 x.1.2.2.1 x.1.2.2.2.1
theorem ok:CodeOk PR 32 3 (.loop c) fr:=
 lp_ok tbok hmix h0 .no (G:=Zq201.G) Zq201.Gok (L:=mkL []) (l:=[]) hT [1,2,15,16,17] [] [(0,([],[]))] ([6],[]) (fun x s=>B x.1.1 x.1.2.1 x.1.2.2.1 x.1.2.2.2.1 s) (fun x s=>⟨[(1,.cs (.sl SB) x.1.1),(2,.clo 94 (.cs .unit x.1.2.1)),(15,.cs (.sl SB) x.1.2.2.1),(16,.cs I64 x.1.2.2.2.1),(17,.cs I64 s)],[]⟩) (fun x=>x.1.2.2.2.2.1)
  (fun x s=>by simp only[B,mC,mB,mS,mO,mN];kernel_rfl)
end Zq200
namespace Zq201
def pts:List PT:=[.cs (.sl SB),.cs (.sl SB),.clo 94 (.cs .unit)]
def FS:FS:=mkFS [.sh,.sh,.sh] pts (fun x=>Zq201 x.1 x.2.1 x.2.2.1) fun t=>⟨[.cs .bool t],[]⟩
theorem ok:FsOk PR 93 FS:=
 fn_ok tbok hmix Proofs.Tryz.f93 h0 (.R (.R (.L (.R (.one (.fr 0)))))) (G:=G) Gok (L:=mkL [(0,Zq200.fr)]) (l:=[(0,.loop Zq200.c)]) ⟨Lam.cons Zq200.ok,trivial⟩
  (fun x=>by simp only[Zq201,mC,mB,mS,mO,mN];kernel_rfl)
end Zq201
def Zq202 (a:Fs_) (b:Fs_):Option Bool:=
 (Zq198 a.1 b.1 ()).bind fun r=>cond r ((Zq201 a.2.1 b.2.1 ()).bind fun r2=>some r2) (some false)
namespace Zq202
def G:Gam:=mkG [(91,Zq198.FS),(93,Zq201.FS)]
def pts:List PT:=[.cs tFs_,.cs tFs_]
def FS:FS:=mkFS [.sh,.sh] pts (fun x=>Zq202 x.1 x.2.1) fun t=>⟨[.cs .bool t],[]⟩
theorem ok:FsOk PR 33 FS:=
 fn_ok tbok hmix Proofs.Tryz.f33 ⟨[2,3],[],[],0⟩ .no (G:=G) (show GOk PR G from .cons Zq198.ok (.cons Zq201.ok .nil)) (L:=mkL []) (l:=[]) hT
  (fun x=>by simp only[Zq202,mC,mB,mS,mO,mN];kernel_rfl)
end Zq202
def Zq203.B (w:World_) (v:Int) (v3:List Int) (v4:Bool) (v5:Unit) (v6:List Int) (v7:Bool) (v8:Unit) (v2:Int):Option (Int⊕((Int⊕Unit))):=
 cond (decide (v2<v)) (cond (inB v2 v3.length) ((Zq134 v6 (v3.getD v2.toNat 0)).bind fun r8=>cond r8 (cond (inB (v3.getD v2.toNat 0) w.2.1.2.1.length) (cond (inB (v3.getD v2.toNat 0) w.2.2.1.2.1.length) ((Zq199 (w.2.1.2.1.getD (v3.getD v2.toNat 0).toNat []) (w.2.2.1.2.1.getD (v3.getD v2.toNat 0).toNat [])).bind fun r9=>cond (!r9) (some (.inr (.inl 10))) (some (.inl (w64 (v2+1))))) none) none) (some (.inl (w64 (v2+1))))) none) (some (.inr (.inr ())))
def Zq203 (w:World_) (v:Int) (v3:List Int) (v4:Bool) (v5:Unit) (v6:List Int) (v7:Bool) (v8:Unit):Int→Option ((Int⊕Unit)):=
 loopL fun s=>Zq203.B w v v3 v4 v5 v6 v7 v8 s
def Zq204 (w:World_):Option Int:=
 (Zq125 w.1).bind fun r=>cond (r.2 == 0) ((Zq175 w.2.1).bind fun r2=>cond (r2 == 0) ((Zq175 w.2.2.1).bind fun r3=>cond (r3 != 0) (some r3) (cond (decide ((w.1.2.1.length:Int)>0)) (some 1) ((Zq193 w.1).bind fun r4=>cond (r4.2 != 0) (some 10) ((Zq202 (r4.1.1,r4.1.2.1,r4.1.2.2) w.2.2.1).bind fun r5=>cond (!r5) (some 10) ((Zq155 w.2.1.1).bind fun r6=>(Zq155 w.2.2.1.1).bind fun r7=>(Zq203 w (r6.1.length:Int) r6.1 r6.2 () r7.1 r7.2 () 0).bind fun o=>sel o (fun b=>some b) (fun c=>some 0)))))) (cond (r2 != 0) (some r2) (cond (decide ((w.1.2.1.length:Int)>0)) (some 1) ((Zq193 w.1).bind fun r10=>cond (r10.2 != 0) (some 10) ((Zq202 (r10.1.1,r10.1.2.1,r10.1.2.2) w.2.2.1).bind fun r11=>cond (!r11) (some 10) ((Zq155 w.2.1.1).bind fun r12=>(Zq155 w.2.2.1.1).bind fun r13=>(Zq203 w (r12.1.length:Int) r12.1 r12.2 () r13.1 r13.2 () 0).bind fun o2=>sel o2 (fun b2=>some b2) (fun c2=>some 0))))))) (cond (r.2 == 0) ((Zq175 w.2.2.1).bind fun r14=>cond (r14 != 0) (some r14) (cond (decide ((w.1.2.1.length:Int)>0)) (some 1) ((Zq193 w.1).bind fun r15=>cond (r15.2 != 0) (some 10) ((Zq202 (r15.1.1,r15.1.2.1,r15.1.2.2) w.2.2.1).bind fun r16=>cond (!r16) (some 10) ((Zq155 w.2.1.1).bind fun r17=>(Zq155 w.2.2.1.1).bind fun r18=>(Zq203 w (r17.1.length:Int) r17.1 r17.2 () r18.1 r18.2 () 0).bind fun o3=>sel o3 (fun b3=>some b3) (fun c3=>some 0)))))) (cond (r.2 != 0) (some r.2) (cond (decide ((w.1.2.1.length:Int)>0)) (some 1) ((Zq193 w.1).bind fun r19=>cond (r19.2 != 0) (some 10) ((Zq202 (r19.1.1,r19.1.2.1,r19.1.2.2) w.2.2.1).bind fun r20=>cond (!r20) (some 10) ((Zq155 w.2.1.1).bind fun r21=>(Zq155 w.2.2.1.1).bind fun r22=>(Zq203 w (r21.1.length:Int) r21.1 r21.2 () r22.1 r22.2 () 0).bind fun o4=>sel o4 (fun b4=>some b4) (fun c4=>some 0)))))))
namespace Zq204
def G:Gam:=mkG [(69,Zq125.FS),(70,Zq175.FS),(117,Zq193.FS),(33,Zq202.FS),(102,Zq155.FS),(135,Zq134.FS),(94,Zq199.FS)]
theorem Gok:GOk PR G:=.cons Zq125.ok (.cons Zq175.ok (.cons Zq193.ok (.cons Zq202.ok (.cons Zq155.ok (.cons Zq134.ok (.cons Zq199.ok .nil))))))
end Zq204
namespace Zq203
def c:=codeAt (bodyOf Proofs.Tryz.f57) [1,1,1,1,1,1,1,1,1,1,0,1,0,0]
def sp:SP:=⟨[(1,.pt tWorld_),(8,.seg 62 [.f1]),(65,.seg 55 [.f1]),(66,.cs I64),(67,.cs I64)],[(55,.reg,.pr (.cd SI) (.pr (.cs .bool) (.cs .unit))),(62,.reg,.pr (.cd SI) (.pr (.cs .bool) (.cs .unit)))]⟩
def out (w:World_) (v:Int) (v3:List Int) (v4:Bool) (v5:Unit) (v6:List Int) (v7:Bool) (v8:Unit):FOut ((Int⊕Unit)):=fun oo0 _ kk0=>sel oo0 (fun bb0=>kk0 (.rt) ⟨[(2,.cs I64 bb0)],[]⟩) (fun cc0=>kk0 (.ex 0) ⟨[],[]⟩)
def fr:=lfrag sp (fun x=>Zq203 x.1.1 x.1.2.2.2.1 x.2.1.1 x.2.1.2.1 x.2.1.2.2 x.2.2.1.1 x.2.2.1.2.1 x.2.2.1.2.2 x.1.2.2.2.2.1) fun x=>out x.1.1 x.1.2.2.2.1 x.2.1.1 x.2.1.2.1 x.2.1.2.2 x.2.2.1.1 x.2.2.1.2.1 x.2.2.1.2.2
theorem ok:CodeOk PR 91 1 (.loop c) fr:=
 lp_ok tbok hmix ⟨[1],[],[],0⟩ .no (G:=Zq204.G) Zq204.Gok (L:=mkL []) (l:=[]) hT [1,8,65,66,67] [55,62] [(0,([],[]))] ([2],[]) (fun x s=>B x.1.1 x.1.2.2.2.1 x.2.1.1 x.2.1.2.1 x.2.1.2.2 x.2.2.1.1 x.2.2.1.2.1 x.2.2.1.2.2 s) (fun x s=>⟨[(1,.pt tWorld_ x.1.1),(8,.seg 62 [.f1]),(65,.seg 55 [.f1]),(66,.cs I64 x.1.2.2.2.1),(67,.cs I64 s)],[(55,some ⟨.reg,.pr (.cd SI x.2.1.1) (.pr (.cs .bool x.2.1.2.1) (.cs .unit x.2.1.2.2))⟩),(62,some ⟨.reg,.pr (.cd SI x.2.2.1.1) (.pr (.cs .bool x.2.2.1.2.1) (.cs .unit x.2.2.1.2.2))⟩)]⟩) (fun x=>x.1.2.2.2.2.1)
  (fun x s=>by simp only[B,mC,mB,mS,mO,mN];kernel_rfl)
end Zq203
namespace Zq204
def pts:List PT:=[.cs tWorld_]
def FS:FS:=mkFS [.sh] pts (fun x=>Zq204 x.1) fun t=>⟨[.cs I64 t],[]⟩
theorem ok:FsOk PR 57 FS:=
 fn_ok tbok hmix Proofs.Tryz.f57 ⟨[1],[],[],0⟩ (.R (.R (.R (.R (.R (.R (.R (.R (.R (.R (.L (.R (.one (.fr 0)))))))))))))) (G:=G) Gok (L:=mkL [(0,Zq203.fr)]) (l:=[(0,.loop Zq203.c)]) ⟨Lam.cons Zq203.ok,trivial⟩
  (fun x=>by simp only[Zq204,mC,mB,mS,mO,mN];kernel_rfl)
end Zq204
def Zq205 (w:World_):Option Int:=
 (Zq204 w).bind fun r=>some r
namespace Zq205
def G:Gam:=mkG [(57,Zq204.FS)]
def pts:List PT:=[.cs tWorld_]
def FS:FS:=mkFS [.sh] pts (fun x=>Zq205 x.1) fun t=>⟨[.cs I64 t],[]⟩
theorem ok:FsOk PR 12 FS:=
 fn_ok tbok hmix Proofs.Tryz.f12 ⟨[1],[],[],0⟩ .no (G:=G) (show GOk PR G from .cons Zq204.ok .nil) (L:=mkL []) (l:=[]) hT
  (fun x=>by simp only[Zq205,mC,mB,mS,mO,mN];kernel_rfl)
end Zq205
def Zq206.B (a:List Int) (b:List Int) (i_:Int):Option (Int⊕((Bool⊕Unit))):=
 cond (decide (i_<(a.length:Int))) (cond (inB i_ a.length) (cond (inB i_ b.length) (cond ((a.getD i_.toNat 0) != (b.getD i_.toNat 0)) (some (.inr (.inl false))) (some (.inl (w64 (i_+1))))) none) none) (some (.inr (.inr ())))
def Zq206 (a:List Int) (b:List Int):Int→Option ((Bool⊕Unit)):=
 loopL fun s=>Zq206.B a b s
def Zq207 (a:List Int) (b:List Int):Option Bool:=
 cond ((a.length:Int) != (b.length:Int)) (some false) ((Zq206 a b 0).bind fun o=>sel o (fun b2=>some b2) (fun c=>some true))
namespace Zq206
def c:=codeAt (bodyOf Proofs.Tryz.f95) [1,1,0,1,0,0]
def sp:SP:=⟨[(0,.cs SI),(1,.cs SI),(5,.cs I64)],[]⟩
def out (a:List Int) (b:List Int):FOut ((Bool⊕Unit)):=fun oo0 _ kk0=>sel oo0 (fun bb0=>kk0 (.rt) ⟨[(4,.cs .bool bb0)],[]⟩) (fun cc0=>kk0 (.ex 0) ⟨[],[]⟩)
def fr:=lfrag sp (fun x=>Zq206 x.1.1 x.1.2.1 x.1.2.2.1) fun x=>out x.1.1 x.1.2.1
theorem ok:CodeOk PR 26 2 (.loop c) fr:=
 lp_ok tbok hmix h0 .no (G:=(mkG [])) .nil (L:=mkL []) (l:=[]) hT [0,1,5] [] [(0,([],[]))] ([4],[]) (fun x s=>B x.1.1 x.1.2.1 s) (fun x s=>⟨[(0,.cs SI x.1.1),(1,.cs SI x.1.2.1),(5,.cs I64 s)],[]⟩) (fun x=>x.1.2.2.1)
  (fun x s=>by simp only[B,mC,mB,mS,mO,mN];kernel_rfl)
end Zq206
namespace Zq207
def pts:List PT:=[.cs SI,.cs SI]
def FS:FS:=mkFS [.sh,.sh] pts (fun x=>Zq207 x.1 x.2.1) fun t=>⟨[.cs .bool t],[]⟩
theorem ok:FsOk PR 95 FS:=
 fn_ok tbok hmix Proofs.Tryz.f95 h0 (.R (.R (.L (.R (.one (.fr 0)))))) (G:=(mkG [])) .nil (L:=mkL [(0,Zq206.fr)]) (l:=[(0,.loop Zq206.c)]) ⟨Lam.cons Zq206.ok,trivial⟩
  (fun x=>by simp only[Zq207,mC,mB,mS,mO,mN];kernel_rfl)
end Zq207
def Zq208.B (a:List (List Int)) (b:List (List Int)) (i_:Int):Option (Int⊕((Bool⊕Unit))):=
 cond (decide (i_<(a.length:Int))) (cond (inB i_ a.length) (cond (inB i_ b.length) ((Zq207 (a.getD i_.toNat []) (b.getD i_.toNat [])).bind fun r=>cond (!r) (some (.inr (.inl false))) (some (.inl (w64 (i_+1))))) none) none) (some (.inr (.inr ())))
def Zq208 (a:List (List Int)) (b:List (List Int)):Int→Option ((Bool⊕Unit)):=
 loopL fun s=>Zq208.B a b s
def Zq209 (a:List (List Int)) (b:List (List Int)):Option Bool:=
 cond ((a.length:Int) != (b.length:Int)) (some false) ((Zq208 a b 0).bind fun o=>sel o (fun b2=>some b2) (fun c=>some true))
namespace Zq209
def G:Gam:=mkG [(95,Zq207.FS)]
theorem Gok:GOk PR G:=.cons Zq207.ok .nil
end Zq209
namespace Zq208
def c:=codeAt (bodyOf Proofs.Tryz.f73) [1,1,0,1,0,0]
def sp:SP:=⟨[(0,.cs (.sl SI)),(1,.cs (.sl SI)),(5,.cs I64)],[]⟩
def out (a:List (List Int)) (b:List (List Int)):FOut ((Bool⊕Unit)):=fun oo0 _ kk0=>sel oo0 (fun bb0=>kk0 (.rt) ⟨[(4,.cs .bool bb0)],[]⟩) (fun cc0=>kk0 (.ex 0) ⟨[],[]⟩)
def fr:=lfrag sp (fun x=>Zq208 x.1.1 x.1.2.1 x.1.2.2.1) fun x=>out x.1.1 x.1.2.1
theorem ok:CodeOk PR 27 2 (.loop c) fr:=
 lp_ok tbok hmix h0 .no (G:=Zq209.G) Zq209.Gok (L:=mkL []) (l:=[]) hT [0,1,5] [] [(0,([],[]))] ([4],[]) (fun x s=>B x.1.1 x.1.2.1 s) (fun x s=>⟨[(0,.cs (.sl SI) x.1.1),(1,.cs (.sl SI) x.1.2.1),(5,.cs I64 s)],[]⟩) (fun x=>x.1.2.2.1)
  (fun x s=>by simp only[B,mC,mB,mS,mO,mN];kernel_rfl)
end Zq208
namespace Zq209
def pts:List PT:=[.cs (.sl SI),.cs (.sl SI)]
def FS:FS:=mkFS [.sh,.sh] pts (fun x=>Zq209 x.1 x.2.1) fun t=>⟨[.cs .bool t],[]⟩
theorem ok:FsOk PR 73 FS:=
 fn_ok tbok hmix Proofs.Tryz.f73 h0 (.R (.R (.L (.R (.one (.fr 0)))))) (G:=G) Gok (L:=mkL [(0,Zq208.fr)]) (l:=[(0,.loop Zq208.c)]) ⟨Lam.cons Zq208.ok,trivial⟩
  (fun x=>by simp only[Zq209,mC,mB,mS,mO,mN];kernel_rfl)
end Zq209
def Zq210 (a:Put_) (b:Put_):Option Bool:=
 cond (a.1 != b.1) (some false) ((Zq207 a.2.1 b.2.1).bind fun r=>cond (!r) (some false) (some true))
namespace Zq210
def G:Gam:=mkG [(95,Zq207.FS)]
def pts:List PT:=[.cs tPut_,.cs tPut_]
def FS:FS:=mkFS [.sh,.sh] pts (fun x=>Zq210 x.1 x.2.1) fun t=>⟨[.cs .bool t],[]⟩
theorem ok:FsOk PR 164 FS:=
 fn_ok tbok hmix Proofs.Tryz.f164 ⟨[2,3],[],[],0⟩ .no (G:=G) (show GOk PR G from .cons Zq207.ok .nil) (L:=mkL []) (l:=[]) hT
  (fun x=>by simp only[Zq210,mC,mB,mS,mO,mN];kernel_rfl)
end Zq210
def Zq211.B (a:List Put_) (b:List Put_) (i_:Int):Option (Int⊕((Bool⊕Unit))):=
 cond (decide (i_<(a.length:Int))) (cond (inB i_ a.length) (cond (inB i_ b.length) ((Zq210 (a.getD i_.toNat zPut_) (b.getD i_.toNat zPut_)).bind fun r=>cond (!r) (some (.inr (.inl false))) (some (.inl (w64 (i_+1))))) none) none) (some (.inr (.inr ())))
def Zq211 (a:List Put_) (b:List Put_):Int→Option ((Bool⊕Unit)):=
 loopL fun s=>Zq211.B a b s
def Zq212 (a:List Put_) (b:List Put_):Option Bool:=
 cond ((a.length:Int) != (b.length:Int)) (some false) ((Zq211 a b 0).bind fun o=>sel o (fun b2=>some b2) (fun c=>some true))
namespace Zq212
def G:Gam:=mkG [(164,Zq210.FS)]
theorem Gok:GOk PR G:=.cons Zq210.ok .nil
end Zq212
namespace Zq211
def c:=codeAt (bodyOf Proofs.Tryz.f74) [1,1,0,1,0,0]
def sp:SP:=⟨[(0,.cs (.sl tPut_)),(1,.cs (.sl tPut_)),(5,.cs I64)],[]⟩
def out (a:List Put_) (b:List Put_):FOut ((Bool⊕Unit)):=fun oo0 _ kk0=>sel oo0 (fun bb0=>kk0 (.rt) ⟨[(4,.cs .bool bb0)],[]⟩) (fun cc0=>kk0 (.ex 0) ⟨[],[]⟩)
def fr:=lfrag sp (fun x=>Zq211 x.1.1 x.1.2.1 x.1.2.2.1) fun x=>out x.1.1 x.1.2.1
theorem ok:CodeOk PR 27 2 (.loop c) fr:=
 lp_ok tbok hmix h0 .no (G:=Zq212.G) Zq212.Gok (L:=mkL []) (l:=[]) hT [0,1,5] [] [(0,([],[]))] ([4],[]) (fun x s=>B x.1.1 x.1.2.1 s) (fun x s=>⟨[(0,.cs (.sl tPut_) x.1.1),(1,.cs (.sl tPut_) x.1.2.1),(5,.cs I64 s)],[]⟩) (fun x=>x.1.2.2.1)
  (fun x s=>by simp only[B,mC,mB,mS,mO,mN];kernel_rfl)
end Zq211
namespace Zq212
def pts:List PT:=[.cs (.sl tPut_),.cs (.sl tPut_)]
def FS:FS:=mkFS [.sh,.sh] pts (fun x=>Zq212 x.1 x.2.1) fun t=>⟨[.cs .bool t],[]⟩
theorem ok:FsOk PR 74 FS:=
 fn_ok tbok hmix Proofs.Tryz.f74 h0 (.R (.R (.L (.R (.one (.fr 0)))))) (G:=G) Gok (L:=mkL [(0,Zq211.fr)]) (l:=[(0,.loop Zq211.c)]) ⟨Lam.cons Zq211.ok,trivial⟩
  (fun x=>by simp only[Zq212,mC,mB,mS,mO,mN];kernel_rfl)
end Zq212
def Zq213 (a:Disk_) (b:Disk_):Option Bool:=
 (Zq209 a.1 b.1).bind fun r=>cond (!r) (some false) ((Zq212 a.2.1 b.2.1).bind fun r2=>cond (!r2) (some false) (some true))
namespace Zq213
def G:Gam:=mkG [(73,Zq209.FS),(74,Zq212.FS)]
def pts:List PT:=[.cs tDisk_,.cs tDisk_]
def FS:FS:=mkFS [.sh,.sh] pts (fun x=>Zq213 x.1 x.2.1) fun t=>⟨[.cs .bool t],[]⟩
theorem ok:FsOk PR 21 FS:=
 fn_ok tbok hmix Proofs.Tryz.f21 ⟨[2,3],[],[],0⟩ .no (G:=G) (show GOk PR G from .cons Zq209.ok (.cons Zq212.ok .nil)) (L:=mkL []) (l:=[]) hT
  (fun x=>by simp only[Zq213,mC,mB,mS,mO,mN];kernel_rfl)
end Zq213
def Zq214 (a:Entry_) (b:Entry_):Option Bool:=
 cond (!(a.1 == b.1)) (some false) (cond (a.2.1 != b.2.1) (some false) (some true))
namespace Zq214
def pts:List PT:=[.cs tEntry_,.cs tEntry_]
def FS:FS:=mkFS [.sh,.sh] pts (fun x=>Zq214 x.1 x.2.1) fun t=>⟨[.cs .bool t],[]⟩
theorem ok:FsOk PR 261 FS:=
 fn_ok tbok hmix Proofs.Tryz.f261 ⟨[2,3],[],[],0⟩ .no (G:=(mkG [])) .nil (L:=mkL []) (l:=[]) hT
  (fun x=>by simp only[Zq214,mC,mB,mS,mO,mN];kernel_rfl)
end Zq214
def Zq215.B (a:List Entry_) (b:List Entry_) (i_:Int):Option (Int⊕((Bool⊕Unit))):=
 cond (decide (i_<(a.length:Int))) (cond (inB i_ a.length) (cond (inB i_ b.length) ((Zq214 (a.getD i_.toNat zEntry_) (b.getD i_.toNat zEntry_)).bind fun r=>cond (!r) (some (.inr (.inl false))) (some (.inl (w64 (i_+1))))) none) none) (some (.inr (.inr ())))
def Zq215 (a:List Entry_) (b:List Entry_):Int→Option ((Bool⊕Unit)):=
 loopL fun s=>Zq215.B a b s
def Zq216 (a:List Entry_) (b:List Entry_):Option Bool:=
 cond ((a.length:Int) != (b.length:Int)) (some false) ((Zq215 a b 0).bind fun o=>sel o (fun b2=>some b2) (fun c=>some true))
namespace Zq216
def G:Gam:=mkG [(261,Zq214.FS)]
theorem Gok:GOk PR G:=.cons Zq214.ok .nil
end Zq216
namespace Zq215
def c:=codeAt (bodyOf Proofs.Tryz.f233) [1,1,0,1,0,0]
def sp:SP:=⟨[(0,.cs (.sl tEntry_)),(1,.cs (.sl tEntry_)),(5,.cs I64)],[]⟩
def out (a:List Entry_) (b:List Entry_):FOut ((Bool⊕Unit)):=fun oo0 _ kk0=>sel oo0 (fun bb0=>kk0 (.rt) ⟨[(4,.cs .bool bb0)],[]⟩) (fun cc0=>kk0 (.ex 0) ⟨[],[]⟩)
def fr:=lfrag sp (fun x=>Zq215 x.1.1 x.1.2.1 x.1.2.2.1) fun x=>out x.1.1 x.1.2.1
theorem ok:CodeOk PR 27 2 (.loop c) fr:=
 lp_ok tbok hmix h0 .no (G:=Zq216.G) Zq216.Gok (L:=mkL []) (l:=[]) hT [0,1,5] [] [(0,([],[]))] ([4],[]) (fun x s=>B x.1.1 x.1.2.1 s) (fun x s=>⟨[(0,.cs (.sl tEntry_) x.1.1),(1,.cs (.sl tEntry_) x.1.2.1),(5,.cs I64 s)],[]⟩) (fun x=>x.1.2.2.1)
  (fun x s=>by simp only[B,mC,mB,mS,mO,mN];kernel_rfl)
end Zq215
namespace Zq216
def pts:List PT:=[.cs (.sl tEntry_),.cs (.sl tEntry_)]
def FS:FS:=mkFS [.sh,.sh] pts (fun x=>Zq216 x.1 x.2.1) fun t=>⟨[.cs .bool t],[]⟩
theorem ok:FsOk PR 233 FS:=
 fn_ok tbok hmix Proofs.Tryz.f233 h0 (.R (.R (.L (.R (.one (.fr 0)))))) (G:=G) Gok (L:=mkL [(0,Zq215.fr)]) (l:=[(0,.loop Zq215.c)]) ⟨Lam.cons Zq215.ok,trivial⟩
  (fun x=>by simp only[Zq216,mC,mB,mS,mO,mN];kernel_rfl)
end Zq216
def Zq217 (a:Inode_) (b:Inode_):Option Bool:=
 cond (a.1 != b.1) (some false) (cond (a.2.1 != b.2.1) (some false) (cond (a.2.2.1 != b.2.2.1) (some false) ((Zq207 a.2.2.2.1 b.2.2.2.1).bind fun r=>cond (!r) (some false) ((Zq216 a.2.2.2.2.1 b.2.2.2.2.1).bind fun r2=>cond (!r2) (some false) (some true)))))
namespace Zq217
def G:Gam:=mkG [(95,Zq207.FS),(233,Zq216.FS)]
def pts:List PT:=[.cs tInode_,.cs tInode_]
def FS:FS:=mkFS [.sh,.sh] pts (fun x=>Zq217 x.1 x.2.1) fun t=>⟨[.cs .bool t],[]⟩
theorem ok:FsOk PR 165 FS:=
 fn_ok tbok hmix Proofs.Tryz.f165 ⟨[2,3],[],[],0⟩ .no (G:=G) (show GOk PR G from .cons Zq207.ok (.cons Zq216.ok .nil)) (L:=mkL []) (l:=[]) hT
  (fun x=>by simp only[Zq217,mC,mB,mS,mO,mN];kernel_rfl)
end Zq217
def Zq218.B (a:List Inode_) (b:List Inode_) (i_:Int):Option (Int⊕((Bool⊕Unit))):=
 cond (decide (i_<(a.length:Int))) (cond (inB i_ a.length) (cond (inB i_ b.length) ((Zq217 (a.getD i_.toNat zInode_) (b.getD i_.toNat zInode_)).bind fun r=>cond (!r) (some (.inr (.inl false))) (some (.inl (w64 (i_+1))))) none) none) (some (.inr (.inr ())))
def Zq218 (a:List Inode_) (b:List Inode_):Int→Option ((Bool⊕Unit)):=
 loopL fun s=>Zq218.B a b s
def Zq219 (a:List Inode_) (b:List Inode_):Option Bool:=
 cond ((a.length:Int) != (b.length:Int)) (some false) ((Zq218 a b 0).bind fun o=>sel o (fun b2=>some b2) (fun c=>some true))
namespace Zq219
def G:Gam:=mkG [(165,Zq217.FS)]
theorem Gok:GOk PR G:=.cons Zq217.ok .nil
end Zq219
namespace Zq218
def c:=codeAt (bodyOf Proofs.Tryz.f75) [1,1,0,1,0,0]
def sp:SP:=⟨[(0,.cs (.sl tInode_)),(1,.cs (.sl tInode_)),(5,.cs I64)],[]⟩
def out (a:List Inode_) (b:List Inode_):FOut ((Bool⊕Unit)):=fun oo0 _ kk0=>sel oo0 (fun bb0=>kk0 (.rt) ⟨[(4,.cs .bool bb0)],[]⟩) (fun cc0=>kk0 (.ex 0) ⟨[],[]⟩)
def fr:=lfrag sp (fun x=>Zq218 x.1.1 x.1.2.1 x.1.2.2.1) fun x=>out x.1.1 x.1.2.1
theorem ok:CodeOk PR 27 2 (.loop c) fr:=
 lp_ok tbok hmix h0 .no (G:=Zq219.G) Zq219.Gok (L:=mkL []) (l:=[]) hT [0,1,5] [] [(0,([],[]))] ([4],[]) (fun x s=>B x.1.1 x.1.2.1 s) (fun x s=>⟨[(0,.cs (.sl tInode_) x.1.1),(1,.cs (.sl tInode_) x.1.2.1),(5,.cs I64 s)],[]⟩) (fun x=>x.1.2.2.1)
  (fun x s=>by simp only[B,mC,mB,mS,mO,mN];kernel_rfl)
end Zq218
namespace Zq219
def pts:List PT:=[.cs (.sl tInode_),.cs (.sl tInode_)]
def FS:FS:=mkFS [.sh,.sh] pts (fun x=>Zq219 x.1 x.2.1) fun t=>⟨[.cs .bool t],[]⟩
theorem ok:FsOk PR 75 FS:=
 fn_ok tbok hmix Proofs.Tryz.f75 h0 (.R (.R (.L (.R (.one (.fr 0)))))) (G:=G) Gok (L:=mkL [(0,Zq218.fr)]) (l:=[(0,.loop Zq218.c)]) ⟨Lam.cons Zq218.ok,trivial⟩
  (fun x=>by simp only[Zq219,mC,mB,mS,mO,mN];kernel_rfl)
end Zq219
def Zq220.B (a:List Int) (b:List Int) (i_:Int):Option (Int⊕((Bool⊕Unit))):=
 cond (decide (i_<(a.length:Int))) (cond (inB i_ a.length) (cond (inB i_ b.length) (cond ((a.getD i_.toNat 0) != (b.getD i_.toNat 0)) (some (.inr (.inl false))) (some (.inl (w64 (i_+1))))) none) none) (some (.inr (.inr ())))
def Zq220 (a:List Int) (b:List Int):Int→Option ((Bool⊕Unit)):=
 loopL fun s=>Zq220.B a b s
def Zq221 (a:List Int) (b:List Int):Option Bool:=
 cond ((a.length:Int) != (b.length:Int)) (some false) ((Zq220 a b 0).bind fun o=>sel o (fun b2=>some b2) (fun c=>some true))
namespace Zq220
def c:=codeAt (bodyOf Proofs.Tryz.f166) [1,1,0,1,0,0]
def sp:SP:=⟨[(0,.cs SB),(1,.cs SB),(5,.cs I64)],[]⟩
def out (a:List Int) (b:List Int):FOut ((Bool⊕Unit)):=fun oo0 _ kk0=>sel oo0 (fun bb0=>kk0 (.rt) ⟨[(4,.cs .bool bb0)],[]⟩) (fun cc0=>kk0 (.ex 0) ⟨[],[]⟩)
def fr:=lfrag sp (fun x=>Zq220 x.1.1 x.1.2.1 x.1.2.2.1) fun x=>out x.1.1 x.1.2.1
theorem ok:CodeOk PR 26 2 (.loop c) fr:=
 lp_ok tbok hmix h0 .no (G:=(mkG [])) .nil (L:=mkL []) (l:=[]) hT [0,1,5] [] [(0,([],[]))] ([4],[]) (fun x s=>B x.1.1 x.1.2.1 s) (fun x s=>⟨[(0,.cs SB x.1.1),(1,.cs SB x.1.2.1),(5,.cs I64 s)],[]⟩) (fun x=>x.1.2.2.1)
  (fun x s=>by simp only[B,mC,mB,mS,mO,mN];kernel_rfl)
end Zq220
namespace Zq221
def pts:List PT:=[.cs SB,.cs SB]
def FS:FS:=mkFS [.sh,.sh] pts (fun x=>Zq221 x.1 x.2.1) fun t=>⟨[.cs .bool t],[]⟩
theorem ok:FsOk PR 166 FS:=
 fn_ok tbok hmix Proofs.Tryz.f166 h0 (.R (.R (.L (.R (.one (.fr 0)))))) (G:=(mkG [])) .nil (L:=mkL [(0,Zq220.fr)]) (l:=[(0,.loop Zq220.c)]) ⟨Lam.cons Zq220.ok,trivial⟩
  (fun x=>by simp only[Zq221,mC,mB,mS,mO,mN];kernel_rfl)
end Zq221
def Zq222.B (a:List (List Int)) (b:List (List Int)) (i_:Int):Option (Int⊕((Bool⊕Unit))):=
 cond (decide (i_<(a.length:Int))) (cond (inB i_ a.length) (cond (inB i_ b.length) ((Zq221 (a.getD i_.toNat []) (b.getD i_.toNat [])).bind fun r=>cond (!r) (some (.inr (.inl false))) (some (.inl (w64 (i_+1))))) none) none) (some (.inr (.inr ())))
def Zq222 (a:List (List Int)) (b:List (List Int)):Int→Option ((Bool⊕Unit)):=
 loopL fun s=>Zq222.B a b s
def Zq223 (a:List (List Int)) (b:List (List Int)):Option Bool:=
 cond ((a.length:Int) != (b.length:Int)) (some false) ((Zq222 a b 0).bind fun o=>sel o (fun b2=>some b2) (fun c=>some true))
namespace Zq223
def G:Gam:=mkG [(166,Zq221.FS)]
theorem Gok:GOk PR G:=.cons Zq221.ok .nil
end Zq223
namespace Zq222
def c:=codeAt (bodyOf Proofs.Tryz.f76) [1,1,0,1,0,0]
def sp:SP:=⟨[(0,.cs (.sl SB)),(1,.cs (.sl SB)),(5,.cs I64)],[]⟩
def out (a:List (List Int)) (b:List (List Int)):FOut ((Bool⊕Unit)):=fun oo0 _ kk0=>sel oo0 (fun bb0=>kk0 (.rt) ⟨[(4,.cs .bool bb0)],[]⟩) (fun cc0=>kk0 (.ex 0) ⟨[],[]⟩)
def fr:=lfrag sp (fun x=>Zq222 x.1.1 x.1.2.1 x.1.2.2.1) fun x=>out x.1.1 x.1.2.1
theorem ok:CodeOk PR 27 2 (.loop c) fr:=
 lp_ok tbok hmix h0 .no (G:=Zq223.G) Zq223.Gok (L:=mkL []) (l:=[]) hT [0,1,5] [] [(0,([],[]))] ([4],[]) (fun x s=>B x.1.1 x.1.2.1 s) (fun x s=>⟨[(0,.cs (.sl SB) x.1.1),(1,.cs (.sl SB) x.1.2.1),(5,.cs I64 s)],[]⟩) (fun x=>x.1.2.2.1)
  (fun x s=>by simp only[B,mC,mB,mS,mO,mN];kernel_rfl)
end Zq222
namespace Zq223
def pts:List PT:=[.cs (.sl SB),.cs (.sl SB)]
def FS:FS:=mkFS [.sh,.sh] pts (fun x=>Zq223 x.1 x.2.1) fun t=>⟨[.cs .bool t],[]⟩
theorem ok:FsOk PR 76 FS:=
 fn_ok tbok hmix Proofs.Tryz.f76 h0 (.R (.R (.L (.R (.one (.fr 0)))))) (G:=G) Gok (L:=mkL [(0,Zq222.fr)]) (l:=[(0,.loop Zq222.c)]) ⟨Lam.cons Zq222.ok,trivial⟩
  (fun x=>by simp only[Zq223,mC,mB,mS,mO,mN];kernel_rfl)
end Zq223
def Zq224 (a:Fs_) (b:Fs_):Option Bool:=
 (Zq219 a.1 b.1).bind fun r=>cond (!r) (some false) ((Zq223 a.2.1 b.2.1).bind fun r2=>cond (!r2) (some false) (some true))
namespace Zq224
def G:Gam:=mkG [(75,Zq219.FS),(76,Zq223.FS)]
def pts:List PT:=[.cs tFs_,.cs tFs_]
def FS:FS:=mkFS [.sh,.sh] pts (fun x=>Zq224 x.1 x.2.1) fun t=>⟨[.cs .bool t],[]⟩
theorem ok:FsOk PR 22 FS:=
 fn_ok tbok hmix Proofs.Tryz.f22 ⟨[2,3],[],[],0⟩ .no (G:=G) (show GOk PR G from .cons Zq219.ok (.cons Zq223.ok .nil)) (L:=mkL []) (l:=[]) hT
  (fun x=>by simp only[Zq224,mC,mB,mS,mO,mN];kernel_rfl)
end Zq224
def Zq225 (a:World_) (b:World_):Option Bool:=
 (Zq213 a.1 b.1).bind fun r=>cond (!r) (some false) ((Zq224 a.2.1 b.2.1).bind fun r2=>cond (!r2) (some false) ((Zq224 a.2.2.1 b.2.2.1).bind fun r3=>cond (!r3) (some false) (some true)))
namespace Zq225
def G:Gam:=mkG [(21,Zq213.FS),(22,Zq224.FS)]
def pts:List PT:=[.cs tWorld_,.cs tWorld_]
def FS:FS:=mkFS [.sh,.sh] pts (fun x=>Zq225 x.1 x.2.1) fun t=>⟨[.cs .bool t],[]⟩
theorem ok:FsOk PR 13 FS:=
 fn_ok tbok hmix Proofs.Tryz.f13 ⟨[2,3],[],[],0⟩ .no (G:=G) (show GOk PR G from .cons Zq213.ok (.cons Zq224.ok .nil)) (L:=mkL []) (l:=[]) hT
  (fun x=>by simp only[Zq225,mC,mB,mS,mO,mN];kernel_rfl)
end Zq225
def Zq226 (aW:World_):Option Bool:=
 (Zq17 aW 1048576).bind fun r=>cond (decide (r<0)) (some true) ((Zq37 aW).bind fun r2=>(Zq112 ((r2.1.1,r2.1.2.1,r2.1.2.2),(r2.2.1.1,r2.2.1.2.1,r2.2.1.2.2),(r2.2.2.1.1,r2.2.2.1.2.1,r2.2.2.1.2.2),r2.2.2.2)).bind fun r3=>(Zq37 aW).bind fun r4=>(Zq205 ((r4.1.1,r4.1.2.1,r4.1.2.2),(r4.2.1.1,r4.2.1.2.1,r4.2.1.2.2),(r4.2.2.1.1,r4.2.2.1.2.1,r4.2.2.1.2.2),r4.2.2.2)).bind fun r5=>cond (r5 != r3) (some false) ((Zq37 aW).bind fun r6=>(Zq225 ((r4.1.1,r4.1.2.1,r4.1.2.2),(r4.2.1.1,r4.2.1.2.1,r4.2.1.2.2),(r4.2.2.1.1,r4.2.2.1.2.1,r4.2.2.1.2.2),r4.2.2.2) ((r6.1.1,r6.1.2.1,r6.1.2.2),(r6.2.1.1,r6.2.1.2.1,r6.2.1.2.2),(r6.2.2.1.1,r6.2.2.1.2.1,r6.2.2.1.2.2),r6.2.2.2)).bind fun r7=>cond (!r7) (some false) (some true)))
namespace Zq226
def G:Gam:=mkG [(9,Zq17.FS),(11,Zq37.FS),(10,Zq112.FS),(12,Zq205.FS),(13,Zq225.FS)]
def pts:List PT:=[.cs tWorld_]
def FS:FS:=mkFS [.sh] pts (fun x=>Zq226 x.1) fun t=>⟨[.cs .bool t],[]⟩
theorem ok:FsOk PR 3 FS:=
 fn_ok tbok hmix Proofs.Tryz.f3 ⟨[1],[],[],0⟩ .no (G:=G) (show GOk PR G from .cons Zq17.ok (.cons Zq37.ok (.cons Zq112.ok (.cons Zq205.ok (.cons Zq225.ok .nil))))) (L:=mkL []) (l:=[]) hT
  (fun x=>by simp only[Zq226,mC,mB,mS,mO,mN];kernel_rfl)
end Zq226
end Mf
