import Derived.Test.YtlbggfhokijobaaGreatLoadImageA1
noncomputable section
namespace Mf
open Go
set_option linter.unusedVariables false
set_option linter.unusedSimpArgs false
set_option maxRecDepth 100000
def Zq188.B (k_:Int) (i_:Int) (a_:List Put_):Option ((Int×Int×List Put_)⊕(Int×List Put_)):=
 cond (decide (i_<(a_.length:Int))) (cond (inB i_ a_.length) (cond (inB i_ ((a_.set i_.toNat (k_,(a_.getD i_.toNat zPut_).2)).length)) ((Zq185 ((a_.set i_.toNat (k_,(a_.getD i_.toNat zPut_).2)).getD i_.toNat zPut_).2.1 (w64 (k_+1))).bind fun r=>some (.inl (r.1,w64 (i_+1),(a_.set i_.toNat (k_,(a_.getD i_.toNat zPut_).2)).set i_.toNat (((a_.set i_.toNat (k_,(a_.getD i_.toNat zPut_).2)).getD i_.toNat zPut_).1,r.2,((a_.set i_.toNat (k_,(a_.getD i_.toNat zPut_).2)).getD i_.toNat zPut_).2.2)))) none) none) (some (.inr (k_,a_)))
def Zq188 :(Int×Int×List Put_)→Option (Int×List Put_):=
 loopL fun s=>Zq188.B s.1 s.2.1 s.2.2
def Zq189 (a:List Put_) (k:Int):Option (Int×List Put_):=
 (Zq188 (k,0,a)).bind fun o=>some (o.1,o.2)
namespace Zq189
def G:Gam:=mkG [(63,Zq185.FS)]
theorem Gok:GOk PR G:=.cons Zq185.ok .nil
end Zq189
namespace Zq188
def c:=codeAt (bodyOf Proofs.Tryz.f30) [1,0,1,0,0]
def sp:SP:=⟨[(0,.seg 0 []),(1,.cs I64),(5,.cs I64)],[(0,.reg,.cd (.sl tPut_))]⟩
def out :FOut (Int×List Put_):=fun bb0 _ kk0=>kk0 (.ex 0) ⟨[(1,.cs I64 bb0.1)],[sr 0 (.cd (.sl tPut_) bb0.2)]⟩
def fr:=lfrag sp (fun x=>Zq188  (x.1.2.1,x.1.2.2.1,x.2.1)) fun x=>out
theorem ok:CodeOk PR 27 2 (.loop c) fr:=
 lp_ok tbok hmix h0 .no (G:=Zq189.G) Zq189.Gok (L:=mkL []) (l:=[]) hT [0,1,5] [0] [(0,([1],[0]))] ([],[]) (fun x s=>B  s.1 s.2.1 s.2.2) (fun x s=>⟨[(0,.seg 0 []),(1,.cs I64 s.1),(5,.cs I64 s.2.1)],[sr 0 (.cd (.sl tPut_) s.2.2)]⟩) (fun x=>(x.1.2.1,x.1.2.2.1,x.2.1))
  (fun x s=>by simp only[B,mC,mB,mS,mO,mN];kernel_rfl)
end Zq188
namespace Zq189
def pts:List PT:=[.cd (.sl tPut_),.cs I64]
def FS:FS:=mkFS [.mu,.sh] pts (fun x=>Zq189 x.1 x.2.1) fun t=>⟨[.cs I64 t.1],[.cd (.sl tPut_) t.2]⟩
theorem ok:FsOk PR 30 FS:=
 fn_ok tbok hmix Proofs.Tryz.f30 h0 (.R (.L (.R (.one (.fr 0))))) (G:=G) Gok (L:=mkL [(0,Zq188.fr)]) (l:=[(0,.loop Zq188.c)]) ⟨Lam.cons Zq188.ok,trivial⟩
  (fun x=>by simp only[Zq189,mC,mB,mS,mO,mN];kernel_rfl)
end Zq189
def Zq190 (a:Disk_) (k:Int):Option (Int×Disk_):=
 (Zq187 a.1 k).bind fun r=>(Zq189 a.2.1 r.1).bind fun r2=>some (r2.1,(r.2,r2.2,a.2.2))
namespace Zq190
def G:Gam:=mkG [(29,Zq187.FS),(30,Zq189.FS)]
def pts:List PT:=[.cd tDisk_,.cs I64]
def FS:FS:=mkFS [.mu,.sh] pts (fun x=>Zq190 x.1 x.2.1) fun t=>⟨[.cs I64 t.1],[.cd tDisk_ t.2]⟩
theorem ok:FsOk PR 10 FS:=
 fn_ok tbok hmix Proofs.Tryz.f10 ⟨[2],[],[],0⟩ .no (G:=G) (show GOk PR G from .cons Zq187.ok (.cons Zq189.ok .nil)) (L:=mkL []) (l:=[]) hT
  (fun x=>by simp only[Zq190,mC,mB,mS,mO,mN];kernel_rfl)
end Zq190
def Zq191.B (k_:Int) (out_:List UInt8):Option ((Int×List UInt8)⊕(List UInt8)):=
 cond (decide (k_>0)) (cond (!((10:Int) == 0)) ((some (IntKind.u8.wrap (w64 ((48:Int)+(k_.tmod 10))))).bind fun v=>cond (decide ((([v]).map fun n=>UInt8.ofNat n.toNat).length+out_.length≤2147483648)) (cond (!((10:Int) == 0)) (some (.inl (w64 (k_.tdiv 10),(([v]).map fun n=>UInt8.ofNat n.toNat)++out_))) none) none) none) (some (.inr out_))
def Zq191 :(Int×List UInt8)→Option (List UInt8):=
 loopL fun s=>Zq191.B s.1 s.2
def Zq192 (k:Int):Option (List UInt8):=
 cond (decide (k≤0)) (some ([109,48]:List UInt8)) ((Zq191 (k,([]:List UInt8))).bind fun o=>cond (decide (([109]:List UInt8).length+o.length≤2147483648)) (some (([109]:List UInt8)++o)) none)
namespace Zq191
def c:=codeAt (bodyOf Proofs.Tryz.f117) [1,1,1,0,0,0]
def sp:SP:=⟨[(0,.cs I64),(3,.cs .str)],[]⟩
def out :FOut (List UInt8):=fun bb0 _ kk0=>kk0 (.ex 0) ⟨[(3,.cs .str bb0)],[]⟩
def fr:=lfrag sp (fun x=>Zq191  (x.1.1,x.1.2.1)) fun x=>out
theorem ok:CodeOk PR 20 1 (.loop c) fr:=
 lp_ok tbok hmix h0 .no (G:=(mkG [])) .nil (L:=mkL []) (l:=[]) hT [0,3] [] [(0,([3],[]))] ([],[]) (fun x s=>B  s.1 s.2) (fun x s=>⟨[(0,.cs I64 s.1),(3,.cs .str s.2)],[]⟩) (fun x=>(x.1.1,x.1.2.1))
  (fun x s=>by simp only[B,mC,mB,mS,mO,mN];kernel_rfl)
end Zq191
namespace Zq192
def pts:List PT:=[.cs I64]
def FS:FS:=mkFS [.sh] pts (fun x=>Zq192 x.1) fun t=>⟨[.cs .str t],[]⟩
theorem ok:FsOk PR 117 FS:=
 fn_ok tbok hmix Proofs.Tryz.f117 h0 (.R (.R (.R (.L (.one (.fr 0)))))) (G:=(mkG [])) .nil (L:=mkL [(0,Zq191.fr)]) (l:=[(0,.loop Zq191.c)]) ⟨Lam.cons Zq191.ok,trivial⟩
  (fun x=>by simp only[Zq192,mC,mB,mS,mO,mN];kernel_rfl)
end Zq192
def Zq193.B (k_:Int) (i_:Int) (a_:List Entry_):Option ((Int×Int×List Entry_)⊕(Int×List Entry_)):=
 cond (decide (i_<(a_.length:Int))) ((Zq192 k_).bind fun r=>cond (inB i_ a_.length) ((some (a_.set i_.toNat (r,(a_.getD i_.toNat zEntry_).2))).bind fun a_2=>cond (inB i_ a_2.length) ((some (a_2.set i_.toNat ((a_2.getD i_.toNat zEntry_).1,w64 (k_+1),(a_2.getD i_.toNat zEntry_).2.2))).bind fun a_3=>some (.inl (w64 ((w64 (k_+1))+1),w64 (i_+1),a_3))) none) none) (some (.inr (k_,a_)))
def Zq193 :(Int×Int×List Entry_)→Option (Int×List Entry_):=
 loopL fun s=>Zq193.B s.1 s.2.1 s.2.2
def Zq194 (a:List Entry_) (k:Int):Option (Int×List Entry_):=
 (Zq193 (k,0,a)).bind fun o=>some (o.1,o.2)
namespace Zq194
def G:Gam:=mkG [(117,Zq192.FS)]
theorem Gok:GOk PR G:=.cons Zq192.ok .nil
end Zq194
namespace Zq193
def c:=codeAt (bodyOf Proofs.Tryz.f94) [1,0,1,0,0]
def sp:SP:=⟨[(0,.seg 0 []),(1,.cs I64),(5,.cs I64)],[(0,.reg,.cd (.sl tEntry_))]⟩
def out :FOut (Int×List Entry_):=fun bb0 _ kk0=>kk0 (.ex 0) ⟨[(1,.cs I64 bb0.1)],[sr 0 (.cd (.sl tEntry_) bb0.2)]⟩
def fr:=lfrag sp (fun x=>Zq193  (x.1.2.1,x.1.2.2.1,x.2.1)) fun x=>out
theorem ok:CodeOk PR 28 2 (.loop c) fr:=
 lp_ok tbok hmix h0 .no (G:=Zq194.G) Zq194.Gok (L:=mkL []) (l:=[]) hT [0,1,5] [0] [(0,([1],[0]))] ([],[]) (fun x s=>B  s.1 s.2.1 s.2.2) (fun x s=>⟨[(0,.seg 0 []),(1,.cs I64 s.1),(5,.cs I64 s.2.1)],[sr 0 (.cd (.sl tEntry_) s.2.2)]⟩) (fun x=>(x.1.2.1,x.1.2.2.1,x.2.1))
  (fun x s=>by simp only[B,mC,mB,mS,mO,mN];kernel_rfl)
end Zq193
namespace Zq194
def pts:List PT:=[.cd (.sl tEntry_),.cs I64]
def FS:FS:=mkFS [.mu,.sh] pts (fun x=>Zq194 x.1 x.2.1) fun t=>⟨[.cs I64 t.1],[.cd (.sl tEntry_) t.2]⟩
theorem ok:FsOk PR 94 FS:=
 fn_ok tbok hmix Proofs.Tryz.f94 h0 (.R (.L (.R (.one (.fr 0))))) (G:=G) Gok (L:=mkL [(0,Zq193.fr)]) (l:=[(0,.loop Zq193.c)]) ⟨Lam.cons Zq193.ok,trivial⟩
  (fun x=>by simp only[Zq194,mC,mB,mS,mO,mN];kernel_rfl)
end Zq194
def Zq195.B (k_:Int) (i_:Int) (a_:List Inode_):Option ((Int×Int×List Inode_)⊕(Int×List Inode_)):=
 cond (decide (i_<(a_.length:Int))) (cond (inB i_ a_.length) ((some (a_.set i_.toNat (k_,(a_.getD i_.toNat zInode_).2))).bind fun a_2=>cond (inB i_ a_2.length) ((some (a_2.set i_.toNat ((a_2.getD i_.toNat zInode_).1,w64 (k_+1),(a_2.getD i_.toNat zInode_).2.2))).bind fun a_3=>cond (inB i_ a_3.length) ((some (a_3.set i_.toNat ((a_3.getD i_.toNat zInode_).1,(a_3.getD i_.toNat zInode_).2.1,w64 ((w64 (k_+1))+1),(a_3.getD i_.toNat zInode_).2.2.2))).bind fun a_4=>cond (inB i_ a_4.length) ((Zq185 (a_4.getD i_.toNat zInode_).2.2.2.1 (w64 ((w64 ((w64 (k_+1))+1))+1))).bind fun r=>cond (inB i_ ((a_4.set i_.toNat ((a_4.getD i_.toNat zInode_).1,(a_4.getD i_.toNat zInode_).2.1,(a_4.getD i_.toNat zInode_).2.2.1,r.2,(a_4.getD i_.toNat zInode_).2.2.2.2)).length)) ((Zq194 ((a_4.set i_.toNat ((a_4.getD i_.toNat zInode_).1,(a_4.getD i_.toNat zInode_).2.1,(a_4.getD i_.toNat zInode_).2.2.1,r.2,(a_4.getD i_.toNat zInode_).2.2.2.2)).getD i_.toNat zInode_).2.2.2.2.1 r.1).bind fun r2=>some (.inl (r2.1,w64 (i_+1),(a_4.set i_.toNat ((a_4.getD i_.toNat zInode_).1,(a_4.getD i_.toNat zInode_).2.1,(a_4.getD i_.toNat zInode_).2.2.1,r.2,(a_4.getD i_.toNat zInode_).2.2.2.2)).set i_.toNat (((a_4.set i_.toNat ((a_4.getD i_.toNat zInode_).1,(a_4.getD i_.toNat zInode_).2.1,(a_4.getD i_.toNat zInode_).2.2.1,r.2,(a_4.getD i_.toNat zInode_).2.2.2.2)).getD i_.toNat zInode_).1,((a_4.set i_.toNat ((a_4.getD i_.toNat zInode_).1,(a_4.getD i_.toNat zInode_).2.1,(a_4.getD i_.toNat zInode_).2.2.1,r.2,(a_4.getD i_.toNat zInode_).2.2.2.2)).getD i_.toNat zInode_).2.1,((a_4.set i_.toNat ((a_4.getD i_.toNat zInode_).1,(a_4.getD i_.toNat zInode_).2.1,(a_4.getD i_.toNat zInode_).2.2.1,r.2,(a_4.getD i_.toNat zInode_).2.2.2.2)).getD i_.toNat zInode_).2.2.1,((a_4.set i_.toNat ((a_4.getD i_.toNat zInode_).1,(a_4.getD i_.toNat zInode_).2.1,(a_4.getD i_.toNat zInode_).2.2.1,r.2,(a_4.getD i_.toNat zInode_).2.2.2.2)).getD i_.toNat zInode_).2.2.2.1,r2.2,((a_4.set i_.toNat ((a_4.getD i_.toNat zInode_).1,(a_4.getD i_.toNat zInode_).2.1,(a_4.getD i_.toNat zInode_).2.2.1,r.2,(a_4.getD i_.toNat zInode_).2.2.2.2)).getD i_.toNat zInode_).2.2.2.2.2)))) none) none) none) none) none) (some (.inr (k_,a_)))
def Zq195 :(Int×Int×List Inode_)→Option (Int×List Inode_):=
 loopL fun s=>Zq195.B s.1 s.2.1 s.2.2
def Zq196 (a:List Inode_) (k:Int):Option (Int×List Inode_):=
 (Zq195 (k,0,a)).bind fun o=>some (o.1,o.2)
namespace Zq196
def G:Gam:=mkG [(63,Zq185.FS),(94,Zq194.FS)]
theorem Gok:GOk PR G:=.cons Zq185.ok (.cons Zq194.ok .nil)
end Zq196
namespace Zq195
def c:=codeAt (bodyOf Proofs.Tryz.f64) [1,0,1,0,0]
def sp:SP:=⟨[(0,.seg 0 []),(1,.cs I64),(5,.cs I64)],[(0,.reg,.cd (.sl tInode_))]⟩
def out :FOut (Int×List Inode_):=fun bb0 _ kk0=>kk0 (.ex 0) ⟨[(1,.cs I64 bb0.1)],[sr 0 (.cd (.sl tInode_) bb0.2)]⟩
def fr:=lfrag sp (fun x=>Zq195  (x.1.2.1,x.1.2.2.1,x.2.1)) fun x=>out
theorem ok:CodeOk PR 48 2 (.loop c) fr:=
 lp_ok tbok hmix h0 .no (G:=Zq196.G) Zq196.Gok (L:=mkL []) (l:=[]) hT [0,1,5] [0] [(0,([1],[0]))] ([],[]) (fun x s=>B  s.1 s.2.1 s.2.2) (fun x s=>⟨[(0,.seg 0 []),(1,.cs I64 s.1),(5,.cs I64 s.2.1)],[sr 0 (.cd (.sl tInode_) s.2.2)]⟩) (fun x=>(x.1.2.1,x.1.2.2.1,x.2.1))
  (fun x s=>by simp only[B,mC,mB,mS,mO,mN];kernel_rfl)
end Zq195
namespace Zq196
def pts:List PT:=[.cd (.sl tInode_),.cs I64]
def FS:FS:=mkFS [.mu,.sh] pts (fun x=>Zq196 x.1 x.2.1) fun t=>⟨[.cs I64 t.1],[.cd (.sl tInode_) t.2]⟩
theorem ok:FsOk PR 64 FS:=
 fn_ok tbok hmix Proofs.Tryz.f64 h0 (.R (.L (.R (.one (.fr 0))))) (G:=G) Gok (L:=mkL [(0,Zq195.fr)]) (l:=[(0,.loop Zq195.c)]) ⟨Lam.cons Zq195.ok,trivial⟩
  (fun x=>by simp only[Zq196,mC,mB,mS,mO,mN];kernel_rfl)
end Zq196
def Zq197.B (k_:Int) (i_:Int) (a_:List Int):Option ((Int×Int×List Int)⊕(Int×List Int)):=
 cond (decide (i_<(a_.length:Int))) (cond (inB i_ a_.length) (some (.inl (w64 (k_+1),w64 (i_+1),a_.set i_.toNat (IntKind.u8.wrap k_)))) none) (some (.inr (k_,a_)))
def Zq197 :(Int×Int×List Int)→Option (Int×List Int):=
 loopL fun s=>Zq197.B s.1 s.2.1 s.2.2
def Zq198 (a:List Int) (k:Int):Option (Int×List Int):=
 (Zq197 (k,0,a)).bind fun o=>some (o.1,o.2)
namespace Zq197
def c:=codeAt (bodyOf Proofs.Tryz.f95) [1,0,1,0,0]
def sp:SP:=⟨[(0,.seg 0 []),(1,.cs I64),(5,.cs I64)],[(0,.reg,.cd SB)]⟩
def out :FOut (Int×List Int):=fun bb0 _ kk0=>kk0 (.ex 0) ⟨[(1,.cs I64 bb0.1)],[sr 0 (.cd SB bb0.2)]⟩
def fr:=lfrag sp (fun x=>Zq197  (x.1.2.1,x.1.2.2.1,x.2.1)) fun x=>out
theorem ok:CodeOk PR 20 2 (.loop c) fr:=
 lp_ok tbok hmix h0 .no (G:=(mkG [])) .nil (L:=mkL []) (l:=[]) hT [0,1,5] [0] [(0,([1],[0]))] ([],[]) (fun x s=>B  s.1 s.2.1 s.2.2) (fun x s=>⟨[(0,.seg 0 []),(1,.cs I64 s.1),(5,.cs I64 s.2.1)],[sr 0 (.cd SB s.2.2)]⟩) (fun x=>(x.1.2.1,x.1.2.2.1,x.2.1))
  (fun x s=>by simp only[B,mC,mB,mS,mO,mN];kernel_rfl)
end Zq197
namespace Zq198
def pts:List PT:=[.cd SB,.cs I64]
def FS:FS:=mkFS [.mu,.sh] pts (fun x=>Zq198 x.1 x.2.1) fun t=>⟨[.cs I64 t.1],[.cd SB t.2]⟩
theorem ok:FsOk PR 95 FS:=
 fn_ok tbok hmix Proofs.Tryz.f95 h0 (.R (.L (.R (.one (.fr 0))))) (G:=(mkG [])) .nil (L:=mkL [(0,Zq197.fr)]) (l:=[(0,.loop Zq197.c)]) ⟨Lam.cons Zq197.ok,trivial⟩
  (fun x=>by simp only[Zq198,mC,mB,mS,mO,mN];kernel_rfl)
end Zq198
def Zq199.B (k_:Int) (i_:Int) (a_:List (List Int)):Option ((Int×Int×List (List Int))⊕(Int×List (List Int))):=
 cond (decide (i_<(a_.length:Int))) (cond (inB i_ a_.length) ((Zq198 (a_.getD i_.toNat []) k_).bind fun r=>some (.inl (r.1,w64 (i_+1),a_.set i_.toNat r.2))) none) (some (.inr (k_,a_)))
def Zq199 :(Int×Int×List (List Int))→Option (Int×List (List Int)):=
 loopL fun s=>Zq199.B s.1 s.2.1 s.2.2
def Zq200 (a:List (List Int)) (k:Int):Option (Int×List (List Int)):=
 (Zq199 (k,0,a)).bind fun o=>some (o.1,o.2)
namespace Zq200
def G:Gam:=mkG [(95,Zq198.FS)]
theorem Gok:GOk PR G:=.cons Zq198.ok .nil
end Zq200
namespace Zq199
def c:=codeAt (bodyOf Proofs.Tryz.f65) [1,0,1,0,0]
def sp:SP:=⟨[(0,.seg 0 []),(1,.cs I64),(5,.cs I64)],[(0,.reg,.cd (.sl SB))]⟩
def out :FOut (Int×List (List Int)):=fun bb0 _ kk0=>kk0 (.ex 0) ⟨[(1,.cs I64 bb0.1)],[sr 0 (.cd (.sl SB) bb0.2)]⟩
def fr:=lfrag sp (fun x=>Zq199  (x.1.2.1,x.1.2.2.1,x.2.1)) fun x=>out
theorem ok:CodeOk PR 19 2 (.loop c) fr:=
 lp_ok tbok hmix h0 .no (G:=Zq200.G) Zq200.Gok (L:=mkL []) (l:=[]) hT [0,1,5] [0] [(0,([1],[0]))] ([],[]) (fun x s=>B  s.1 s.2.1 s.2.2) (fun x s=>⟨[(0,.seg 0 []),(1,.cs I64 s.1),(5,.cs I64 s.2.1)],[sr 0 (.cd (.sl SB) s.2.2)]⟩) (fun x=>(x.1.2.1,x.1.2.2.1,x.2.1))
  (fun x s=>by simp only[B,mC,mB,mS,mO,mN];kernel_rfl)
end Zq199
namespace Zq200
def pts:List PT:=[.cd (.sl SB),.cs I64]
def FS:FS:=mkFS [.mu,.sh] pts (fun x=>Zq200 x.1 x.2.1) fun t=>⟨[.cs I64 t.1],[.cd (.sl SB) t.2]⟩
theorem ok:FsOk PR 65 FS:=
 fn_ok tbok hmix Proofs.Tryz.f65 h0 (.R (.L (.R (.one (.fr 0))))) (G:=G) Gok (L:=mkL [(0,Zq199.fr)]) (l:=[(0,.loop Zq199.c)]) ⟨Lam.cons Zq199.ok,trivial⟩
  (fun x=>by simp only[Zq200,mC,mB,mS,mO,mN];kernel_rfl)
end Zq200
def Zq201 (a:Fs_) (k:Int):Option (Int×Fs_):=
 (Zq196 a.1 k).bind fun r=>(Zq200 a.2.1 r.1).bind fun r2=>some (r2.1,(r.2,r2.2,a.2.2))
namespace Zq201
def G:Gam:=mkG [(64,Zq196.FS),(65,Zq200.FS)]
def pts:List PT:=[.cd tFs_,.cs I64]
def FS:FS:=mkFS [.mu,.sh] pts (fun x=>Zq201 x.1 x.2.1) fun t=>⟨[.cs I64 t.1],[.cd tFs_ t.2]⟩
theorem ok:FsOk PR 31 FS:=
 fn_ok tbok hmix Proofs.Tryz.f31 ⟨[2],[],[],0⟩ .no (G:=G) (show GOk PR G from .cons Zq196.ok (.cons Zq200.ok .nil)) (L:=mkL []) (l:=[]) hT
  (fun x=>by simp only[Zq201,mC,mB,mS,mO,mN];kernel_rfl)
end Zq201
def Zq202 (a:FsResult_) (k:Int):Option (Int×FsResult_):=
 (Zq201 (a.2.1.1,a.2.1.2.1,a.2.1.2.2) k).bind fun r=>some (r.1,(a.1,(r.2.1,r.2.2.1,a.2.1.2.2),a.2.2))
namespace Zq202
def G:Gam:=mkG [(31,Zq201.FS)]
def pts:List PT:=[.cd tFsResult_,.cs I64]
def FS:FS:=mkFS [.mu,.sh] pts (fun x=>Zq202 x.1 x.2.1) fun t=>⟨[.cs I64 t.1],[.cd tFsResult_ t.2]⟩
theorem ok:FsOk PR 11 FS:=
 fn_ok tbok hmix Proofs.Tryz.f11 ⟨[2],[],[],0⟩ .no (G:=G) (show GOk PR G from .cons Zq201.ok .nil) (L:=mkL []) (l:=[]) hT
  (fun x=>by simp only[Zq202,mC,mB,mS,mO,mN];kernel_rfl)
end Zq202
def Zq203.B (a:List Int) (k_:Int) (i_:Int):Option ((Int×Int)⊕((Int⊕Int))):=
 cond (decide (i_<(a.length:Int))) (cond (inB i_ a.length) (cond ((a.getD i_.toNat 0) != k_) (some (.inr (.inl (-1)))) (some (.inl (w64 (k_+1),w64 (i_+1))))) none) (some (.inr (.inr k_)))
def Zq203 (a:List Int):(Int×Int)→Option ((Int⊕Int)):=
 loopL fun s=>Zq203.B a s.1 s.2
def Zq204 (a:List Int) (k:Int):Option Int:=
 (Zq203 a (k,0)).bind fun o=>sel o (fun b=>some b) (fun c=>some c)
namespace Zq203
def c:=codeAt (bodyOf Proofs.Tryz.f96) [1,0,1,0,0]
def sp:SP:=⟨[(0,.cs SI),(1,.cs I64),(5,.cs I64)],[]⟩
def out (a:List Int):FOut ((Int⊕Int)):=fun oo0 _ kk0=>sel oo0 (fun bb0=>kk0 (.rt) ⟨[(4,.cs I64 bb0)],[]⟩) (fun cc0=>kk0 (.ex 0) ⟨[(1,.cs I64 cc0)],[]⟩)
def fr:=lfrag sp (fun x=>Zq203 x.1.1 (x.1.2.1,x.1.2.2.1)) fun x=>out x.1.1
theorem ok:CodeOk PR 21 2 (.loop c) fr:=
 lp_ok tbok hmix h0 .no (G:=(mkG [])) .nil (L:=mkL []) (l:=[]) hT [0,1,5] [] [(0,([1],[]))] ([4],[]) (fun x s=>B x.1.1 s.1 s.2) (fun x s=>⟨[(0,.cs SI x.1.1),(1,.cs I64 s.1),(5,.cs I64 s.2)],[]⟩) (fun x=>(x.1.2.1,x.1.2.2.1))
  (fun x s=>by simp only[B,mC,mB,mS,mO,mN];kernel_rfl)
end Zq203
namespace Zq204
def pts:List PT:=[.cs SI,.cs I64]
def FS:FS:=mkFS [.sh,.sh] pts (fun x=>Zq204 x.1 x.2.1) fun t=>⟨[.cs I64 t],[]⟩
theorem ok:FsOk PR 96 FS:=
 fn_ok tbok hmix Proofs.Tryz.f96 h0 (.R (.L (.R (.one (.fr 0))))) (G:=(mkG [])) .nil (L:=mkL [(0,Zq203.fr)]) (l:=[(0,.loop Zq203.c)]) ⟨Lam.cons Zq203.ok,trivial⟩
  (fun x=>by simp only[Zq204,mC,mB,mS,mO,mN];kernel_rfl)
end Zq204
def Zq205.B (a:List Entry_) (k_:Int) (i_:Int):Option ((Int×Int)⊕((Int⊕Int))):=
 cond (decide (i_<(a.length:Int))) (cond (inB i_ a.length) ((Zq192 k_).bind fun r=>cond (!((a.getD i_.toNat zEntry_).1 == r)) (some (.inr (.inl (-1)))) (cond (inB i_ a.length) ((some ((a.getD i_.toNat zEntry_).2.1 != (w64 (k_+1)))).bind fun v=>cond v (some (.inr (.inl (-1)))) (some (.inl (w64 ((w64 (k_+1))+1),w64 (i_+1))))) none)) none) (some (.inr (.inr k_)))
def Zq205 (a:List Entry_):(Int×Int)→Option ((Int⊕Int)):=
 loopL fun s=>Zq205.B a s.1 s.2
def Zq206 (a:List Entry_) (k:Int):Option Int:=
 (Zq205 a (k,0)).bind fun o=>sel o (fun b=>some b) (fun c=>some c)
namespace Zq206
def G:Gam:=mkG [(117,Zq192.FS)]
theorem Gok:GOk PR G:=.cons Zq192.ok .nil
end Zq206
namespace Zq205
def c:=codeAt (bodyOf Proofs.Tryz.f97) [1,0,1,0,0]
def sp:SP:=⟨[(0,.cs (.sl tEntry_)),(1,.cs I64),(5,.cs I64)],[]⟩
def out (a:List Entry_):FOut ((Int⊕Int)):=fun oo0 _ kk0=>sel oo0 (fun bb0=>kk0 (.rt) ⟨[(4,.cs I64 bb0)],[]⟩) (fun cc0=>kk0 (.ex 0) ⟨[(1,.cs I64 cc0)],[]⟩)
def fr:=lfrag sp (fun x=>Zq205 x.1.1 (x.1.2.1,x.1.2.2.1)) fun x=>out x.1.1
theorem ok:CodeOk PR 32 2 (.loop c) fr:=
 lp_ok tbok hmix h0 .no (G:=Zq206.G) Zq206.Gok (L:=mkL []) (l:=[]) hT [0,1,5] [] [(0,([1],[]))] ([4],[]) (fun x s=>B x.1.1 s.1 s.2) (fun x s=>⟨[(0,.cs (.sl tEntry_) x.1.1),(1,.cs I64 s.1),(5,.cs I64 s.2)],[]⟩) (fun x=>(x.1.2.1,x.1.2.2.1))
  (fun x s=>by simp only[B,mC,mB,mS,mO,mN];kernel_rfl)
end Zq205
namespace Zq206
def pts:List PT:=[.cs (.sl tEntry_),.cs I64]
def FS:FS:=mkFS [.sh,.sh] pts (fun x=>Zq206 x.1 x.2.1) fun t=>⟨[.cs I64 t],[]⟩
theorem ok:FsOk PR 97 FS:=
 fn_ok tbok hmix Proofs.Tryz.f97 h0 (.R (.L (.R (.one (.fr 0))))) (G:=G) Gok (L:=mkL [(0,Zq205.fr)]) (l:=[(0,.loop Zq205.c)]) ⟨Lam.cons Zq205.ok,trivial⟩
  (fun x=>by simp only[Zq206,mC,mB,mS,mO,mN];kernel_rfl)
end Zq206
def Zq207.B (a:List Inode_) (k_:Int) (i_:Int):Option ((Int×Int)⊕((Int⊕Int))):=
 cond (decide (i_<(a.length:Int))) (cond (inB i_ a.length) (cond ((a.getD i_.toNat zInode_).1 != k_) (some (.inr (.inl (-1)))) (cond (inB i_ a.length) ((some ((a.getD i_.toNat zInode_).2.1 != (w64 (k_+1)))).bind fun v=>cond v (some (.inr (.inl (-1)))) (cond (inB i_ a.length) ((some ((a.getD i_.toNat zInode_).2.2.1 != (w64 ((w64 (k_+1))+1)))).bind fun v2=>cond v2 (some (.inr (.inl (-1)))) (cond (inB i_ a.length) ((Zq204 (a.getD i_.toNat zInode_).2.2.2.1 (w64 ((w64 ((w64 (k_+1))+1))+1))).bind fun r=>cond (decide (r<0)) (some (.inr (.inl (-1)))) (cond (inB i_ a.length) ((Zq206 (a.getD i_.toNat zInode_).2.2.2.2.1 r).bind fun r2=>cond (decide (r2<0)) (some (.inr (.inl (-1)))) (some (.inl (r2,w64 (i_+1))))) none)) none)) none)) none)) none) (some (.inr (.inr k_)))
def Zq207 (a:List Inode_):(Int×Int)→Option ((Int⊕Int)):=
 loopL fun s=>Zq207.B a s.1 s.2
def Zq208 (a:List Inode_) (k:Int):Option Int:=
 (Zq207 a (k,0)).bind fun o=>sel o (fun b=>some b) (fun c=>some c)
namespace Zq208
def G:Gam:=mkG [(96,Zq204.FS),(97,Zq206.FS)]
theorem Gok:GOk PR G:=.cons Zq204.ok (.cons Zq206.ok .nil)
end Zq208
namespace Zq207
def c:=codeAt (bodyOf Proofs.Tryz.f66) [1,0,1,0,0]
def sp:SP:=⟨[(0,.cs (.sl tInode_)),(1,.cs I64),(5,.cs I64)],[]⟩
def out (a:List Inode_):FOut ((Int⊕Int)):=fun oo0 _ kk0=>sel oo0 (fun bb0=>kk0 (.rt) ⟨[(4,.cs I64 bb0)],[]⟩) (fun cc0=>kk0 (.ex 0) ⟨[(1,.cs I64 cc0)],[]⟩)
def fr:=lfrag sp (fun x=>Zq207 x.1.1 (x.1.2.1,x.1.2.2.1)) fun x=>out x.1.1
theorem ok:CodeOk PR 58 2 (.loop c) fr:=
 lp_ok tbok hmix h0 .no (G:=Zq208.G) Zq208.Gok (L:=mkL []) (l:=[]) hT [0,1,5] [] [(0,([1],[]))] ([4],[]) (fun x s=>B x.1.1 s.1 s.2) (fun x s=>⟨[(0,.cs (.sl tInode_) x.1.1),(1,.cs I64 s.1),(5,.cs I64 s.2)],[]⟩) (fun x=>(x.1.2.1,x.1.2.2.1))
  (fun x s=>by simp only[B,mC,mB,mS,mO,mN];kernel_rfl)
end Zq207
namespace Zq208
def pts:List PT:=[.cs (.sl tInode_),.cs I64]
def FS:FS:=mkFS [.sh,.sh] pts (fun x=>Zq208 x.1 x.2.1) fun t=>⟨[.cs I64 t],[]⟩
theorem ok:FsOk PR 66 FS:=
 fn_ok tbok hmix Proofs.Tryz.f66 h0 (.R (.L (.R (.one (.fr 0))))) (G:=G) Gok (L:=mkL [(0,Zq207.fr)]) (l:=[(0,.loop Zq207.c)]) ⟨Lam.cons Zq207.ok,trivial⟩
  (fun x=>by simp only[Zq208,mC,mB,mS,mO,mN];kernel_rfl)
end Zq208
def Zq209.B (a:List Int) (k_:Int) (i_:Int):Option ((Int×Int)⊕((Int⊕Int))):=
 cond (decide (i_<(a.length:Int))) (cond (inB i_ a.length) (cond ((a.getD i_.toNat 0) != (IntKind.u8.wrap k_)) (some (.inr (.inl (-1)))) (some (.inl (w64 (k_+1),w64 (i_+1))))) none) (some (.inr (.inr k_)))
def Zq209 (a:List Int):(Int×Int)→Option ((Int⊕Int)):=
 loopL fun s=>Zq209.B a s.1 s.2
def Zq210 (a:List Int) (k:Int):Option Int:=
 (Zq209 a (k,0)).bind fun o=>sel o (fun b=>some b) (fun c=>some c)
namespace Zq209
def c:=codeAt (bodyOf Proofs.Tryz.f98) [1,0,1,0,0]
def sp:SP:=⟨[(0,.cs SB),(1,.cs I64),(5,.cs I64)],[]⟩
def out (a:List Int):FOut ((Int⊕Int)):=fun oo0 _ kk0=>sel oo0 (fun bb0=>kk0 (.rt) ⟨[(4,.cs I64 bb0)],[]⟩) (fun cc0=>kk0 (.ex 0) ⟨[(1,.cs I64 cc0)],[]⟩)
def fr:=lfrag sp (fun x=>Zq209 x.1.1 (x.1.2.1,x.1.2.2.1)) fun x=>out x.1.1
theorem ok:CodeOk PR 22 2 (.loop c) fr:=
 lp_ok tbok hmix h0 .no (G:=(mkG [])) .nil (L:=mkL []) (l:=[]) hT [0,1,5] [] [(0,([1],[]))] ([4],[]) (fun x s=>B x.1.1 s.1 s.2) (fun x s=>⟨[(0,.cs SB x.1.1),(1,.cs I64 s.1),(5,.cs I64 s.2)],[]⟩) (fun x=>(x.1.2.1,x.1.2.2.1))
  (fun x s=>by simp only[B,mC,mB,mS,mO,mN];kernel_rfl)
end Zq209
namespace Zq210
def pts:List PT:=[.cs SB,.cs I64]
def FS:FS:=mkFS [.sh,.sh] pts (fun x=>Zq210 x.1 x.2.1) fun t=>⟨[.cs I64 t],[]⟩
theorem ok:FsOk PR 98 FS:=
 fn_ok tbok hmix Proofs.Tryz.f98 h0 (.R (.L (.R (.one (.fr 0))))) (G:=(mkG [])) .nil (L:=mkL [(0,Zq209.fr)]) (l:=[(0,.loop Zq209.c)]) ⟨Lam.cons Zq209.ok,trivial⟩
  (fun x=>by simp only[Zq210,mC,mB,mS,mO,mN];kernel_rfl)
end Zq210
def Zq211.B (a:List (List Int)) (k_:Int) (i_:Int):Option ((Int×Int)⊕((Int⊕Int))):=
 cond (decide (i_<(a.length:Int))) (cond (inB i_ a.length) ((Zq210 (a.getD i_.toNat []) k_).bind fun r=>cond (decide (r<0)) (some (.inr (.inl (-1)))) (some (.inl (r,w64 (i_+1))))) none) (some (.inr (.inr k_)))
def Zq211 (a:List (List Int)):(Int×Int)→Option ((Int⊕Int)):=
 loopL fun s=>Zq211.B a s.1 s.2
def Zq212 (a:List (List Int)) (k:Int):Option Int:=
 (Zq211 a (k,0)).bind fun o=>sel o (fun b=>some b) (fun c=>some c)
namespace Zq212
def G:Gam:=mkG [(98,Zq210.FS)]
theorem Gok:GOk PR G:=.cons Zq210.ok .nil
end Zq212
namespace Zq211
def c:=codeAt (bodyOf Proofs.Tryz.f67) [1,0,1,0,0]
def sp:SP:=⟨[(0,.cs (.sl SB)),(1,.cs I64),(5,.cs I64)],[]⟩
def out (a:List (List Int)):FOut ((Int⊕Int)):=fun oo0 _ kk0=>sel oo0 (fun bb0=>kk0 (.rt) ⟨[(4,.cs I64 bb0)],[]⟩) (fun cc0=>kk0 (.ex 0) ⟨[(1,.cs I64 cc0)],[]⟩)
def fr:=lfrag sp (fun x=>Zq211 x.1.1 (x.1.2.1,x.1.2.2.1)) fun x=>out x.1.1
theorem ok:CodeOk PR 21 2 (.loop c) fr:=
 lp_ok tbok hmix h0 .no (G:=Zq212.G) Zq212.Gok (L:=mkL []) (l:=[]) hT [0,1,5] [] [(0,([1],[]))] ([4],[]) (fun x s=>B x.1.1 s.1 s.2) (fun x s=>⟨[(0,.cs (.sl SB) x.1.1),(1,.cs I64 s.1),(5,.cs I64 s.2)],[]⟩) (fun x=>(x.1.2.1,x.1.2.2.1))
  (fun x s=>by simp only[B,mC,mB,mS,mO,mN];kernel_rfl)
end Zq211
namespace Zq212
def pts:List PT:=[.cs (.sl SB),.cs I64]
def FS:FS:=mkFS [.sh,.sh] pts (fun x=>Zq212 x.1 x.2.1) fun t=>⟨[.cs I64 t],[]⟩
theorem ok:FsOk PR 67 FS:=
 fn_ok tbok hmix Proofs.Tryz.f67 h0 (.R (.L (.R (.one (.fr 0))))) (G:=G) Gok (L:=mkL [(0,Zq211.fr)]) (l:=[(0,.loop Zq211.c)]) ⟨Lam.cons Zq211.ok,trivial⟩
  (fun x=>by simp only[Zq212,mC,mB,mS,mO,mN];kernel_rfl)
end Zq212
def Zq213 (a:Fs_) (k:Int):Option Int:=
 (Zq208 a.1 k).bind fun r=>cond (decide (r<0)) (some (-1)) ((Zq212 a.2.1 r).bind fun r2=>cond (decide (r2<0)) (some (-1)) (some r2))
namespace Zq213
def G:Gam:=mkG [(66,Zq208.FS),(67,Zq212.FS)]
def pts:List PT:=[.cs tFs_,.cs I64]
def FS:FS:=mkFS [.sh,.sh] pts (fun x=>Zq213 x.1 x.2.1) fun t=>⟨[.cs I64 t],[]⟩
theorem ok:FsOk PR 32 FS:=
 fn_ok tbok hmix Proofs.Tryz.f32 ⟨[2],[],[],0⟩ .no (G:=G) (show GOk PR G from .cons Zq208.ok (.cons Zq212.ok .nil)) (L:=mkL []) (l:=[]) hT
  (fun x=>by simp only[Zq213,mC,mB,mS,mO,mN];kernel_rfl)
end Zq213
def Zq214 (a:FsResult_) (k:Int):Option Int:=
 (Zq213 a.2.1 k).bind fun r=>cond (decide (r<0)) (some (-1)) (some r)
namespace Zq214
def G:Gam:=mkG [(32,Zq213.FS)]
def pts:List PT:=[.cs tFsResult_,.cs I64]
def FS:FS:=mkFS [.sh,.sh] pts (fun x=>Zq214 x.1 x.2.1) fun t=>⟨[.cs I64 t],[]⟩
theorem ok:FsOk PR 12 FS:=
 fn_ok tbok hmix Proofs.Tryz.f12 ⟨[2],[],[],0⟩ .no (G:=G) (show GOk PR G from .cons Zq213.ok .nil) (L:=mkL []) (l:=[]) hT
  (fun x=>by simp only[Zq214,mC,mB,mS,mO,mN];kernel_rfl)
end Zq214
def Zq215 (aD:Disk_):Option Bool:=
 (Zq6 aD 1048576).bind fun r=>cond (decide (r<0)) (some true) ((Zq14 aD).bind fun r2=>(Zq80 (r2.1,r2.2.1,r2.2.2)).bind fun r3=>(Zq14 aD).bind fun r4=>(Zq163 (r4.1,r4.2.1,r4.2.2)).bind fun r5=>(Zq177 (r5.1,(r5.2.1.1,r5.2.1.2.1,r5.2.1.2.2),r5.2.2) (r3.1,(r3.2.1.1,r3.2.1.2.1,r3.2.1.2.2),r3.2.2)).bind fun r6=>cond (!r6) (some false) ((Zq14 aD).bind fun r7=>(Zq183 (r4.1,r4.2.1,r4.2.2) (r7.1,r7.2.1,r7.2.2)).bind fun r8=>cond (!r8) (some false) ((Zq190 (r4.1,r4.2.1,r4.2.2) 1).bind fun r9=>cond (decide (r9.1<0)) (some false) ((Zq177 (r5.1,(r5.2.1.1,r5.2.1.2.1,r5.2.1.2.2),r5.2.2) (r3.1,(r3.2.1.1,r3.2.1.2.1,r3.2.1.2.2),r3.2.2)).bind fun r10=>cond (!r10) (some false) ((Zq202 (r5.1,(r5.2.1.1,r5.2.1.2.1,r5.2.1.2.2),r5.2.2) 1).bind fun r11=>(Zq214 (r5.1,(r11.2.2.1.1,r11.2.2.1.2.1,r5.2.1.2.2),r5.2.2) 1).bind fun r12=>cond (decide (r12<0)) (some false) (cond (r12 != r11.1) (some false) ((Zq14 aD).bind fun r13=>(Zq163 (r13.1,r13.2.1,r13.2.2)).bind fun r14=>(Zq177 (r14.1,(r14.2.1.1,r14.2.1.2.1,r14.2.1.2.2),r14.2.2) (r3.1,(r3.2.1.1,r3.2.1.2.1,r3.2.1.2.2),r3.2.2)).bind fun r15=>cond (!r15) (some false) ((Zq214 (r5.1,(r11.2.2.1.1,r11.2.2.1.2.1,r5.2.1.2.2),r5.2.2) 1).bind fun r16=>cond (decide (r16<0)) (some false) (cond (r16 != r11.1) (some false) (some true))))))))))
namespace Zq215
def G:Gam:=mkG [(4,Zq6.FS),(6,Zq14.FS),(5,Zq80.FS),(7,Zq163.FS),(8,Zq177.FS),(9,Zq183.FS),(10,Zq190.FS),(11,Zq202.FS),(12,Zq214.FS)]
def pts:List PT:=[.cs tDisk_]
def FS:FS:=mkFS [.sh] pts (fun x=>Zq215 x.1) fun t=>⟨[.cs .bool t],[]⟩
theorem ok:FsOk PR 3 FS:=
 fn_ok tbok hmix Proofs.Tryz.f3 ⟨[1],[],[],0⟩ .no (G:=G) (show GOk PR G from .cons Zq6.ok (.cons Zq14.ok (.cons Zq80.ok (.cons Zq163.ok (.cons Zq177.ok (.cons Zq183.ok (.cons Zq190.ok (.cons Zq202.ok (.cons Zq214.ok .nil))))))))) (L:=mkL []) (l:=[]) hT
  (fun x=>by simp only[Zq215,mC,mB,mS,mO,mN];kernel_rfl)
end Zq215
end Mf
