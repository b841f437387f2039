import Derived.Test.YtmgbiodgebigeaaGreatSyncWorldA
set_option linter.unusedVariables false
set_option linter.unusedSimpArgs false
noncomputable section
namespace Mf
open Go
set_option maxRecDepth 100000
theorem Xqp (a:(List Int)) (n:Int) (hw:wt (.sl (.int .i64)) a≤2147483648):∃ r,Zq0 a n=some r:=by
 simp only[Zq0]
 repeat' (first | with_reducible exact Yvw _ | with_reducible refine Yvz (Yvw _) fun _=>?_ | with_reducible apply Yvx)
theorem Xs3 (a:(List (List Int))) (n:Int) (hw:wt (.sl (.sl (.int .i64))) a≤2147483648):∃ r,Zq2 a n=some r:=by
 have hw2:=hw;simp only[wA] at hw2
 have hl:a.length≤2147483648:=by have:=Ylz (wt (.sl (.int .i64))) (fun x=>by simp only[wA];omega) a;omega
 have lp:∀ k,∃ r,Zq1 a (k,0)=some r:=fun k=>by
  refine Ysg (f:=fun s=>Zq1.B a s.1 s.2) (fun(i:Nat) (k:Int)=>(k,(i:Int))) a.length (fun i k hi=>?_) (fun k=>?_) a.length 0 k (by omega)
  ·have hm:=Ys0 (wt (.sl (.int .i64))) a i hi
   have hb:inB (i:Int) a.length=true:=Yt7 (by omega) (by omega)
   simp only[Zq1.B,Yv6 hi,hb,Yv0,toNat_cast,getD_lt _ hi,Yvf (by omega:i<4294967296)]
   repeat' (first | with_reducible exact Ywa _ | (with_reducible refine .inl ⟨_,rfl,?_⟩;exact⟨_,rfl⟩) | with_reducible refine Yvm (Xqp _ _ (by first | omega | (simp only[wA] at hm ⊢;omega))) fun _=>?_ | with_reducible refine Yvm (Yvw _) fun _=>?_ | with_reducible apply Yva)
  ·refine⟨.inr k,?_⟩;simp only[Zq1.B,Ywf (jB _),Yvy]
 simp only[Zq2]
 repeat' (first | with_reducible exact Yvw _ | with_reducible refine Yvz (lp _) fun o=>?_ | with_reducible refine Yvz (Yvw _) fun _=>?_ | with_reducible apply Yvx | (cases o<;>exact⟨_,rfl⟩))
theorem Xtz (a:Xj) (n:Int) (hw:wt Xm a≤2147483648):∃ r,Zq3 a n=some r:=by
 simp only[Zq3]
 repeat' (first | with_reducible exact Yvw _ | with_reducible refine Yvz (Xqp _ _ (by first | omega | (simp only[wA] at hw ⊢;omega))) fun _=>?_ | with_reducible refine Yvz (Yvw _) fun _=>?_ | with_reducible apply Yvx)
theorem Xs5 (a:(List Xj)) (n:Int) (hw:wt (.sl Xm) a≤2147483648):∃ r,Zq5 a n=some r:=by
 have hw2:=hw;simp only[wA] at hw2
 have hl:a.length≤2147483648:=by have:=Ylz (wt Xm) (fun x=>by simp only[wA];omega) a;omega
 have lp:∀ k,∃ r,Zq4 a (k,0)=some r:=fun k=>by
  refine Ysg (f:=fun s=>Zq4.B a s.1 s.2) (fun(i:Nat) (k:Int)=>(k,(i:Int))) a.length (fun i k hi=>?_) (fun k=>?_) a.length 0 k (by omega)
  ·have hm:=Ys0 (wt Xm) a i hi
   have hb:inB (i:Int) a.length=true:=Yt7 (by omega) (by omega)
   simp only[Zq4.B,Yv6 hi,hb,Yv0,toNat_cast,getD_lt _ hi,Yvf (by omega:i<4294967296)]
   repeat' (first | with_reducible exact Ywa _ | (with_reducible refine .inl ⟨_,rfl,?_⟩;exact⟨_,rfl⟩) | with_reducible refine Yvm (Xtz _ _ (by first | omega | (simp only[wA] at hm ⊢;omega))) fun _=>?_ | with_reducible refine Yvm (Yvw _) fun _=>?_ | with_reducible apply Yva)
  ·refine⟨.inr k,?_⟩;simp only[Zq4.B,Ywf (jB _),Yvy]
 simp only[Zq5]
 repeat' (first | with_reducible exact Yvw _ | with_reducible refine Yvz (lp _) fun o=>?_ | with_reducible refine Yvz (Yvw _) fun _=>?_ | with_reducible apply Yvx | (cases o<;>exact⟨_,rfl⟩))
theorem Xs8 (a:Xd) (n:Int) (hw:wt Xh a≤2147483648):∃ r,Zq6 a n=some r:=by
 simp only[Zq6]
 repeat' (first | with_reducible exact Yvw _ | with_reducible refine Yvz (Xs3 _ _ (by first | omega | (simp only[wA] at hw ⊢;omega))) fun _=>?_ | with_reducible refine Yvz (Xs5 _ _ (by first | omega | (simp only[wA] at hw ⊢;omega))) fun _=>?_ | with_reducible refine Yvz (Yvw _) fun _=>?_ | with_reducible apply Yvx)
theorem Xvv (a:Xg) (n:Int) (hw:wt Xi a≤2147483648):∃ r,Zq7 a n=some r:=by
 simp only[Zq7]
 repeat' (first | with_reducible exact Yvw _ | with_reducible refine Yvz (Yvw _) fun _=>?_ | with_reducible apply Yvx)
theorem Xtm (a:(List Xg)) (n:Int) (hw:wt (.sl Xi) a≤2147483648):∃ r,Zq9 a n=some r:=by
 have hw2:=hw;simp only[wA] at hw2
 have hl:a.length≤2147483648:=by have:=Ylz (wt Xi) (fun x=>by simp only[wA];omega) a;omega
 have lp:∀ k,∃ r,Zq8 a (k,0)=some r:=fun k=>by
  refine Ysg (f:=fun s=>Zq8.B a s.1 s.2) (fun(i:Nat) (k:Int)=>(k,(i:Int))) a.length (fun i k hi=>?_) (fun k=>?_) a.length 0 k (by omega)
  ·have hm:=Ys0 (wt Xi) a i hi
   have hb:inB (i:Int) a.length=true:=Yt7 (by omega) (by omega)
   simp only[Zq8.B,Yv6 hi,hb,Yv0,toNat_cast,getD_lt _ hi,Yvf (by omega:i<4294967296)]
   repeat' (first | with_reducible exact Ywa _ | (with_reducible refine .inl ⟨_,rfl,?_⟩;exact⟨_,rfl⟩) | with_reducible refine Yvm (Xvv _ _ (by first | omega | (simp only[wA] at hm ⊢;omega))) fun _=>?_ | with_reducible refine Yvm (Yvw _) fun _=>?_ | with_reducible apply Yva)
  ·refine⟨.inr k,?_⟩;simp only[Zq8.B,Ywf (jB _),Yvy]
 simp only[Zq9]
 repeat' (first | with_reducible exact Yvw _ | with_reducible refine Yvz (lp _) fun o=>?_ | with_reducible refine Yvz (Yvw _) fun _=>?_ | with_reducible apply Yvx | (cases o<;>exact⟨_,rfl⟩))
theorem Xt0 (a:Xa) (n:Int) (hw:wt Xc a≤2147483648):∃ r,Xoa a n=some r:=by
 simp only[Xoa]
 repeat' (first | with_reducible exact Yvw _ | with_reducible refine Yvz (Xqp _ _ (by first | omega | (simp only[wA] at hw ⊢;omega))) fun _=>?_ | with_reducible refine Yvz (Xtm _ _ (by first | omega | (simp only[wA] at hw ⊢;omega))) fun _=>?_ | with_reducible refine Yvz (Yvw _) fun _=>?_ | with_reducible apply Yvx)
theorem Xt5 (a:(List Xa)) (n:Int) (hw:wt (.sl Xc) a≤2147483648):∃ r,Xke a n=some r:=by
 have hw2:=hw;simp only[wA] at hw2
 have hl:a.length≤2147483648:=by have:=Ylz (wt Xc) (fun x=>by simp only[wA];omega) a;omega
 have lp:∀ k,∃ r,Xk9 a (k,0)=some r:=fun k=>by
  refine Ysg (f:=fun s=>Xk9.B a s.1 s.2) (fun(i:Nat) (k:Int)=>(k,(i:Int))) a.length (fun i k hi=>?_) (fun k=>?_) a.length 0 k (by omega)
  ·have hm:=Ys0 (wt Xc) a i hi
   have hb:inB (i:Int) a.length=true:=Yt7 (by omega) (by omega)
   simp only[Xk9.B,Yv6 hi,hb,Yv0,toNat_cast,getD_lt _ hi,Yvf (by omega:i<4294967296)]
   repeat' (first | with_reducible exact Ywa _ | (with_reducible refine .inl ⟨_,rfl,?_⟩;exact⟨_,rfl⟩) | with_reducible refine Yvm (Xt0 _ _ (by first | omega | (simp only[wA] at hm ⊢;omega))) fun _=>?_ | with_reducible refine Yvm (Yvw _) fun _=>?_ | with_reducible apply Yva)
  ·refine⟨.inr k,?_⟩;simp only[Xk9.B,Ywf (jB _),Yvy]
 simp only[Xke]
 repeat' (first | with_reducible exact Yvw _ | with_reducible refine Yvz (lp _) fun o=>?_ | with_reducible refine Yvz (Yvw _) fun _=>?_ | with_reducible apply Yvx | (cases o<;>exact⟨_,rfl⟩))
theorem Xuc (a:(List Int)) (n:Int) (hw:wt (.sl (.int .u8)) a≤2147483648):∃ r,Xod a n=some r:=by
 simp only[Xod]
 repeat' (first | with_reducible exact Yvw _ | with_reducible refine Yvz (Yvw _) fun _=>?_ | with_reducible apply Yvx)
theorem Xt3 (a:(List (List Int))) (n:Int) (hw:wt (.sl (.sl (.int .u8))) a≤2147483648):∃ r,Xkt a n=some r:=by
 have hw2:=hw;simp only[wA] at hw2
 have hl:a.length≤2147483648:=by have:=Ylz (wt (.sl (.int .u8))) (fun x=>by simp only[wA];omega) a;omega
 have lp:∀ k,∃ r,Xkq a (k,0)=some r:=fun k=>by
  refine Ysg (f:=fun s=>Xkq.B a s.1 s.2) (fun(i:Nat) (k:Int)=>(k,(i:Int))) a.length (fun i k hi=>?_) (fun k=>?_) a.length 0 k (by omega)
  ·have hm:=Ys0 (wt (.sl (.int .u8))) a i hi
   have hb:inB (i:Int) a.length=true:=Yt7 (by omega) (by omega)
   simp only[Xkq.B,Yv6 hi,hb,Yv0,toNat_cast,getD_lt _ hi,Yvf (by omega:i<4294967296)]
   repeat' (first | with_reducible exact Ywa _ | (with_reducible refine .inl ⟨_,rfl,?_⟩;exact⟨_,rfl⟩) | with_reducible refine Yvm (Xuc _ _ (by first | omega | (simp only[wA] at hm ⊢;omega))) fun _=>?_ | with_reducible refine Yvm (Yvw _) fun _=>?_ | with_reducible apply Yva)
  ·refine⟨.inr k,?_⟩;simp only[Xkq.B,Ywf (jB _),Yvy]
 simp only[Xkt]
 repeat' (first | with_reducible exact Yvw _ | with_reducible refine Yvz (lp _) fun o=>?_ | with_reducible refine Yvz (Yvw _) fun _=>?_ | with_reducible apply Yvx | (cases o<;>exact⟨_,rfl⟩))
theorem Xuh (a:Fs_) (n:Int) (hw:wt Xk a≤2147483648):∃ r,Xm8 a n=some r:=by
 simp only[Xm8]
 repeat' (first | with_reducible exact Yvw _ | with_reducible refine Yvz (Xt5 _ _ (by first | omega | (simp only[wA] at hw ⊢;omega))) fun _=>?_ | with_reducible refine Yvz (Xt3 _ _ (by first | omega | (simp only[wA] at hw ⊢;omega))) fun _=>?_ | with_reducible refine Yvz (Yvw _) fun _=>?_ | with_reducible apply Yvx)
theorem Xvr (a:X0) (n:Int) (hw:wt Xp a≤2147483648):∃ r,Xob a n=some r:=by
 simp only[Xob]
 repeat' (first | with_reducible exact Yvw _ | with_reducible refine Yvz (Xs8 _ _ (by first | omega | (simp only[wA] at hw ⊢;omega))) fun _=>?_ | with_reducible refine Yvz (Xuh _ _ (by first | omega | (simp only[wA] at hw ⊢;omega))) fun _=>?_ | with_reducible refine Yvz (Yvw _) fun _=>?_ | with_reducible apply Yvx)
theorem Xqg (a:(List Int)) (hw:wt (.sl (.int .i64)) a≤2147483648):Xi0 a=some a:=by
 have hw2:=hw;simp only[wA] at hw2
 have hl:a.length≤2147483648:=by have:=Ylz (wt (.int .i64)) (fun x=>by simp only[wA];omega) a;omega
 have lp:Xko a (0,List.replicate (a.length:Int).toNat 0)=some a:=by
  refine Yu3 a (fun s=>Xko.B a s.1 s.2) 0 (fun i hi out ho=>?_) (fun out ho=>?_)
  ·have hm:=Ys0 (wt (.int .i64)) a i hi
   have hb:inB (i:Int) a.length=true:=Yt7 (by omega) (by omega)
   have hc:inB (i:Int) out.length=true:=Yt7 (by omega) (by omega)
   simp only[Xko.B,Yv6 hi,hb,hc,Yv0,toNat_cast,getD_lt _ hi,jA,Ywj,Yvf (by omega:i<4294967296)]
  ·simp only[Xko.B];rw[show decide ((a.length:Int)<(a.length:Int))=false by simp];rfl
 simp only[Xi0]
 rw[show(decide ((0:Int)≤(a.length:Int))&&(decide ((a.length:Int)≤(a.length:Int))&&decide ((a.length:Int)≤2147483648)))=true by simp;omega]
 simp only[Yv0,jA,lp]
theorem Xtg (a:(List (List Int))) (hw:wt (.sl (.sl (.int .i64))) a≤2147483648):Xkc a=some a:=by
 have hw2:=hw;simp only[wA] at hw2
 have hl:a.length≤2147483648:=by have:=Ylz (wt (.sl (.int .i64))) (fun x=>by simp only[wA];omega) a;omega
 have lp:Xkd a (0,List.replicate (a.length:Int).toNat ([]:List Int))=some a:=by
  refine Yu3 a (fun s=>Xkd.B a s.1 s.2) [] (fun i hi out ho=>?_) (fun out ho=>?_)
  ·have hm:=Ys0 (wt (.sl (.int .i64))) a i hi
   have hb:inB (i:Int) a.length=true:=Yt7 (by omega) (by omega)
   have hc:inB (i:Int) out.length=true:=Yt7 (by omega) (by omega)
   have h0:=Xqg a[i] (by omega)
   simp only[Xkd.B,Yv6 hi,hb,hc,Yv0,toNat_cast,getD_lt _ hi,h0,jA,Ywj,Yvf (by omega:i<4294967296)]
  ·simp only[Xkd.B];rw[show decide ((a.length:Int)<(a.length:Int))=false by simp];rfl
 simp only[Xkc]
 rw[show(decide ((0:Int)≤(a.length:Int))&&(decide ((a.length:Int)≤(a.length:Int))&&decide ((a.length:Int)≤2147483648)))=true by simp;omega]
 simp only[Yv0,jA,lp]
theorem Xui (a:Xj) (hw:wt Xm a≤2147483648):Xn4 a=some a:=by
 obtain⟨x0,x1,⟨⟩⟩:=a;simp only[wA] at hw
 have h_x1_0:=Xqg x1 (by simp only[wA];omega)
 simp only[Xn4,h_x1_0,jA,Ywj]
theorem Xvf (a:(List Xj)) (hw:wt (.sl Xm) a≤2147483648):Xkl a=some a:=by
 have hw2:=hw;simp only[wA] at hw2
 have hl:a.length≤2147483648:=by have:=Ylz (wt Xm) (fun x=>by simp only[wA];omega) a;omega
 have lp:Xk8 a (0,List.replicate (a.length:Int).toNat Xv)=some a:=by
  refine Yu3 a (fun s=>Xk8.B a s.1 s.2) Xv (fun i hi out ho=>?_) (fun out ho=>?_)
  ·have hm:=Ys0 (wt Xm) a i hi
   have hb:inB (i:Int) a.length=true:=Yt7 (by omega) (by omega)
   have hc:inB (i:Int) out.length=true:=Yt7 (by omega) (by omega)
   have h0:=Xui a[i] (by omega)
   simp only[Xk8.B,Yv6 hi,hb,hc,Yv0,toNat_cast,getD_lt _ hi,h0,jA,Ywj,Yvf (by omega:i<4294967296)]
  ·simp only[Xk8.B];rw[show decide ((a.length:Int)<(a.length:Int))=false by simp];rfl
 simp only[Xkl]
 rw[show(decide ((0:Int)≤(a.length:Int))&&(decide ((a.length:Int)≤(a.length:Int))&&decide ((a.length:Int)≤2147483648)))=true by simp;omega]
 simp only[Yv0,jA,lp]
theorem Xu7 (a:Xd) (hw:wt Xh a≤2147483648):Xoc a=some a:=by
 obtain⟨x0,x1,⟨⟩⟩:=a;simp only[wA] at hw
 have h_x0_0:=Xtg x0 (by simp only[wA];omega)
 have h_x1_1:=Xvf x1 (by simp only[wA];omega)
 simp only[Xoc,h_x0_0,h_x1_1,jA,Ywj]
theorem Xu9 (a:Xg) (hw:wt Xi a≤2147483648):Xn0 a=some a:=by
 obtain⟨x0,x1,⟨⟩⟩:=a;simp only[wA] at hw;simp only[Xn0,jA,Ywj]
theorem Xuz (a:(List Xg)) (hw:wt (.sl Xi) a≤2147483648):Xkv a=some a:=by
 have hw2:=hw;simp only[wA] at hw2
 have hl:a.length≤2147483648:=by have:=Ylz (wt Xi) (fun x=>by simp only[wA];omega) a;omega
 have lp:Xla a (0,List.replicate (a.length:Int).toNat Xl)=some a:=by
  refine Yu3 a (fun s=>Xla.B a s.1 s.2) Xl (fun i hi out ho=>?_) (fun out ho=>?_)
  ·have hm:=Ys0 (wt Xi) a i hi
   have hb:inB (i:Int) a.length=true:=Yt7 (by omega) (by omega)
   have hc:inB (i:Int) out.length=true:=Yt7 (by omega) (by omega)
   have h0:=Xu9 a[i] (by omega)
   simp only[Xla.B,Yv6 hi,hb,hc,Yv0,toNat_cast,getD_lt _ hi,h0,jA,Ywj,Yvf (by omega:i<4294967296)]
  ·simp only[Xla.B];rw[show decide ((a.length:Int)<(a.length:Int))=false by simp];rfl
 simp only[Xkv]
 rw[show(decide ((0:Int)≤(a.length:Int))&&(decide ((a.length:Int)≤(a.length:Int))&&decide ((a.length:Int)≤2147483648)))=true by simp;omega]
 simp only[Yv0,jA,lp]
theorem Xt1 (a:Xa) (hw:wt Xc a≤2147483648):Xny a=some a:=by
 obtain⟨x0,x1,x2,x3,x4,⟨⟩⟩:=a;simp only[wA] at hw
 have h_x3_0:=Xqg x3 (by simp only[wA];omega)
 have h_x4_1:=Xuz x4 (by simp only[wA];omega)
 simp only[Xny,h_x3_0,h_x4_1,jA,Ywj]
theorem Xta (a:(List Xa)) (hw:wt (.sl Xc) a≤2147483648):Xlc a=some a:=by
 have hw2:=hw;simp only[wA] at hw2
 have hl:a.length≤2147483648:=by have:=Ylz (wt Xc) (fun x=>by simp only[wA];omega) a;omega
 have lp:Xku a (0,List.replicate (a.length:Int).toNat Xb)=some a:=by
  refine Yu3 a (fun s=>Xku.B a s.1 s.2) Xb (fun i hi out ho=>?_) (fun out ho=>?_)
  ·have hm:=Ys0 (wt Xc) a i hi
   have hb:inB (i:Int) a.length=true:=Yt7 (by omega) (by omega)
   have hc:inB (i:Int) out.length=true:=Yt7 (by omega) (by omega)
   have h0:=Xt1 a[i] (by omega)
   simp only[Xku.B,Yv6 hi,hb,hc,Yv0,toNat_cast,getD_lt _ hi,h0,jA,Ywj,Yvf (by omega:i<4294967296)]
  ·simp only[Xku.B];rw[show decide ((a.length:Int)<(a.length:Int))=false by simp];rfl
 simp only[Xlc]
 rw[show(decide ((0:Int)≤(a.length:Int))&&(decide ((a.length:Int)≤(a.length:Int))&&decide ((a.length:Int)≤2147483648)))=true by simp;omega]
 simp only[Yv0,jA,lp]
theorem Xt9 (a:(List Int)) (hw:wt (.sl (.int .u8)) a≤2147483648):Xnt a=some a:=by
 have hw2:=hw;simp only[wA] at hw2
 have hl:a.length≤2147483648:=by have:=Ylz (wt (.int .u8)) (fun x=>by simp only[wA];omega) a;omega
 have lp:Xk2 a (0,List.replicate (a.length:Int).toNat 0)=some a:=by
  refine Yu3 a (fun s=>Xk2.B a s.1 s.2) 0 (fun i hi out ho=>?_) (fun out ho=>?_)
  ·have hm:=Ys0 (wt (.int .u8)) a i hi
   have hb:inB (i:Int) a.length=true:=Yt7 (by omega) (by omega)
   have hc:inB (i:Int) out.length=true:=Yt7 (by omega) (by omega)
   simp only[Xk2.B,Yv6 hi,hb,hc,Yv0,toNat_cast,getD_lt _ hi,jA,Ywj,Yvf (by omega:i<4294967296)]
  ·simp only[Xk2.B];rw[show decide ((a.length:Int)<(a.length:Int))=false by simp];rfl
 simp only[Xnt]
 rw[show(decide ((0:Int)≤(a.length:Int))&&(decide ((a.length:Int)≤(a.length:Int))&&decide ((a.length:Int)≤2147483648)))=true by simp;omega]
 simp only[Yv0,jA,lp]
theorem Xt6 (a:(List (List Int))) (hw:wt (.sl (.sl (.int .u8))) a≤2147483648):Xk4 a=some a:=by
 have hw2:=hw;simp only[wA] at hw2
 have hl:a.length≤2147483648:=by have:=Ylz (wt (.sl (.int .u8))) (fun x=>by simp only[wA];omega) a;omega
 have lp:Xkk a (0,List.replicate (a.length:Int).toNat ([]:List Int))=some a:=by
  refine Yu3 a (fun s=>Xkk.B a s.1 s.2) [] (fun i hi out ho=>?_) (fun out ho=>?_)
  ·have hm:=Ys0 (wt (.sl (.int .u8))) a i hi
   have hb:inB (i:Int) a.length=true:=Yt7 (by omega) (by omega)
   have hc:inB (i:Int) out.length=true:=Yt7 (by omega) (by omega)
   have h0:=Xt9 a[i] (by omega)
   simp only[Xkk.B,Yv6 hi,hb,hc,Yv0,toNat_cast,getD_lt _ hi,h0,jA,Ywj,Yvf (by omega:i<4294967296)]
  ·simp only[Xkk.B];rw[show decide ((a.length:Int)<(a.length:Int))=false by simp];rfl
 simp only[Xk4]
 rw[show(decide ((0:Int)≤(a.length:Int))&&(decide ((a.length:Int)≤(a.length:Int))&&decide ((a.length:Int)≤2147483648)))=true by simp;omega]
 simp only[Yv0,jA,lp]
theorem Xsl (a:Fs_) (hw:wt Xk a≤2147483648):Xnb a=some a:=by
 obtain⟨x0,x1,⟨⟩⟩:=a;simp only[wA] at hw
 have h_x0_0:=Xta x0 (by simp only[wA];omega)
 have h_x1_1:=Xt6 x1 (by simp only[wA];omega)
 simp only[Xnb,h_x0_0,h_x1_1,jA,Ywj]
theorem Xuq (a:X0) (hw:wt Xp a≤2147483648):Xl2 a=some a:=by
 obtain⟨x0,x1,x2,⟨⟩⟩:=a;simp only[wA] at hw
 have h_x0_0:=Xu7 x0 (by simp only[wA];omega)
 have h_x1_1:=Xsl x1 (by simp only[wA];omega)
 have h_x2_2:=Xsl x2 (by simp only[wA];omega)
 simp only[Xl2,h_x0_0,h_x1_1,h_x2_2,jA,Ywj]
theorem Xr1 (a:(List Int)) (hw:wt (.sl (.int .u8)) a≤2147483648):Xg9 a a=some true:=by
 have hw2:=hw;simp only[wA] at hw2
 have hl:a.length≤2147483648:=by have:=Ylz (wt (.int .u8)) (fun x=>by simp only[wA];omega) a;omega
 have lp:Xd3 a a 0=some (.inr ()):=by
  refine Yvi (n:=a.length) (fun s=>Xd3.B a a s) (fun i hi=>?_) ?_
  ·have hm:=Ys0 (wt (.int .u8)) a i hi
   have hb:inB (i:Int) a.length=true:=Yt7 (by omega) (by omega)
   simp only[Xd3.B,Yv6 hi,hb,Yv0,Yvy,toNat_cast,getD_lt _ hi,jA,jK,Yu2,Yux,Yuu,Yvf (by omega:i<4294967296)]
  ·simp only[Xd3.B,Ywf (jB _),Yvy]
 simp only[Xg9,Yu2,Yvy,lp,jA,sel]
theorem Xuo (a:(List (List UInt8))) (hw:wt (.sl .str) a≤2147483648):Xjc a a=some true:=by
 have hw2:=hw;simp only[wA] at hw2
 have hl:a.length≤2147483648:=by have:=Ylz (wt .str) (fun x=>by simp only[wA];omega) a;omega
 have lp:Xe8 a a 0=some (.inr ()):=by
  refine Yvi (n:=a.length) (fun s=>Xe8.B a a s) (fun i hi=>?_) ?_
  ·have hm:=Ys0 (wt .str) a i hi
   have hb:inB (i:Int) a.length=true:=Yt7 (by omega) (by omega)
   simp only[Xe8.B,Yv6 hi,hb,Yv0,Yvy,toNat_cast,getD_lt _ hi,jA,jK,Yu2,Yux,Yuu,Yvf (by omega:i<4294967296)]
  ·simp only[Xe8.B,Ywf (jB _),Yvy]
 simp only[Xjc,Yu2,Yvy,lp,jA,sel]
theorem Xq2 (a:(List Int)) (hw:wt (.sl (.int .i64)) a≤2147483648):Xcl a a=some true:=by
 have hw2:=hw;simp only[wA] at hw2
 have hl:a.length≤2147483648:=by have:=Ylz (wt (.int .i64)) (fun x=>by simp only[wA];omega) a;omega
 have lp:Xer a a 0=some (.inr ()):=by
  refine Yvi (n:=a.length) (fun s=>Xer.B a a s) (fun i hi=>?_) ?_
  ·have hm:=Ys0 (wt (.int .i64)) a i hi
   have hb:inB (i:Int) a.length=true:=Yt7 (by omega) (by omega)
   simp only[Xer.B,Yv6 hi,hb,Yv0,Yvy,toNat_cast,getD_lt _ hi,jA,jK,Yu2,Yux,Yuu,Yvf (by omega:i<4294967296)]
  ·simp only[Xer.B,Ywf (jB _),Yvy]
 simp only[Xcl,Yu2,Yvy,lp,jA,sel]
theorem Xva (a:Xg) (hw:wt Xi a≤2147483648):Xjk a a=some true:=by
 obtain⟨x0,x1,⟨⟩⟩:=a;simp only[wA] at hw;simp only[Xjk,jA,jK,Yu2,Yux,Yuu,Yvy,Yv0]
theorem Xto (a:(List Xg)) (hw:wt (.sl Xi) a≤2147483648):Xe6 a a=some true:=by
 have hw2:=hw;simp only[wA] at hw2
 have hl:a.length≤2147483648:=by have:=Ylz (wt Xi) (fun x=>by simp only[wA];omega) a;omega
 have lp:Xf1 a a 0=some (.inr ()):=by
  refine Yvi (n:=a.length) (fun s=>Xf1.B a a s) (fun i hi=>?_) ?_
  ·have hm:=Ys0 (wt Xi) a i hi
   have hb:inB (i:Int) a.length=true:=Yt7 (by omega) (by omega)
   have h0:=Xva a[i] (by omega)
   simp only[Xf1.B,Yv6 hi,hb,Yv0,Yvy,toNat_cast,getD_lt _ hi,h0,jA,jK,Yu2,Yux,Yuu,Yvf (by omega:i<4294967296)]
  ·simp only[Xf1.B,Ywf (jB _),Yvy]
 simp only[Xe6,Yu2,Yvy,lp,jA,sel]
theorem Xvp (a:Xa) (hw:wt Xc a≤2147483648):Xjb a a=some true:=by
 obtain⟨x0,x1,x2,x3,x4,⟨⟩⟩:=a;simp only[wA] at hw
 have h_x3_0:=Xq2 x3 (by simp only[wA];omega)
 have h_x4_1:=Xto x4 (by simp only[wA];omega)
 simp only[Xjb,h_x3_0,h_x4_1,jA,jK,Yu2,Yux,Yuu,Yvy,Yv0]
theorem Xtr (a:(List Xa)) (hw:wt (.sl Xc) a≤2147483648):Xd7 a a=some true:=by
 have hw2:=hw;simp only[wA] at hw2
 have hl:a.length≤2147483648:=by have:=Ylz (wt Xc) (fun x=>by simp only[wA];omega) a;omega
 have lp:Xev a a 0=some (.inr ()):=by
  refine Yvi (n:=a.length) (fun s=>Xev.B a a s) (fun i hi=>?_) ?_
  ·have hm:=Ys0 (wt Xc) a i hi
   have hb:inB (i:Int) a.length=true:=Yt7 (by omega) (by omega)
   have h0:=Xvp a[i] (by omega)
   simp only[Xev.B,Yv6 hi,hb,Yv0,Yvy,toNat_cast,getD_lt _ hi,h0,jA,jK,Yu2,Yux,Yuu,Yvf (by omega:i<4294967296)]
  ·simp only[Xev.B,Ywf (jB _),Yvy]
 simp only[Xd7,Yu2,Yvy,lp,jA,sel]
theorem Xu0 (a:(List (List Int))) (hw:wt (.sl (.sl (.int .u8))) a≤2147483648):Xe2 a a=some true:=by
 have hw2:=hw;simp only[wA] at hw2
 have hl:a.length≤2147483648:=by have:=Ylz (wt (.sl (.int .u8))) (fun x=>by simp only[wA];omega) a;omega
 have lp:Xgb a a 0=some (.inr ()):=by
  refine Yvi (n:=a.length) (fun s=>Xgb.B a a s) (fun i hi=>?_) ?_
  ·have hm:=Ys0 (wt (.sl (.int .u8))) a i hi
   have hb:inB (i:Int) a.length=true:=Yt7 (by omega) (by omega)
   have h0:=Xr1 a[i] (by omega)
   simp only[Xgb.B,Yv6 hi,hb,Yv0,Yvy,toNat_cast,getD_lt _ hi,h0,jA,jK,Yu2,Yux,Yuu,Yvf (by omega:i<4294967296)]
  ·simp only[Xgb.B,Ywf (jB _),Yvy]
 simp only[Xe2,Yu2,Yvy,lp,jA,sel]
theorem Xq9 (a:Fs_) (hw:wt Xk a≤2147483648):Xeb a a=some true:=by
 obtain⟨x0,x1,⟨⟩⟩:=a;simp only[wA] at hw
 have h_x0_0:=Xtr x0 (by simp only[wA];omega)
 have h_x1_1:=Xu0 x1 (by simp only[wA];omega)
 simp only[Xeb,h_x0_0,h_x1_1,jA,jK,Yu2,Yux,Yuu,Yvy,Yv0]
theorem Xvb (a:Xar) (hw:wt Xz a≤2147483648):Xjl a a=some true:=by
 obtain⟨x0,x1,x2,x3,x4,x5,⟨⟩⟩:=a;simp only[wA] at hw
 have h_x3_0:=Xr1 x3 (by simp only[wA];omega)
 have h_x4_1:=Xuo x4 (by simp only[wA];omega)
 have h_x5_2:=Xq9 x5 (by simp only[wA];omega)
 simp only[Xjl,h_x3_0,h_x4_1,h_x5_2,jA,jK,Yu2,Yux,Yuu,Yvy,Yv0]
theorem Xut (a:(List (List Int))) (hw:wt (.sl (.sl (.int .i64))) a≤2147483648):Xet a a=some true:=by
 have hw2:=hw;simp only[wA] at hw2
 have hl:a.length≤2147483648:=by have:=Ylz (wt (.sl (.int .i64))) (fun x=>by simp only[wA];omega) a;omega
 have lp:Xfe a a 0=some (.inr ()):=by
  refine Yvi (n:=a.length) (fun s=>Xfe.B a a s) (fun i hi=>?_) ?_
  ·have hm:=Ys0 (wt (.sl (.int .i64))) a i hi
   have hb:inB (i:Int) a.length=true:=Yt7 (by omega) (by omega)
   have h0:=Xq2 a[i] (by omega)
   simp only[Xfe.B,Yv6 hi,hb,Yv0,Yvy,toNat_cast,getD_lt _ hi,h0,jA,jK,Yu2,Yux,Yuu,Yvf (by omega:i<4294967296)]
  ·simp only[Xfe.B,Ywf (jB _),Yvy]
 simp only[Xet,Yu2,Yvy,lp,jA,sel]
theorem Xub (a:Xj) (hw:wt Xm a≤2147483648):Xja a a=some true:=by
 obtain⟨x0,x1,⟨⟩⟩:=a;simp only[wA] at hw
 have h_x1_0:=Xq2 x1 (by simp only[wA];omega)
 simp only[Xja,h_x1_0,jA,jK,Yu2,Yux,Yuu,Yvy,Yv0]
theorem Xts (a:(List Xj)) (hw:wt (.sl Xm) a≤2147483648):Xd6 a a=some true:=by
 have hw2:=hw;simp only[wA] at hw2
 have hl:a.length≤2147483648:=by have:=Ylz (wt Xm) (fun x=>by simp only[wA];omega) a;omega
 have lp:Xf8 a a 0=some (.inr ()):=by
  refine Yvi (n:=a.length) (fun s=>Xf8.B a a s) (fun i hi=>?_) ?_
  ·have hm:=Ys0 (wt Xm) a i hi
   have hb:inB (i:Int) a.length=true:=Yt7 (by omega) (by omega)
   have h0:=Xub a[i] (by omega)
   simp only[Xf8.B,Yv6 hi,hb,Yv0,Yvy,toNat_cast,getD_lt _ hi,h0,jA,jK,Yu2,Yux,Yuu,Yvf (by omega:i<4294967296)]
  ·simp only[Xf8.B,Ywf (jB _),Yvy]
 simp only[Xd6,Yu2,Yvy,lp,jA,sel]
theorem Xvj (a:Xd) (hw:wt Xh a≤2147483648):Xi8 a a=some true:=by
 obtain⟨x0,x1,⟨⟩⟩:=a;simp only[wA] at hw
 have h_x0_0:=Xut x0 (by simp only[wA];omega)
 have h_x1_1:=Xts x1 (by simp only[wA];omega)
 simp only[Xi8,h_x0_0,h_x1_1,jA,jK,Yu2,Yux,Yuu,Yvy,Yv0]
theorem Xsn (a:X0) (hw:wt Xp a≤2147483648):Xgs a a=some true:=by
 obtain⟨x0,x1,x2,⟨⟩⟩:=a;simp only[wA] at hw
 have h_x0_0:=Xvj x0 (by simp only[wA];omega)
 have h_x1_1:=Xq9 x1 (by simp only[wA];omega)
 have h_x2_2:=Xq9 x2 (by simp only[wA];omega)
 simp only[Xgs,h_x0_0,h_x1_1,h_x2_2,jA,jK,Yu2,Yux,Yuu,Yvy,Yv0]
theorem Xuf (a:Xaa) (hw:wt Xt a≤2147483648):Xho a a=some true:=by
 obtain⟨x0,x1,x2,⟨⟩⟩:=a;simp only[wA] at hw
 have h_x1_0:=Xvb x1 (by simp only[wA];omega)
 have h_x2_1:=Xsn x2 (by simp only[wA];omega)
 simp only[Xho,h_x1_0,h_x2_1,jA,jK,Yu2,Yux,Yuu,Yvy,Yv0]
theorem Xr4:∀ (n:Nat) (k:Int) (out:List UInt8),0≤k→k<10 ^ n→out.length+n≤2147483648→k≤4611686018427387904→∃ s,Xf0 (k,out)=some s∧s.length≤out.length+n
 |0,k,out,h0,h1,h2,h3=>by
  have:k=0:=by simp at h1;omega
  subst this
  exact⟨out,Yap (by simp only[Xf0.B];rfl),by omega⟩
 |n+1,k,out,h0,h1,h2,h3=>by
  by_cases hk:k=0
  ·subst hk;exact⟨out,Yap (by simp only[Xf0.B];rfl),by omega⟩
  ·have hd:k.tdiv 10=k / 10:=Int.tdiv_eq_ediv_of_nonneg h0
   have hq:w64 (k / 10)=k / 10:=Yr5 (by omega) (by omega)
   have hp:k / 10<10 ^ n:=by rw[Int.pow_succ] at h1;omega
   obtain⟨s,hs,hl⟩:=Xr4 n (k / 10) ((([IntKind.u8.wrap (w64 ((48:Int)+(k.tmod 10)))]).map fun n=>UInt8.ofNat n.toNat)++out) (by omega) hp (by simp;omega) (by omega)
   refine⟨s,?_,by simp at hl;omega⟩
   rw[←hs];refine Ybe (s':=(k / 10,_)) ?_
   simp only[Xf0.B,show decide (k>0)=true by simp;omega,Yv0,show(!((10:Int) == 0))=true from rfl,jA,hd,hq]
   rw[show decide ((([IntKind.u8.wrap (w64 ((48:Int)+(k.tmod 10)))]).map fun n=>UInt8.ofNat n.toNat).length+out.length≤2147483648)=true by simp;omega]
   rfl
theorem Xsi (k:Int) (h:0≤k) (hk:k≤4611686018427387904):∃ s,Xbo k=some s:=by
 obtain⟨s,hs,hl⟩:=Xr4 19 k [] h (by omega) (by simp) hk
 simp only[Xbo];cases decide (k≤0)
 ·simp only[Yvy,hs,jA]
  rw[show decide (([109]:List UInt8).length+s.length≤2147483648)=true by simp at hl ⊢;omega]
  exact⟨_,rfl⟩
 ·exact⟨_,rfl⟩
theorem Xqq (a:(List Int)) (k:Int) (hk:0≤k) (hw:k+wt (.sl (.int .u8)) a≤4611686018427387904) (hz:wt (.sl (.int .u8)) a≤2147483648):MH Xgy Xgq (wt (.sl (.int .u8)) a) a k:=by
 simp only[wA] at hw hz
 have hl:a.length≤2147483648:=by have:=Ylz (wt (.int .u8)) (fun x=>by simp only[wA];omega) a;omega
 have hs:∀ (k:Int) (i:Nat) (a:(List Int)) (h:i<a.length),a.length≤2147483648→0≤k→k+wt (.int .u8) a[i]≤4611686018427387904→wt (.int .u8) a[i]≤2147483648→∃ k2 x2,k≤k2∧k2≤k+wt (.int .u8) a[i]∧Xc9.B k (i:Int) a=some (.inl (k2,((i+1:Nat):Int),a.set i x2))∧∀ b:(List Int),b.length=a.length→b[i]? = some x2→Xdr.B b k (i:Int)=some (.inl (k2,((i+1:Nat):Int))):=by
  clear hw hz hl hk k a;intro k i a hi hl hk hw hz
  have hb:inB (i:Int) a.length=true:=Yt7 (by omega) (by omega)
  simp only[wA] at hw hz
  have w1:w64 (k+1)=k+1:=Ywk (by omega) (by omega)
  refine⟨k+1,(IntKind.u8.wrap (k)),by omega,by simp only[wA];omega,?_,fun b hlb hx=>?_⟩
  ·simp only[Xc9.B,Yv6 hi,hb,Yv0,toNat_cast,getD_lt _ hi,jA,w1,Yvf (by omega:i<4294967296),kM,kC,Yvb _ _ hi,show(!((3:Int) == 0))=true from rfl]
  ·have hc:inB (i:Int) b.length=true:=Yt7 (by omega) (by omega)
   have hd:decide ((i:Int)<(b.length:Int))=true:=Yv6 (by omega)
   simp only[Xdr.B,hd,hc,Yv0,Yvy,toNat_cast,Yvs _ hx,jA,Yu2,Yux,Yuu,jK,w1,Yvf (by omega:i<4294967296),kM,kC,Yvb _ _ hi,show(!((3:Int) == 0))=true from rfl]
 obtain⟨k2,a2,e1,e2,e3,e4⟩:=Yt8 (wt (.int .u8)) 4611686018427387904 (fun s=>Xc9.B s.1 s.2.1 s.2.2) (fun b s=>Xdr.B b s.1 s.2) (fun k a=>by simp only[Xc9.B,Ywf (jB _),Yvy]) (fun k a=>by simp only[Xdr.B,Ywf (jB _),Yvy]) hs k a hl hk (by omega) (by omega)
 refine⟨k2,a2,e1,by simp only[wA];omega,?_,?_⟩
 ·have:Xc9 (k,0,a)=some (k2,a2):=e3
  simp only[Xgy,this,jA]
 ·have:Xdr a2 (k,0)=some (.inr k2):=e4
  simp only[Xgq,this,jA,sel]
theorem Xsd (a:(List (List UInt8))) (k:Int) (hk:0≤k) (hw:k+wt (.sl .str) a≤4611686018427387904) (hz:wt (.sl .str) a≤2147483648):MH Xfw Xew (wt (.sl .str) a) a k:=by
 simp only[wA] at hw hz
 have hl:a.length≤2147483648:=by have:=Ylz (wt .str) (fun x=>by simp only[wA];omega) a;omega
 have hs:∀ (k:Int) (i:Nat) (a:(List (List UInt8))) (h:i<a.length),a.length≤2147483648→0≤k→k+wt .str a[i]≤4611686018427387904→wt .str a[i]≤2147483648→∃ k2 x2,k≤k2∧k2≤k+wt .str a[i]∧Xdf.B k (i:Int) a=some (.inl (k2,((i+1:Nat):Int),a.set i x2))∧∀ b:(List (List UInt8)),b.length=a.length→b[i]? = some x2→Xcr.B b k (i:Int)=some (.inl (k2,((i+1:Nat):Int))):=by
  clear hw hz hl hk k a;intro k i a hi hl hk hw hz
  have hb:inB (i:Int) a.length=true:=Yt7 (by omega) (by omega)
  simp only[wA] at hw hz
  obtain⟨s1,w1⟩:=Xsi (k) (by omega) (by omega)
  have w2:w64 (k+1)=k+1:=Ywk (by omega) (by omega)
  refine⟨k+1,s1,by omega,by simp only[wA];omega,?_,fun b hlb hx=>?_⟩
  ·simp only[Xdf.B,Yv6 hi,hb,Yv0,toNat_cast,getD_lt _ hi,jA,w1,w2,Yvf (by omega:i<4294967296),kM,kC,Yvb _ _ hi,show(!((3:Int) == 0))=true from rfl]
  ·have hc:inB (i:Int) b.length=true:=Yt7 (by omega) (by omega)
   have hd:decide ((i:Int)<(b.length:Int))=true:=Yv6 (by omega)
   simp only[Xcr.B,hd,hc,Yv0,Yvy,toNat_cast,Yvs _ hx,jA,Yu2,Yux,Yuu,jK,w1,w2,Yvf (by omega:i<4294967296),kM,kC,Yvb _ _ hi,show(!((3:Int) == 0))=true from rfl]
 obtain⟨k2,a2,e1,e2,e3,e4⟩:=Yt8 (wt .str) 4611686018427387904 (fun s=>Xdf.B s.1 s.2.1 s.2.2) (fun b s=>Xcr.B b s.1 s.2) (fun k a=>by simp only[Xdf.B,Ywf (jB _),Yvy]) (fun k a=>by simp only[Xcr.B,Ywf (jB _),Yvy]) hs k a hl hk (by omega) (by omega)
 refine⟨k2,a2,e1,by simp only[wA];omega,?_,?_⟩
 ·have:Xdf (k,0,a)=some (k2,a2):=e3
  simp only[Xfw,this,jA]
 ·have:Xcr a2 (k,0)=some (.inr k2):=e4
  simp only[Xew,this,jA,sel]
theorem Xrf (a:(List Int)) (k:Int) (hk:0≤k) (hw:k+wt (.sl (.int .i64)) a≤4611686018427387904) (hz:wt (.sl (.int .i64)) a≤2147483648):MH Xcn Xci (wt (.sl (.int .i64)) a) a k:=by
 simp only[wA] at hw hz
 have hl:a.length≤2147483648:=by have:=Ylz (wt (.int .i64)) (fun x=>by simp only[wA];omega) a;omega
 have hs:∀ (k:Int) (i:Nat) (a:(List Int)) (h:i<a.length),a.length≤2147483648→0≤k→k+wt (.int .i64) a[i]≤4611686018427387904→wt (.int .i64) a[i]≤2147483648→∃ k2 x2,k≤k2∧k2≤k+wt (.int .i64) a[i]∧Xc8.B k (i:Int) a=some (.inl (k2,((i+1:Nat):Int),a.set i x2))∧∀ b:(List Int),b.length=a.length→b[i]? = some x2→Xc6.B b k (i:Int)=some (.inl (k2,((i+1:Nat):Int))):=by
  clear hw hz hl hk k a;intro k i a hi hl hk hw hz
  have hb:inB (i:Int) a.length=true:=Yt7 (by omega) (by omega)
  simp only[wA] at hw hz
  have w1:w64 (k+1)=k+1:=Ywk (by omega) (by omega)
  refine⟨k+1,k,by omega,by simp only[wA];omega,?_,fun b hlb hx=>?_⟩
  ·simp only[Xc8.B,Yv6 hi,hb,Yv0,toNat_cast,getD_lt _ hi,jA,w1,Yvf (by omega:i<4294967296),kM,kC,Yvb _ _ hi,show(!((3:Int) == 0))=true from rfl]
  ·have hc:inB (i:Int) b.length=true:=Yt7 (by omega) (by omega)
   have hd:decide ((i:Int)<(b.length:Int))=true:=Yv6 (by omega)
   simp only[Xc6.B,hd,hc,Yv0,Yvy,toNat_cast,Yvs _ hx,jA,Yu2,Yux,Yuu,jK,w1,Yvf (by omega:i<4294967296),kM,kC,Yvb _ _ hi,show(!((3:Int) == 0))=true from rfl]
 obtain⟨k2,a2,e1,e2,e3,e4⟩:=Yt8 (wt (.int .i64)) 4611686018427387904 (fun s=>Xc8.B s.1 s.2.1 s.2.2) (fun b s=>Xc6.B b s.1 s.2) (fun k a=>by simp only[Xc8.B,Ywf (jB _),Yvy]) (fun k a=>by simp only[Xc6.B,Ywf (jB _),Yvy]) hs k a hl hk (by omega) (by omega)
 refine⟨k2,a2,e1,by simp only[wA];omega,?_,?_⟩
 ·have:Xc8 (k,0,a)=some (k2,a2):=e3
  simp only[Xcn,this,jA]
 ·have:Xc6 a2 (k,0)=some (.inr k2):=e4
  simp only[Xci,this,jA,sel]
theorem Xtx (a:(List Xg)) (k:Int) (hk:0≤k) (hw:k+wt (.sl Xi) a≤4611686018427387904) (hz:wt (.sl Xi) a≤2147483648):MH Xfy Xfi (wt (.sl Xi) a) a k:=by
 simp only[wA] at hw hz
 have hl:a.length≤2147483648:=by have:=Ylz (wt Xi) (fun x=>by simp only[wA];omega) a;omega
 have hs:∀ (k:Int) (i:Nat) (a:(List Xg)) (h:i<a.length),a.length≤2147483648→0≤k→k+wt Xi a[i]≤4611686018427387904→wt Xi a[i]≤2147483648→∃ k2 x2,k≤k2∧k2≤k+wt Xi a[i]∧Xdl.B k (i:Int) a=some (.inl (k2,((i+1:Nat):Int),a.set i x2))∧∀ b:(List Xg),b.length=a.length→b[i]? = some x2→Xdg.B b k (i:Int)=some (.inl (k2,((i+1:Nat):Int))):=by
  clear hw hz hl hk k a;intro k i a hi hl hk hw hz
  have hb:inB (i:Int) a.length=true:=Yt7 (by omega) (by omega)
  simp only[wA] at hw hz
  obtain⟨s1,w1⟩:=Xsi (k) (by omega) (by omega)
  have w2:w64 (k+1)=k+1:=Ywk (by omega) (by omega)
  have w3:w64 (k+1+1)=k+1+1:=Ywk (by omega) (by omega)
  refine⟨k+1+1,(s1,k+1,()),by omega,by simp only[wA];omega,?_,fun b hlb hx=>?_⟩
  ·simp only[Xdl.B,Yv6 hi,hb,Yv0,toNat_cast,getD_lt _ hi,jA,w1,w2,w3,Yvf (by omega:i<4294967296),kM,kC,Yvb _ _ hi,show(!((3:Int) == 0))=true from rfl]
  ·have hc:inB (i:Int) b.length=true:=Yt7 (by omega) (by omega)
   have hd:decide ((i:Int)<(b.length:Int))=true:=Yv6 (by omega)
   simp only[Xdg.B,hd,hc,Yv0,Yvy,toNat_cast,Yvs _ hx,jA,Yu2,Yux,Yuu,jK,w1,w2,w3,Yvf (by omega:i<4294967296),kM,kC,Yvb _ _ hi,show(!((3:Int) == 0))=true from rfl]
 obtain⟨k2,a2,e1,e2,e3,e4⟩:=Yt8 (wt Xi) 4611686018427387904 (fun s=>Xdl.B s.1 s.2.1 s.2.2) (fun b s=>Xdg.B b s.1 s.2) (fun k a=>by simp only[Xdl.B,Ywf (jB _),Yvy]) (fun k a=>by simp only[Xdg.B,Ywf (jB _),Yvy]) hs k a hl hk (by omega) (by omega)
 refine⟨k2,a2,e1,by simp only[wA];omega,?_,?_⟩
 ·have:Xdl (k,0,a)=some (k2,a2):=e3
  simp only[Xfy,this,jA]
 ·have:Xdg a2 (k,0)=some (.inr k2):=e4
  simp only[Xfi,this,jA,sel]
theorem Xmm (a:(List Xa)) (k:Int) (hk:0≤k) (hw:k+wt (.sl Xc) a≤4611686018427387904) (hz:wt (.sl Xc) a≤2147483648):MH Xgg Xfc (wt (.sl Xc) a) a k:=by
 simp only[wA] at hw hz
 have hl:a.length≤2147483648:=by have:=Ylz (wt Xc) (fun x=>by simp only[wA];omega) a;omega
 have hs:∀ (k:Int) (i:Nat) (a:(List Xa)) (h:i<a.length),a.length≤2147483648→0≤k→k+wt Xc a[i]≤4611686018427387904→wt Xc a[i]≤2147483648→∃ k2 x2,k≤k2∧k2≤k+wt Xc a[i]∧Xdb.B k (i:Int) a=some (.inl (k2,((i+1:Nat):Int),a.set i x2))∧∀ b:(List Xa),b.length=a.length→b[i]? = some x2→Xdo.B b k (i:Int)=some (.inl (k2,((i+1:Nat):Int))):=by
  clear hw hz hl hk k a;intro k i a hi hl hk hw hz
  have hb:inB (i:Int) a.length=true:=Yt7 (by omega) (by omega)
  simp only[wA] at hw hz
  have w1:w64 (k+1)=k+1:=Ywk (by omega) (by omega)
  have w2:w64 (k+1+1)=k+1+1:=Ywk (by omega) (by omega)
  have w3:w64 (k+1+1+1)=k+1+1+1:=Ywk (by omega) (by omega)
  obtain⟨k4,y4,l4,u4,w4,v4⟩:=Xrf a[i].2.2.2.1 (k+1+1+1) (by omega) (by simp only[wA];omega) (by simp only[wA];omega)
  simp only[wA] at u4
  obtain⟨k5,y5,l5,u5,w5,v5⟩:=Xtx a[i].2.2.2.2.1 (k4) (by omega) (by simp only[wA];omega) (by simp only[wA];omega)
  simp only[wA] at u5
  refine⟨k5,(k,k+1,k+1+1,y4,y5,()),by omega,by simp only[wA];omega,?_,fun b hlb hx=>?_⟩
  ·simp only[Xdb.B,Yv6 hi,hb,Yv0,toNat_cast,getD_lt _ hi,jA,w1,w2,w3,v4,w4,v5,w5,Yvf (by omega:i<4294967296),kM,kC,Yvb _ _ hi,show(!((3:Int) == 0))=true from rfl]
  ·have hc:inB (i:Int) b.length=true:=Yt7 (by omega) (by omega)
   have hd:decide ((i:Int)<(b.length:Int))=true:=Yv6 (by omega)
   simp only[Xdo.B,hd,hc,Yv0,Yvy,toNat_cast,Yvs _ hx,jA,Yu2,Yux,Yuu,jK,w1,w2,w3,v4,w4,v5,w5,Yvv (by omega:0≤k4),Yvv (by omega:0≤k5),Yvf (by omega:i<4294967296),kM,kC,Yvb _ _ hi,show(!((3:Int) == 0))=true from rfl]
 obtain⟨k2,a2,e1,e2,e3,e4⟩:=Yt8 (wt Xc) 4611686018427387904 (fun s=>Xdb.B s.1 s.2.1 s.2.2) (fun b s=>Xdo.B b s.1 s.2) (fun k a=>by simp only[Xdb.B,Ywf (jB _),Yvy]) (fun k a=>by simp only[Xdo.B,Ywf (jB _),Yvy]) hs k a hl hk (by omega) (by omega)
 refine⟨k2,a2,e1,by simp only[wA];omega,?_,?_⟩
 ·have:Xdb (k,0,a)=some (k2,a2):=e3
  simp only[Xgg,this,jA]
 ·have:Xdo a2 (k,0)=some (.inr k2):=e4
  simp only[Xfc,this,jA,sel]
theorem Xmj (a:(List (List Int))) (k:Int) (hk:0≤k) (hw:k+wt (.sl (.sl (.int .u8))) a≤4611686018427387904) (hz:wt (.sl (.sl (.int .u8))) a≤2147483648):MH Xeu Xei (wt (.sl (.sl (.int .u8))) a) a k:=by
 simp only[wA] at hw hz
 have hl:a.length≤2147483648:=by have:=Ylz (wt (.sl (.int .u8))) (fun x=>by simp only[wA];omega) a;omega
 have hs:∀ (k:Int) (i:Nat) (a:(List (List Int))) (h:i<a.length),a.length≤2147483648→0≤k→k+wt (.sl (.int .u8)) a[i]≤4611686018427387904→wt (.sl (.int .u8)) a[i]≤2147483648→∃ k2 x2,k≤k2∧k2≤k+wt (.sl (.int .u8)) a[i]∧Xc4.B k (i:Int) a=some (.inl (k2,((i+1:Nat):Int),a.set i x2))∧∀ b:(List (List Int)),b.length=a.length→b[i]? = some x2→Xcu.B b k (i:Int)=some (.inl (k2,((i+1:Nat):Int))):=by
  clear hw hz hl hk k a;intro k i a hi hl hk hw hz
  have hb:inB (i:Int) a.length=true:=Yt7 (by omega) (by omega)
  simp only[wA] at hw hz
  obtain⟨k1,y1,l1,u1,w1,v1⟩:=Xqq a[i] (k) (by omega) (by simp only[wA];omega) (by simp only[wA];omega)
  simp only[wA] at u1
  refine⟨k1,y1,by omega,by simp only[wA];omega,?_,fun b hlb hx=>?_⟩
  ·simp only[Xc4.B,Yv6 hi,hb,Yv0,toNat_cast,getD_lt _ hi,jA,v1,w1,Yvf (by omega:i<4294967296),kM,kC,Yvb _ _ hi,show(!((3:Int) == 0))=true from rfl]
  ·have hc:inB (i:Int) b.length=true:=Yt7 (by omega) (by omega)
   have hd:decide ((i:Int)<(b.length:Int))=true:=Yv6 (by omega)
   simp only[Xcu.B,hd,hc,Yv0,Yvy,toNat_cast,Yvs _ hx,jA,Yu2,Yux,Yuu,jK,v1,w1,Yvv (by omega:0≤k1),Yvf (by omega:i<4294967296),kM,kC,Yvb _ _ hi,show(!((3:Int) == 0))=true from rfl]
 obtain⟨k2,a2,e1,e2,e3,e4⟩:=Yt8 (wt (.sl (.int .u8))) 4611686018427387904 (fun s=>Xc4.B s.1 s.2.1 s.2.2) (fun b s=>Xcu.B b s.1 s.2) (fun k a=>by simp only[Xc4.B,Ywf (jB _),Yvy]) (fun k a=>by simp only[Xcu.B,Ywf (jB _),Yvy]) hs k a hl hk (by omega) (by omega)
 refine⟨k2,a2,e1,by simp only[wA];omega,?_,?_⟩
 ·have:Xc4 (k,0,a)=some (k2,a2):=e3
  simp only[Xeu,this,jA]
 ·have:Xcu a2 (k,0)=some (.inr k2):=e4
  simp only[Xei,this,jA,sel]
theorem Xwa (x_0:List Xa) (x_1:List (List Int)) (k:Int) (hk:0≤k) (hw:k+wt Xk (x_0,x_1,())≤4611686018427387904) (hz:wt Xk (x_0,x_1,())≤2147483648):∃ k2 y0 y1,k≤k2∧k2≤k+wt Xk (x_0,x_1,())∧Xb4 (x_0,x_1,()) k=some (k2,(y0,y1,()))∧Xb2 (y0,y1,()) k=some k2:=by
 simp only[wA] at hw hz
 obtain⟨k0,y0,l0,u0,w0,v0⟩:=Xmm x_0 k (by omega) (by simp only[wA];omega) (by simp only[wA];omega)
 simp only[wA] at u0
 obtain⟨k1,y1,l1,u1,w1,v1⟩:=Xmj x_1 k0 (by omega) (by simp only[wA];omega) (by simp only[wA];omega)
 simp only[wA] at u1
 refine⟨k1,y0,y1,by omega,by simp only[wA];omega,?_,?_⟩
 ·simp only[Xb4,w0,w1,jA,Ywj]
 ·simp only[Xb2,v0,v1,jA,Yvy,Yvv (by omega:0≤k0),Yvv (by omega:0≤k1)]
theorem Xwb (x_0:Int) (x_1:Int) (x_2:Int) (x_3:List Int) (x_4:List (List UInt8)) (x_5_0:List Xa) (x_5_1:List (List Int)) (k:Int) (hk:0≤k) (hw:k+wt Xz (x_0,x_1,x_2,x_3,x_4,(x_5_0,x_5_1,()),())≤4611686018427387904) (hz:wt Xz (x_0,x_1,x_2,x_3,x_4,(x_5_0,x_5_1,()),())≤2147483648):∃ k2 y0 y1 y2 y3,k≤k2∧k2≤k+wt Xz (x_0,x_1,x_2,x_3,x_4,(x_5_0,x_5_1,()),())∧Xid (x_0,x_1,x_2,x_3,x_4,(x_5_0,x_5_1,()),()) k=some (k2,(x_0,x_1,x_2,y0,y1,(y2,y3,()),()))∧Xil (x_0,x_1,x_2,y0,y1,(y2,y3,()),()) k=some k2:=by
 simp only[wA] at hw hz
 obtain⟨k0,y0,l0,u0,w0,v0⟩:=Xqq x_3 k (by omega) (by simp only[wA];omega) (by simp only[wA];omega)
 simp only[wA] at u0
 obtain⟨k1,y1,l1,u1,w1,v1⟩:=Xsd x_4 k0 (by omega) (by simp only[wA];omega) (by simp only[wA];omega)
 simp only[wA] at u1
 obtain⟨k2,y2,l2,u2,w2,v2⟩:=Xmm x_5_0 k1 (by omega) (by simp only[wA];omega) (by simp only[wA];omega)
 simp only[wA] at u2
 obtain⟨k3,y3,l3,u3,w3,v3⟩:=Xmj x_5_1 k2 (by omega) (by simp only[wA];omega) (by simp only[wA];omega)
 simp only[wA] at u3
 refine⟨k3,y0,y1,y2,y3,by omega,by simp only[wA];omega,?_,?_⟩
 ·simp only[Xid,Xb4,w0,w1,w2,w3,jA,Ywj]
 ·simp only[Xil,Xb2,v0,v1,v2,v3,jA,Yvy,Yvv (by omega:0≤k0),Yvv (by omega:0≤k1),Yvv (by omega:0≤k2),Yvv (by omega:0≤k3)]
theorem Xqh (a:(List (List Int))) (k:Int) (hk:0≤k) (hw:k+wt (.sl (.sl (.int .i64))) a≤4611686018427387904) (hz:wt (.sl (.sl (.int .i64))) a≤2147483648):MH Xef Xf6 (wt (.sl (.sl (.int .i64))) a) a k:=by
 simp only[wA] at hw hz
 have hl:a.length≤2147483648:=by have:=Ylz (wt (.sl (.int .i64))) (fun x=>by simp only[wA];omega) a;omega
 have hs:∀ (k:Int) (i:Nat) (a:(List (List Int))) (h:i<a.length),a.length≤2147483648→0≤k→k+wt (.sl (.int .i64)) a[i]≤4611686018427387904→wt (.sl (.int .i64)) a[i]≤2147483648→∃ k2 x2,k≤k2∧k2≤k+wt (.sl (.int .i64)) a[i]∧Xc3.B k (i:Int) a=some (.inl (k2,((i+1:Nat):Int),a.set i x2))∧∀ b:(List (List Int)),b.length=a.length→b[i]? = some x2→Xdk.B b k (i:Int)=some (.inl (k2,((i+1:Nat):Int))):=by
  clear hw hz hl hk k a;intro k i a hi hl hk hw hz
  have hb:inB (i:Int) a.length=true:=Yt7 (by omega) (by omega)
  simp only[wA] at hw hz
  obtain⟨k1,y1,l1,u1,w1,v1⟩:=Xrf a[i] (k) (by omega) (by simp only[wA];omega) (by simp only[wA];omega)
  simp only[wA] at u1
  refine⟨k1,y1,by omega,by simp only[wA];omega,?_,fun b hlb hx=>?_⟩
  ·simp only[Xc3.B,Yv6 hi,hb,Yv0,toNat_cast,getD_lt _ hi,jA,v1,w1,Yvf (by omega:i<4294967296),kM,kC,Yvb _ _ hi,show(!((3:Int) == 0))=true from rfl]
  ·have hc:inB (i:Int) b.length=true:=Yt7 (by omega) (by omega)
   have hd:decide ((i:Int)<(b.length:Int))=true:=Yv6 (by omega)
   simp only[Xdk.B,hd,hc,Yv0,Yvy,toNat_cast,Yvs _ hx,jA,Yu2,Yux,Yuu,jK,v1,w1,Yvv (by omega:0≤k1),Yvf (by omega:i<4294967296),kM,kC,Yvb _ _ hi,show(!((3:Int) == 0))=true from rfl]
 obtain⟨k2,a2,e1,e2,e3,e4⟩:=Yt8 (wt (.sl (.int .i64))) 4611686018427387904 (fun s=>Xc3.B s.1 s.2.1 s.2.2) (fun b s=>Xdk.B b s.1 s.2) (fun k a=>by simp only[Xc3.B,Ywf (jB _),Yvy]) (fun k a=>by simp only[Xdk.B,Ywf (jB _),Yvy]) hs k a hl hk (by omega) (by omega)
 refine⟨k2,a2,e1,by simp only[wA];omega,?_,?_⟩
 ·have:Xc3 (k,0,a)=some (k2,a2):=e3
  simp only[Xef,this,jA]
 ·have:Xdk a2 (k,0)=some (.inr k2):=e4
  simp only[Xf6,this,jA,sel]
theorem Xqf (a:(List Xj)) (k:Int) (hk:0≤k) (hw:k+wt (.sl Xm) a≤4611686018427387904) (hz:wt (.sl Xm) a≤2147483648):MH Xel Xe4 (wt (.sl Xm) a) a k:=by
 simp only[wA] at hw hz
 have hl:a.length≤2147483648:=by have:=Ylz (wt Xm) (fun x=>by simp only[wA];omega) a;omega
 have hs:∀ (k:Int) (i:Nat) (a:(List Xj)) (h:i<a.length),a.length≤2147483648→0≤k→k+wt Xm a[i]≤4611686018427387904→wt Xm a[i]≤2147483648→∃ k2 x2,k≤k2∧k2≤k+wt Xm a[i]∧Xda.B k (i:Int) a=some (.inl (k2,((i+1:Nat):Int),a.set i x2))∧∀ b:(List Xj),b.length=a.length→b[i]? = some x2→Xct.B b k (i:Int)=some (.inl (k2,((i+1:Nat):Int))):=by
  clear hw hz hl hk k a;intro k i a hi hl hk hw hz
  have hb:inB (i:Int) a.length=true:=Yt7 (by omega) (by omega)
  simp only[wA] at hw hz
  have w1:w64 (k+1)=k+1:=Ywk (by omega) (by omega)
  obtain⟨k2,y2,l2,u2,w2,v2⟩:=Xrf a[i].2.1 (k+1) (by omega) (by simp only[wA];omega) (by simp only[wA];omega)
  simp only[wA] at u2
  refine⟨k2,(k,y2,()),by omega,by simp only[wA];omega,?_,fun b hlb hx=>?_⟩
  ·simp only[Xda.B,Yv6 hi,hb,Yv0,toNat_cast,getD_lt _ hi,jA,w1,v2,w2,Yvf (by omega:i<4294967296),kM,kC,Yvb _ _ hi,show(!((3:Int) == 0))=true from rfl]
  ·have hc:inB (i:Int) b.length=true:=Yt7 (by omega) (by omega)
   have hd:decide ((i:Int)<(b.length:Int))=true:=Yv6 (by omega)
   simp only[Xct.B,hd,hc,Yv0,Yvy,toNat_cast,Yvs _ hx,jA,Yu2,Yux,Yuu,jK,w1,v2,w2,Yvv (by omega:0≤k2),Yvf (by omega:i<4294967296),kM,kC,Yvb _ _ hi,show(!((3:Int) == 0))=true from rfl]
 obtain⟨k2,a2,e1,e2,e3,e4⟩:=Yt8 (wt Xm) 4611686018427387904 (fun s=>Xda.B s.1 s.2.1 s.2.2) (fun b s=>Xct.B b s.1 s.2) (fun k a=>by simp only[Xda.B,Ywf (jB _),Yvy]) (fun k a=>by simp only[Xct.B,Ywf (jB _),Yvy]) hs k a hl hk (by omega) (by omega)
 refine⟨k2,a2,e1,by simp only[wA];omega,?_,?_⟩
 ·have:Xda (k,0,a)=some (k2,a2):=e3
  simp only[Xel,this,jA]
 ·have:Xct a2 (k,0)=some (.inr k2):=e4
  simp only[Xe4,this,jA,sel]
theorem Xwc (x_0:List (List Int)) (x_1:List Xj) (k:Int) (hk:0≤k) (hw:k+wt Xh (x_0,x_1,())≤4611686018427387904) (hz:wt Xh (x_0,x_1,())≤2147483648):∃ k2 y0 y1,k≤k2∧k2≤k+wt Xh (x_0,x_1,())∧Xhn (x_0,x_1,()) k=some (k2,(y0,y1,()))∧Xhk (y0,y1,()) k=some k2:=by
 simp only[wA] at hw hz
 obtain⟨k0,y0,l0,u0,w0,v0⟩:=Xqh x_0 k (by omega) (by simp only[wA];omega) (by simp only[wA];omega)
 simp only[wA] at u0
 obtain⟨k1,y1,l1,u1,w1,v1⟩:=Xqf x_1 k0 (by omega) (by simp only[wA];omega) (by simp only[wA];omega)
 simp only[wA] at u1
 refine⟨k1,y0,y1,by omega,by simp only[wA];omega,?_,?_⟩
 ·simp only[Xhn,w0,w1,jA,Ywj]
 ·simp only[Xhk,v0,v1,jA,Yvy,Yvv (by omega:0≤k0),Yvv (by omega:0≤k1)]
theorem Xtq (x_0_0:List (List Int)) (x_0_1:List Xj) (x_1_0:List Xa) (x_1_1:List (List Int)) (x_2_0:List Xa) (x_2_1:List (List Int)) (k:Int) (hk:0≤k) (hw:k+wt Xp ((x_0_0,x_0_1,()),(x_1_0,x_1_1,()),(x_2_0,x_2_1,()),())≤4611686018427387904) (hz:wt Xp ((x_0_0,x_0_1,()),(x_1_0,x_1_1,()),(x_2_0,x_2_1,()),())≤2147483648):∃ k2 y0 y1 y2 y3 y4 y5,k≤k2∧k2≤k+wt Xp ((x_0_0,x_0_1,()),(x_1_0,x_1_1,()),(x_2_0,x_2_1,()),())∧Xd9 ((x_0_0,x_0_1,()),(x_1_0,x_1_1,()),(x_2_0,x_2_1,()),()) k=some (k2,((y0,y1,()),(y2,y3,()),(y4,y5,()),()))∧Xik ((y0,y1,()),(y2,y3,()),(y4,y5,()),()) k=some k2:=by
 simp only[wA] at hw hz
 obtain⟨k0,y0,l0,u0,w0,v0⟩:=Xqh x_0_0 k (by omega) (by simp only[wA];omega) (by simp only[wA];omega)
 simp only[wA] at u0
 obtain⟨k1,y1,l1,u1,w1,v1⟩:=Xqf x_0_1 k0 (by omega) (by simp only[wA];omega) (by simp only[wA];omega)
 simp only[wA] at u1
 obtain⟨k2,y2,l2,u2,w2,v2⟩:=Xmm x_1_0 k1 (by omega) (by simp only[wA];omega) (by simp only[wA];omega)
 simp only[wA] at u2
 obtain⟨k3,y3,l3,u3,w3,v3⟩:=Xmj x_1_1 k2 (by omega) (by simp only[wA];omega) (by simp only[wA];omega)
 simp only[wA] at u3
 obtain⟨k4,y4,l4,u4,w4,v4⟩:=Xmm x_2_0 k3 (by omega) (by simp only[wA];omega) (by simp only[wA];omega)
 simp only[wA] at u4
 obtain⟨k5,y5,l5,u5,w5,v5⟩:=Xmj x_2_1 k4 (by omega) (by simp only[wA];omega) (by simp only[wA];omega)
 simp only[wA] at u5
 refine⟨k5,y0,y1,y2,y3,y4,y5,by omega,by simp only[wA];omega,?_,?_⟩
 ·simp only[Xd9,Xhn,Xb4,w0,w1,w2,w3,w4,w5,jA,Ywj]
 ·simp only[Xik,Xhk,Xb2,v0,v1,v2,v3,v4,v5,jA,Yvy,Yvv (by omega:0≤k0),Yvv (by omega:0≤k1),Yvv (by omega:0≤k2),Yvv (by omega:0≤k3),Yvv (by omega:0≤k4),Yvv (by omega:0≤k5)]
theorem Xtd (x_0:Int) (x_1_0:Int) (x_1_1:Int) (x_1_2:Int) (x_1_3:List Int) (x_1_4:List (List UInt8)) (x_1_5_0:List Xa) (x_1_5_1:List (List Int)) (x_2_0_0:List (List Int)) (x_2_0_1:List Xj) (x_2_1_0:List Xa) (x_2_1_1:List (List Int)) (x_2_2_0:List Xa) (x_2_2_1:List (List Int)) (k:Int) (hk:0≤k) (hw:k+wt Xt (x_0,(x_1_0,x_1_1,x_1_2,x_1_3,x_1_4,(x_1_5_0,x_1_5_1,()),()),((x_2_0_0,x_2_0_1,()),(x_2_1_0,x_2_1_1,()),(x_2_2_0,x_2_2_1,()),()),())≤4611686018427387904) (hz:wt Xt (x_0,(x_1_0,x_1_1,x_1_2,x_1_3,x_1_4,(x_1_5_0,x_1_5_1,()),()),((x_2_0_0,x_2_0_1,()),(x_2_1_0,x_2_1_1,()),(x_2_2_0,x_2_2_1,()),()),())≤2147483648):∃ k2 y0 y1 y2 y3 y4 y5 y6 y7 y8 y9,k≤k2∧k2≤k+wt Xt (x_0,(x_1_0,x_1_1,x_1_2,x_1_3,x_1_4,(x_1_5_0,x_1_5_1,()),()),((x_2_0_0,x_2_0_1,()),(x_2_1_0,x_2_1_1,()),(x_2_2_0,x_2_2_1,()),()),())∧Xi2 (x_0,(x_1_0,x_1_1,x_1_2,x_1_3,x_1_4,(x_1_5_0,x_1_5_1,()),()),((x_2_0_0,x_2_0_1,()),(x_2_1_0,x_2_1_1,()),(x_2_2_0,x_2_2_1,()),()),()) k=some (k2,(x_0,(x_1_0,x_1_1,x_1_2,y0,y1,(y2,y3,()),()),((y4,y5,()),(y6,y7,()),(y8,y9,()),()),()))∧Xij (x_0,(x_1_0,x_1_1,x_1_2,y0,y1,(y2,y3,()),()),((y4,y5,()),(y6,y7,()),(y8,y9,()),()),()) k=some k2:=by
 simp only[wA] at hw hz
 obtain⟨k0,y0,l0,u0,w0,v0⟩:=Xqq x_1_3 k (by omega) (by simp only[wA];omega) (by simp only[wA];omega)
 simp only[wA] at u0
 obtain⟨k1,y1,l1,u1,w1,v1⟩:=Xsd x_1_4 k0 (by omega) (by simp only[wA];omega) (by simp only[wA];omega)
 simp only[wA] at u1
 obtain⟨k2,y2,l2,u2,w2,v2⟩:=Xmm x_1_5_0 k1 (by omega) (by simp only[wA];omega) (by simp only[wA];omega)
 simp only[wA] at u2
 obtain⟨k3,y3,l3,u3,w3,v3⟩:=Xmj x_1_5_1 k2 (by omega) (by simp only[wA];omega) (by simp only[wA];omega)
 simp only[wA] at u3
 obtain⟨k4,y4,l4,u4,w4,v4⟩:=Xqh x_2_0_0 k3 (by omega) (by simp only[wA];omega) (by simp only[wA];omega)
 simp only[wA] at u4
 obtain⟨k5,y5,l5,u5,w5,v5⟩:=Xqf x_2_0_1 k4 (by omega) (by simp only[wA];omega) (by simp only[wA];omega)
 simp only[wA] at u5
 obtain⟨k6,y6,l6,u6,w6,v6⟩:=Xmm x_2_1_0 k5 (by omega) (by simp only[wA];omega) (by simp only[wA];omega)
 simp only[wA] at u6
 obtain⟨k7,y7,l7,u7,w7,v7⟩:=Xmj x_2_1_1 k6 (by omega) (by simp only[wA];omega) (by simp only[wA];omega)
 simp only[wA] at u7
 obtain⟨k8,y8,l8,u8,w8,v8⟩:=Xmm x_2_2_0 k7 (by omega) (by simp only[wA];omega) (by simp only[wA];omega)
 simp only[wA] at u8
 obtain⟨k9,y9,l9,u9,w9,v9⟩:=Xmj x_2_2_1 k8 (by omega) (by simp only[wA];omega) (by simp only[wA];omega)
 simp only[wA] at u9
 refine⟨k9,y0,y1,y2,y3,y4,y5,y6,y7,y8,y9,by omega,by simp only[wA];omega,?_,?_⟩
 ·simp only[Xi2,Xid,Xb4,Xd9,Xhn,w0,w1,w2,w3,w4,w5,w6,w7,w8,w9,jA,Ywj]
 ·simp only[Xij,Xil,Xb2,Xik,Xhk,v0,v1,v2,v3,v4,v5,v6,v7,v8,v9,jA,Yvy,Yvv (by omega:0≤k0),Yvv (by omega:0≤k1),Yvv (by omega:0≤k2),Yvv (by omega:0≤k3),Yvv (by omega:0≤k4),Yvv (by omega:0≤k5),Yvv (by omega:0≤k6),Yvv (by omega:0≤k7),Yvv (by omega:0≤k8),Yvv (by omega:0≤k9)]
def inR (v lo hi:Int):Bool:=cond (decide (v≥lo)) (decide (v≤hi)) false
theorem X9 {v lo hi:Int}:inR v lo hi=true↔lo≤v∧v≤hi:=by
 unfold inR;by_cases h:v≥lo<;>simp[h]<;>omega
theorem Xjm (v lo hi:Int):Xa7 v lo hi=some (inR v lo hi):=rfl
theorem Xmy (v lo hi:Int):Xao v lo hi=some (inR v lo hi):=rfl
def Xag (w:List Int):Int:=cond (decide ((w.length:Int)>64)) 2 (cond (w.any fun x=>!inR x 0 65535) 3 0)
theorem Xpg (w:List Int):Xd8 w=some (Xag w):=by
 simp only[Xd8,Xag]
 by_cases hl:w.length≤64
 ·have h:Xmd w 0=_:=Yu1 w (fun x=>!inR x 0 65535) (3:Int) (fun i hi=>by
   simp only[Xmd.B,Yv6 hi,Yv9 hi,Yv0,toNat_cast,getD_lt _ hi,Xjm,jA,Yvf (by omega:i<4294967296)]) (by
   simp only[Xmd.B,Ywf (jB _),Yvy])
  rw[h,show decide ((w.length:Int)>64)=false by simp;omega]
  cases w.any fun x=>!inR x 0 65535<;>rfl
 ·rw[show decide ((w.length:Int)>64)=true by simp;omega];rfl
theorem Xud (w:List Int) (hl:w.length≤2147483648):Xee w () (w.length:Int) 0=some (match Yoh (fun x=>!inR x 0 65535) 0 w with | some j=>.inl (j:Int) | none=>.inr ()):=
 Yve w (f:=fun s=>Xee.B w () (w.length:Int) s) (fun x=>!inR x 0 65535) (fun i hi=>by
  simp only[Xee.B,Yv6 hi,Yv9 hi,Yv0,toNat_cast,getD_lt _ hi,Xln,Xmy,jA,Yvf (by omega:i<4294967296)]) (by
  simp only[Xee.B,Ywf (jB _),Yvy]) 0 (kE _)
theorem Xgh {α:Type} (p:α→Bool) (l:List α):((some (match Yoh p 0 l with | some j=>.inl (j:Int) | none=>.inr ():Int⊕Unit)).bind fun o=>sel o (fun b=>some b) (fun c=>some (-1))).bind (fun r=>some (decide (r≥0)))=some (l.any p):=by
 cases h:Yoh p 0 l with
 |none=>rw[Yp9.1 h];rfl
 |some j=>
  have:l.any p=true:=by
   cases ha:l.any p with
   |true=>rfl
   |false=>rw[Yp9.2 ha] at h;cases h
  rw[this];simp[sel]
theorem Xrg (w:List Int):Xfm w=some (Xag w):=by
 simp only[Xfm,Xag,Xlq,Xgu]
 by_cases hl:w.length≤64
 ·rw[show decide ((w.length:Int)>64)=false by simp;omega,Xud w (by omega),Xgh]
  simp only[Yvy,jA]
  cases w.any fun x=>!inR x 0 65535<;>rfl
 ·rw[show decide ((w.length:Int)>64)=true by simp;omega];rfl
theorem Xed {w:List Int} (h:Xag w=0):w.length≤64∧∀ x∈w,0≤x∧x≤65535:=by
 unfold Xag at h
 cases h1:decide ((w.length:Int)>64) with
 |true=>rw[h1] at h;cases h
 |false=>
  rw[h1] at h
  cases h2:(w.any fun x=>!inR x 0 65535) with
  |true=>rw[h2] at h;cases h
  |false=>
   refine⟨by simp at h1;omega,fun x hx=>?_⟩
   have:=List.any_eq_false.1 h2 x hx;simp only[Bool.not_eq_true,Bool.not_eq_false'] at this
   exact X9.1 (by simpa using this)
def Xbg (x:Bool×Int×List Int×Unit):Int:=cond (cond x.1 (cond (x.2.1 != 0) true (decide ((x.2.2.1.length:Int)>0))) false) 1 (cond (!inR x.2.1 0 46) 3 (Xag x.2.2.1))
theorem Xtv (x:Bool×Int×List Int×Unit):Xjg x=some (Xbg x):=by
 simp only[Xjg,Xbg,Xjm,Xpg,jA];simp only[Yuw]
def Xnx (l:List (Bool×Int×List Int×Unit)):Int:=cond (decide ((l.length:Int)>120)) 2 (Ygk Xbg l)
theorem Xa1 (n:Int) (g:Option Int):((some (cond (n != 0) (.inl n) (.inr ()):Int⊕Unit)).bind fun o=>sel o (fun b=>some b) (fun _=>g))=cond (n != 0) (some n) g:=by
 cases (n != 0)<;>rfl
theorem Xbc (n:Int):cond (n != 0) (some n) (some 0)=some n:=by
 cases h:(n != 0)
 ·have:n=0:=by simpa using h
  rw[this];rfl
 ·rfl
theorem Xtb (l:List (Bool×Int×List Int×Unit)):Xgc l=some (Xnx l):=by
 simp only[Xgc,Xnx]
 by_cases hl:l.length≤120
 ·have h:Xg2 l 0=_:=Yub l Xbg (fun i hi=>by
   simp only[Xg2.B,Yv6 hi,Yv9 hi,Yv0,toNat_cast,getD_lt _ hi,Xtv,jA,Yvf (by omega:i<4294967296)]) (by
   simp only[Xg2.B,Ywf (jB _),Yvy])
  rw[h,show decide ((l.length:Int)>120)=false by simp;omega,Yvy,Yvy,Xa1,Xbc]
 ·rw[show decide ((l.length:Int)>120)=true by simp;omega];rfl
theorem Xfd {α:Type} {xs:List α} (h:xs.length≤2147483648):Ylo xs=some xs:=by
 unfold Ylo;rw[show decide (xs.length≤2147483648)=true by simp;omega];rfl
theorem Xav {n:Nat} (h:n≤2147483648):decide (n≤2147483648)=true:=by simp;omega
theorem Xuk (l:List (List Int)) (h:Bd (.sl (.sl (.int .u8))) l):Xf3 l=some l:=by
 obtain⟨hl,hb⟩:=h
 have h:Xfr l (l.length:Int) (0,[])=some ([]++l.map id):=
  Yuv l (f:=fun s=>Xfr.B l (l.length:Int) s.1 s.2) id id 0 (fun i hi t ht=>by
   have hx:=(hb l[i] (jE hi)).1
   simp only[Xfr.B,Yv6 hi,Yv9 hi,Yv0,toNat_cast,getD_lt _ hi,Xlk,Xfd hx,jA,Yvf (by omega:i<4294967296),id]
   rw[Xav (by simp;omega)];rfl) (fun t ht=>by
   simp only[Xfr.B,Ywf (jB _),Yvy,id]) [] rfl
 simp only[Xf3,h,jA];simp
theorem Xun (f:Fs_) (h:Bd Xk f):Xcw f=some f:=by
 obtain⟨l,d,⟨⟩⟩:=f;obtain⟨⟨hl,hb⟩,hd,_⟩:=h;replace hl:l.length≤2147483648:=hl;replace hb:∀ x∈l,Bd Xc x:=hb;replace hd:Bd (.sl (.sl (.int .u8))) d:=hd
 have h:Xfh l (l.length:Int) ([],[],()) (0,([],d,()))=some (l.foldl (fun(t:Fs_) x=>(t.1++[x],t.2)) ([],d,())):=
  Yoo l (f:=fun s=>Xfh.B l (l.length:Int) ([],[],()) s.1 s.2) (fun(t:Fs_) x=>(t.1++[x],t.2)) id (fun i t=>t.1.length=i) (fun i hi t ht=>by
   have hx:=hb l[i] (jE hi);obtain⟨hx1,hx2,hx3,hx4,hx5,_⟩:=hx;have e1:Ylo l[i].2.2.2.1=some l[i].2.2.2.1:=Xfd hx4.1;have e2:Ylo l[i].2.2.2.2.1=some l[i].2.2.2.2.1:=Xfd hx5.1
   refine⟨?_,by simp[ht]⟩
   simp only[Xfh.B,Yv6 hi,Yv9 hi,Yv0,toNat_cast,getD_lt _ hi,Xak,Xl0,e1,e2,jA,Yvf (by omega:i<4294967296),Ywj]
   rw[Xav (by simp;omega)];rfl) (fun t ht=>by
   simp only[Xfh.B,Ywf (jB _),Yvy,id]) _ rfl
 have h2:∀ (l:List Xa) (t:Fs_),l.foldl (fun(t:Fs_) x=>(t.1++[x],t.2)) t=(t.1++l,t.2):=by
  intro l
  induction l with
  |nil=>intro t;simp
  |cons x l ih=>intro t;simp[ih]
 simp only[Xcw,Xuk d hd,jA,h,h2];simp
def Xoe (b:UInt8):Bool:=cond (decide ((b.toNat:Int)<97)) true (decide ((b.toNat:Int)>122))
def Xen (s:List UInt8):Int:=cond (s.any Xoe) 5 (cond (s == []) 5 (cond (decide ((s.length:Int)>4)) 2 0))
theorem Xvg (s:List UInt8) (hl:s.length≤2147483648):Xof s=some (Xen s):=by
 have h:Xl5 s 0=_:=Yu1 s Xoe (5:Int) (fun i hi=>by
  simp only[Xl5.B,Yv6 hi,Yv9 hi,Yv0,toNat_cast,getD_lt _ hi,jA,Yvf (by omega:i<4294967296),Xoe,Yut]) (by
  simp only[Xl5.B,Ywf (jB _),Yvy])
 simp only[Xof,h,jA,Xen];cases s.any Xoe
 ·simp only[Yvy,Yv1,Yuw]
 ·rfl
theorem Xuv (s:List UInt8) (hl:s.length≤2147483648):Xj5 s=some (Xen s):=by
 have h:Xg8 s (s.length:Int) 0=_:=Yu1 s Xoe (5:Int) (fun i hi=>by
  simp only[Xg8.B,Yv6 hi,Yv9 hi,Yv0,toNat_cast,getD_lt _ hi,jA,Yvf (by omega:i<4294967296),Xoe,Yut]) (by
  simp only[Xg8.B,Ywf (jB _),Yvy])
 simp only[Xj5,h,jA,Xen]
 cases s with
 |nil=>rfl
 |cons b s=>
  rw[show((b::s:List UInt8) == [])=false from rfl];simp only[Yvy];cases (b::s).any Xoe
  ·simp only[Yvy,Yv1,Yuw]
  ·rfl
theorem Xqz {s:List UInt8} (h:Xen s=0):s≠[]∧s.length≤4∧s.any Xoe=false:=by
 unfold Xen at h
 cases h1:s.any Xoe with
 |true=>rw[h1] at h;cases h
 |false=>
  rw[h1] at h
  cases h2:(s == []) with
  |true=>rw[h2] at h;cases h
  |false=>
   rw[h2] at h
   cases h3:decide ((s.length:Int)>4) with
   |true=>rw[h3] at h;cases h
   |false=>exact⟨(by intro e;subst e;cases h2),(by simp at h3;omega),rfl⟩
def Xn6:List Int→List Int→Bool
 |_,[]=>false
 |a,x::l=>a.contains x || Xn6 (a++[x]) l
theorem Xdw {α:Type} (p:α→Bool) (l:List α) {o:Option (Int⊕Unit)} (h:o=some (match Yoh p 0 l with | some j=>.inl (j:Int) | none=>.inr ())):(o.bind fun o=>sel o (fun b=>some b) (fun c=>some (-1))).bind (fun r=>some (decide (r≥0)))=some (l.any p):=by
 rw[h];exact Xgh p l
theorem Xrh (l:List Int) (v:Int) (hl:l.length≤2147483648):Xcm l v=some (l.contains v):=by
 have h:Xg4 l v (l.length:Int) 0=_:=Yve l (fun x=>v == x) (fun i hi=>by
  simp only[Xg4.B,Yv6 hi,Yv9 hi,Yv0,toNat_cast,getD_lt _ hi,jA,Yvf (by omega:i<4294967296)]) (by
  simp only[Xg4.B,Ywf (jB _),Yvy]) 0 (kE _)
 simp only[Xcm,Xlx];rw[Xdw _ _ h,List.any_beq,List.drop_zero]
theorem Xvh (l:List Int) (v:Int) (hl:l.length≤2147483648):Xmi l v=some (l.contains v):=by
 have h:Xl8 l v 0=_:=Yu1 l (fun x=>x == v) true (fun i hi=>by
  simp only[Xl8.B,Yv6 hi,Yv9 hi,Yv0,toNat_cast,getD_lt _ hi,jA,Yvf (by omega:i<4294967296)]) (by
  simp only[Xl8.B,Ywf (jB _),Yvy])
 simp only[Xmi,h,jA];rw[←List.any_beq,show(fun x:Int=>x == v)=fun x=>v == x from funext fun x=>Bool.beq_comm]
 cases l.any fun x=>v == x<;>rfl
def Xns (n:Int):Int:=w64 ((w64 ((w64 (n+8))-1)).tdiv 8)
def Xih (x:Xa):Int:=cond (!inR x.2.1 1 60) 3 (cond (!inR x.2.2.1 0 32) 3 (cond ((x.2.2.2.1.length:Int) != Xns x.2.2.1) 1 (cond (x.2.2.2.1.any fun b=>!inR b 0 19) 3 (cond (Xn6 [] x.2.2.2.1) 7 0))))
theorem Xt7 (x:Xa) (hl:x.2.2.2.1.length≤2147483648) (n:Nat) (hn:n<x.2.2.2.1.length):Xka x (n:Int) 0=some (cond ((x.2.2.2.1.take n).contains x.2.2.2.1[n]) (.inl 7) (.inr ())):=by
 have h:Xka x (n:Int) 0=_:=Yu1 (x.2.2.2.1.take n) (fun y=>y == x.2.2.2.1[n]) (7:Int) (fun i hi=>by
  have hi':i<n:=by simp at hi;omega
  simp only[Xka.B,Yv6 hi',Yv9 (by omega:i<x.2.2.2.1.length),Yv9 hn,Yv0,toNat_cast,getD_lt _ (by omega:i<x.2.2.2.1.length),getD_lt _ hn,jA,Yvf (by omega:i<4294967296),List.getElem_take]) (by
  have:(x.2.2.2.1.take n).length=n:=by simp;omega
  rw[this]
  simp only[Xka.B,Ywf (jB _),Yvy])
 rw[h,←List.any_beq,show(fun y:Int=>y == x.2.2.2.1[n])=fun y=>x.2.2.2.1[n] == y from funext fun y=>Bool.beq_comm]
theorem Xkg (l:List Int):∀ (k n:Nat),n+k=l.length→Ybg (τ:=Unit) (fun i y _=>cond ((l.take i).contains y) (.inr (.inl 7)) (.inl ())) (fun _=>(.inr ():Int⊕Unit)) n (l.drop n) ()=cond (Xn6 (l.take n) (l.drop n)) (.inl 7) (.inr ())
 |0,n,h=>by
  have:n=l.length:=by omega
  subst this
  simp[Ybg,Xn6]
 |k+1,n,h=>by
  have hn:n<l.length:=by omega
  rw[kZ hn];simp only[Ybg,Xn6]
  have e:l.take n++[l[n]]=l.take (n+1):=by simp
  rw[e];cases (l.take n).contains l[n]
  ·simp only[Yvy,Yvp,Bool.false_or];exact Xkg l k (n+1) (by omega)
  ·rfl
theorem Xvt (x:Xa) (hl:x.2.2.2.1.length≤2147483648):Xh0 x=some (Xih x):=by
 have h0:Xl4 x 0=_:=Yu1 x.2.2.2.1 (fun b=>!inR b 0 19) (3:Int) (fun i hi=>by
  simp only[Xl4.B,Yv6 hi,Yv9 hi,Yv0,toNat_cast,getD_lt _ hi,Xjm,jA,Yvf (by omega:i<4294967296)]) (by
  simp only[Xl4.B,Ywf (jB _),Yvy])
 have h1:Xki x 0=some (cond (Xn6 [] x.2.2.2.1) (.inl 7) (.inr ())):=by
  have:=Yi0 (τ:=Unit) x.2.2.2.1 (f:=fun s=>Xki.B x s) (fun i _=>(i:Int)) (fun i y _=>cond ((x.2.2.2.1.take i).contains y) (.inr (.inl 7)) (.inl ())) (fun _=>(.inr ():Int⊕Unit)) (fun i hi t=>by
   simp only[Xki.B,Yv6 hi,Yv0,Xt7 x hl i hi,jA,Yvf (by omega:i<4294967296)]
   cases (x.2.2.2.1.take i).contains x.2.2.2.1[i]<;>rfl) (fun t=>by
   simp only[Xki.B,Ywf (jB _),Yvy]) () (s:=0) rfl
  refine Eq.trans this ?_
  congr 1
  exact Xkg x.2.2.2.1 x.2.2.2.1.length 0 (by omega)
 have h8:(!((8:Int) == 0))=true:=rfl;simp only[Xh0,Xol,Xot,Xjm,jA,h8,Yv0,h0,h1,Xih,Xns,Yuw];cases inR x.2.1 1 60
 ·rfl
 ·cases inR x.2.2.1 0 32
  ·rfl
  ·simp only[jK,Yvy]
   cases ((x.2.2.2.1.length:Int) != w64 ((w64 ((w64 (x.2.2.1+8))-1)).tdiv 8))
   ·simp only[Yvy]
    cases x.2.2.2.1.any fun b=>!inR b 0 19
    ·simp only[Yvy,Yv1]
     cases Xn6 [] x.2.2.2.1<;>rfl
    ·rfl
   ·rfl
theorem Xth (x:Xa) (hl:x.2.2.2.1.length≤2147483648):Xff x=some (Xih x):=by
 have h0:Xi5 x.2.2.2.1 ()=some (x.2.2.2.1.any fun b=>!inR b 0 19):=by
  have h:Xg0 x.2.2.2.1 () (x.2.2.2.1.length:Int) 0=_:=Yve x.2.2.2.1 (fun b=>!inR b 0 19) (fun i hi=>by
   simp only[Xg0.B,Yv6 hi,Yv9 hi,Yv0,toNat_cast,getD_lt _ hi,Xlp,Xmy,jA,Yvf (by omega:i<4294967296)]) (by
   simp only[Xg0.B,Ywf (jB _),Yvy]) 0 (kE _)
  simp only[Xi5,Xgp];exact Xdw _ _ h
 have h1:Xes x x.2.2.2.1 (x.2.2.2.1.length:Int) 0=some (cond (Xn6 [] x.2.2.2.1) (.inl 7) (.inr ())):=by
  have:=Yi0 (τ:=Unit) x.2.2.2.1 (f:=fun s=>Xes.B x x.2.2.2.1 (x.2.2.2.1.length:Int) s) (fun i _=>(i:Int)) (fun i y _=>cond ((x.2.2.2.1.take i).contains y) (.inr (.inl 7)) (.inl ())) (fun _=>(.inr ():Int⊕Unit)) (fun i hi t=>by
   have e1:(decide ((0:Int)≤(i:Int))&&decide ((i:Int)≤(x.2.2.2.1.length:Int)))=true:=by simp;omega
   have e2:=Xrh (x.2.2.2.1.take i) x.2.2.2.1[i] (by simp;omega)
   simp only[Xes.B,Yv6 hi,Yv9 hi,Yv0,toNat_cast,getD_lt _ hi,e1,List.drop_zero,e2,jA,Yvf (by omega:i<4294967296)]
   cases (x.2.2.2.1.take i).contains x.2.2.2.1[i]<;>rfl) (fun t=>by
   simp only[Xes.B,Ywf (jB _),Yvy]) () (s:=0) rfl
  refine Eq.trans this ?_
  congr 1
  exact Xkg x.2.2.2.1 x.2.2.2.1.length 0 (by omega)
 have h8:(!((8:Int) == 0))=true:=rfl;simp only[Xff,Xlf,Xca,Xmy,jA,h8,Yv0,h0,h1,Xih,Xns,Yuw];cases inR x.2.1 1 60
 ·rfl
 ·cases inR x.2.2.1 0 32
  ·rfl
  ·simp only[jK,Yvy]
   cases ((x.2.2.2.1.length:Int) != w64 ((w64 ((w64 (x.2.2.1+8))-1)).tdiv 8))
   ·simp only[Yvy]
    cases x.2.2.2.1.any fun b=>!inR b 0 19
    ·simp only[Yvy]
     cases Xn6 [] x.2.2.2.1<;>rfl
    ·rfl
   ·rfl
def Xiq (prev:Option (List UInt8)) (e:Xg):Int:=
 cond (Xen e.1 != 0) (Xen e.1) (cond (!inR e.2.1 0 9) 3 (match prev with | none=>0 | some p=>cond (leB p e.1) 0 1))
def Xft:Option (List UInt8)→List Xg→Int
 |_,[]=>0
 |p,e::l=>cond (Xiq p e != 0) (Xiq p e) (Xft (some e.1) l)
def Xn7 (x:Xa):Int:=cond (decide ((x.2.2.2.2.1.length:Int)>6)) 2 (Xft none x.2.2.2.2.1)
theorem Xpq:∀ (a b:List UInt8),(leB a b || a == b) = !leB b a
 |[],[]=>rfl
 |[],_::_=>rfl
 |_::_,[]=>by simp[leB]
 |x::a,y::b=>by
  have ih:=Xpq a b;simp only[leB]
  by_cases e:x=y
  ·subst e
   have h:¬ x<x:=UInt8.lt_irrefl x;simp only[h,decide_false,Bool.false_or,beq_self_eq_true,Bool.true_and]
   rw[←ih,show(x::a == x::b)=(a == b) by simp]
  ·have e':¬ y=x:=fun h=>e h.symm
   rw[show(x == y)=false by simp[e],show(y == x)=false by simp[e'],show(x::a == y::b)=false by simp[e]]
   simp only[Bool.false_and,Bool.or_false]
   by_cases h1:x<y
   ·have:¬ y<x:=fun h=>absurd (UInt8.lt_trans h1 h) (UInt8.lt_irrefl x)
    simp[h1,this]
   ·have:y<x:=by
     rw[UInt8.lt_iff_toNat_lt] at *;have:x.toNat≠y.toNat:=fun h=>e (UInt8.toNat_inj.1 h);omega
    simp[h1,this]
def Xeq (l:List Xg):Nat→Option (List UInt8)
 |0=>none
 |j+1=>(l[j]?).map (·.1)
theorem Xkn (l:List Xg):∀ (k n:Nat),n+k=l.length→Ybg (τ:=Unit) (fun i e _=>cond (Xiq (Xeq l i) e != 0) (.inr (.inl (Xiq (Xeq l i) e))) (.inl ())) (fun _=>(.inr ():Int⊕Unit)) n (l.drop n) () =
  cond (Xft (Xeq l n) (l.drop n) != 0) (.inl (Xft (Xeq l n) (l.drop n))) (.inr ())
 |0,n,h=>by
  have:n=l.length:=by omega
  subst this
  simp[Ybg,Xft]
 |k+1,n,h=>by
  have hn:n<l.length:=by omega
  have hp:Xeq l (n+1)=some l[n].1:=by simp[Xeq,hn]
  have ih:=Xkn l k (n+1) (by omega)
  rw[hp] at ih;rw[kZ hn];simp only[Ybg,Xft];generalize Xeq l n=p;cases hc:(Xiq p l[n] != 0)
  ·simp only[Yvy,Yvp];exact ih
  ·simp only[Yv0,Yv1,hc]
theorem Xtn (x:Xa) (hb:Bd Xc x):Xkr x=some (Xn7 x):=by
 simp only[Xkr,Xn7]
 cases hd:decide ((x.2.2.2.2.1.length:Int)>6) with
 |true=>rfl
 |false=>
  have hl:x.2.2.2.2.1.length≤6:=by simp at hd;omega
  have h:Xlb x 0=some (cond (Xft none x.2.2.2.2.1 != 0) (.inl (Xft none x.2.2.2.2.1)) (.inr ())):=by
   have:=Yi0 (τ:=Unit) x.2.2.2.2.1 (f:=fun s=>Xlb.B x s) (fun i _=>(i:Int)) (fun i e _=>cond (Xiq (Xeq x.2.2.2.2.1 i) e != 0) (.inr (.inl (Xiq (Xeq x.2.2.2.2.1 i) e))) (.inl ())) (fun _=>(.inr ():Int⊕Unit)) (fun i hi t=>by
    have hn:(x.2.2.2.2.1[i]).1.length≤2147483648:=(hb.2.2.2.2.1.2 _ (jE hi)).1
    simp only[Xlb.B,Yv6 hi,Yv9 hi,Yv0,toNat_cast,getD_lt _ hi,Xjm,Xvg _ hn,jA,Yvf (by omega:i<4294967296)]
    simp only[Xiq];cases hc:(Xen (x.2.2.2.2.1[i]).1 != 0)
    ·simp only[Yvy]
     cases inR (x.2.2.2.2.1[i]).2.1 0 9
     ·rfl
     ·simp only[jK,Yvy]
      cases i with
      |zero=>rfl
      |succ j=>
       have hj:j<x.2.2.2.2.1.length:=by omega
       have hw:w64 (((j+1:Nat):Int)-1)=(j:Int):=by rw[Yr5 (by omega) (by omega)];omega
       rw[show decide (((j+1:Nat):Int)>0)=true by simp]
       simp only[Yv0,hw,Yv9 hj,toNat_cast,getD_lt _ hj,Xeq,kV hj,jT,Xpq]
       cases leB (x.2.2.2.2.1[j]).1 (x.2.2.2.2.1[j+1]).1<;>rfl
    ·simp only[Yv0,hc];rfl) (fun t=>by
    simp only[Xlb.B,Ywf (jB _),Yvy]) () (s:=0) rfl
   refine Eq.trans this ?_
   congr 1
   exact Xkn x.2.2.2.2.1 x.2.2.2.2.1.length 0 (by omega)
  rw[h,Yvy,Yvy,Xa1,Xbc]
theorem Xs2 (x:Xa) (hb:Bd Xc x):Xek x=some (Xn7 x):=by
 simp only[Xek,Xn7]
 cases hd:decide ((x.2.2.2.2.1.length:Int)>6) with
 |true=>rfl
 |false=>
  have hl:x.2.2.2.2.1.length≤6:=by simp at hd;omega
  have h:Xe9 x x.2.2.2.2.1 (x.2.2.2.2.1.length:Int) 0=some (cond (Xft none x.2.2.2.2.1 != 0) (.inl (Xft none x.2.2.2.2.1)) (.inr ())):=by
   have:=Yi0 (τ:=Unit) x.2.2.2.2.1 (f:=fun s=>Xe9.B x x.2.2.2.2.1 (x.2.2.2.2.1.length:Int) s) (fun i _=>(i:Int)) (fun i e _=>cond (Xiq (Xeq x.2.2.2.2.1 i) e != 0) (.inr (.inl (Xiq (Xeq x.2.2.2.2.1 i) e))) (.inl ())) (fun _=>(.inr ():Int⊕Unit)) (fun i hi t=>by
    have hn:(x.2.2.2.2.1[i]).1.length≤2147483648:=(hb.2.2.2.2.1.2 _ (jE hi)).1
    simp only[Xe9.B,Yv6 hi,Yv9 hi,Yv0,toNat_cast,getD_lt _ hi,Xmy,Xuv _ hn,jA,Yvf (by omega:i<4294967296)]
    simp only[Xiq];cases hc:(Xen (x.2.2.2.2.1[i]).1 != 0)
    ·simp only[Yvy]
     cases inR (x.2.2.2.2.1[i]).2.1 0 9
     ·rfl
     ·simp only[jK,Yvy]
      cases i with
      |zero=>rfl
      |succ j=>
       have hj:j<x.2.2.2.2.1.length:=by omega
       have hw:w64 (((j+1:Nat):Int)-1)=(j:Int):=by rw[Yr5 (by omega) (by omega)];omega
       rw[show decide (((j+1:Nat):Int)>0)=true by simp]
       simp only[Yv0,hw,Yv9 hj,toNat_cast,getD_lt _ hj,Xeq,kV hj,jT]
       cases leB (x.2.2.2.2.1[j]).1 (x.2.2.2.2.1[j+1]).1<;>rfl
    ·simp only[Yv0,hc];rfl) (fun t=>by
    simp only[Xe9.B,Ywf (jB _),Yvy]) () (s:=0) rfl
   refine Eq.trans this ?_
   congr 1
   exact Xkn x.2.2.2.2.1 x.2.2.2.2.1.length 0 (by omega)
  rw[h,Yvy,Yvy,Xa1,Xbc]
def Xx (x:Xa):Int:=
 cond (!inR x.1 0 2) 1 (cond (cond (cond (x.1 != 1) (cond (cond (x.2.1 != 0) true (x.2.2.1 != 0)) true (decide ((x.2.2.2.1.length:Int)>0))) false) true (cond (x.1 != 2) (decide ((x.2.2.2.2.1.length:Int)>0)) false)) 1
  (cond (x.1 == 1) (Xih x) (cond (x.1 == 2) (Xn7 x) 0)))
theorem Xsa (x:Xa) (hb:Bd Xc x):Xiy x=some (Xx x):=by
 simp only[Xiy,Xx,Xjm,Xvt x hb.2.2.2.1.1,Xtn x hb,jA];simp only[Yuw]
theorem Xpk (n:Nat):decide ((n:Int)>0) = !((n:Int) == 0):=by
 rw[Bool.eq_iff_iff];simp only[jI,Bool.not_eq_true',beq_eq_false_iff_ne,ne_eq];omega
theorem not_bne (a b:Int):(a == b) = !(a != b):=(Bool.not_not _).symm
theorem Xso (x:Xa) (hb:Bd Xc x):Xgf x=some (Xx x):=by
 simp only[Xgf,Xx,Xmy,Xth x hb.2.2.2.1.1,Xs2 x hb,jA];cases inR x.1 0 2
 ·rfl
 ·simp only[jK,Yvy]
  have e1:(cond (cond (x.2.1 == 0) (x.2.2.1 == 0) false) ((x.2.2.2.1.length:Int) == 0) false) = !(cond (cond (x.2.1 != 0) true (x.2.2.1 != 0)) true (decide ((x.2.2.2.1.length:Int)>0))):=by
   rw[show(x.2.1 != 0) = !(x.2.1 == 0) from rfl,show(x.2.2.1 != 0) = !(x.2.2.1 == 0) from rfl,Xpk]
   cases (x.2.1 == 0)<;>cases (x.2.2.1 == 0)<;>cases ((x.2.2.2.1.length:Int) == 0)<;>rfl
  have e2:(!((x.2.2.2.2.1.length:Int) == 0))=decide ((x.2.2.2.2.1.length:Int)>0):=(Xpk _).symm;rw[e1,e2,Bool.not_not]
  cases (cond (cond (x.2.1 != 0) true (x.2.2.1 != 0)) true (decide ((x.2.2.2.1.length:Int)>0)))<;>cases h1:(x.1 != 1)<;>cases h2:(x.1 != 2)<;>cases hd:decide ((x.2.2.2.2.1.length:Int)>0)<;>simp only[Yv0,Yvy]
  all_goals (rw[not_bne x.1 1,not_bne x.1 2,h1,h2])
  all_goals simp only[jK,kQ,Yv0,Yvy]
  all_goals first | rfl | skip
  all_goals (
   have hz:x.2.2.2.2.1=[]:=by simp at hd;exact hd
   have:Xn7 x=0:=by simp[Xn7,hz,Xft]
   rw[this])
def X8 (l:List Xa):Int:=cond (decide ((l.length:Int)>10)) 2 (Ygk Xx l)
theorem Xuu (l:List Xa) (hb:Bd (.sl Xc) l):Xky l=some (X8 l):=by
 simp only[Xky,X8]
 cases hd:decide ((l.length:Int)>10) with
 |true=>rfl
 |false=>
  have hl:l.length≤10:=by simp at hd;omega
  have h:Xmb l 0=_:=Yub l Xx (fun i hi=>by
   simp only[Xmb.B,Yv6 hi,Yv9 hi,Yv0,toNat_cast,getD_lt _ hi,Xsa _ (hb.2 _ (jE hi)),jA,Yvf (by omega:i<4294967296)]) (by
   simp only[Xmb.B,Ywf (jB _),Yvy])
  rw[h,Yvy,Yvy,Xa1,Xbc]
theorem Xte (l:List Xa) (hb:Bd (.sl Xc) l):Xeo l=some (X8 l):=by
 simp only[Xeo,X8]
 cases hd:decide ((l.length:Int)>10) with
 |true=>rfl
 |false=>
  have hl:l.length≤10:=by simp at hd;omega
  have h:Xhf l (l.length:Int) 0=_:=Yub l Xx (fun i hi=>by
   simp only[Xhf.B,Yv6 hi,Yv9 hi,Yv0,toNat_cast,getD_lt _ hi,Xso _ (hb.2 _ (jE hi)),jA,Yvf (by omega:i<4294967296)]) (by
   simp only[Xhf.B,Ywf (jB _),Yvy])
  rw[h,Yvy,Yvy,Xa1,Xbc]
def Xw (l:List Xa):List Int:=l.flatMap fun x=>x.2.2.2.1
theorem Xa0 {x:Xa} (h:Xx x=0):x.2.2.2.1.length≤4∧(∀ b∈x.2.2.2.1,0≤b∧b≤19)∧(x.1≠1→x.2.2.2.1=[])∧(x.1=1→Xih x=0):=by
 unfold Xx at h
 cases h1:inR x.1 0 2 with
 |false=>rw[h1] at h;cases h
 |true=>
  rw[h1] at h;simp only[jK,Yvy] at h
  by_cases e:x.1=1
  ·rw[show(x.1 != 1)=false by simp[e]] at h
   cases h2:cond (cond false (cond (cond (x.2.1 != 0) true (x.2.2.1 != 0)) true (decide ((x.2.2.2.1.length:Int)>0))) false) true (cond (x.1 != 2) (decide ((x.2.2.2.2.1.length:Int)>0)) false) with
   |true=>rw[h2] at h;cases h
   |false=>
    rw[h2,show(x.1 == 1)=true by simp[e]] at h
    simp only[Yvy,Yv0] at h;have hf:=h;unfold Xih at h
    cases h3:inR x.2.1 1 60 with
    |false=>rw[h3] at h;cases h
    |true=>
     rw[h3] at h
     cases h4:inR x.2.2.1 0 32 with
     |false=>rw[h4] at h;cases h
     |true=>
      rw[h4] at h;simp only[jK,Yvy] at h
      cases h5:((x.2.2.2.1.length:Int) != Xns x.2.2.1) with
      |true=>rw[h5] at h;cases h
      |false=>
       rw[h5] at h;simp only[Yvy] at h
       cases h6:(x.2.2.2.1.any fun b=>!inR b 0 19) with
       |true=>rw[h6] at h;cases h
       |false=>
        refine⟨?_,fun b hb=>?_,fun h=>absurd e h,fun _=>hf⟩
        ·have hs:=X9.1 h4
         have:(x.2.2.2.1.length:Int)=Xns x.2.2.1:=by simpa using h5
         unfold Xns at this
         rw[Yr5 (x:=x.2.2.1+8) (by omega) (by omega),Yr5 (x:=x.2.2.1+8-1) (by omega) (by omega),Int.tdiv_eq_ediv_of_nonneg (by omega),Yr5 (by omega) (by omega)] at this
         omega
        ·have:=List.any_eq_false.1 h6 b hb
         exact X9.1 (by simpa using this)
  ·rw[show(x.1 != 1)=true by simp[e]] at h
   cases h2:decide ((x.2.2.2.1.length:Int)>0) with
   |true=>
    rw[h2] at h;simp only[Yv0,Yut] at h
    cases h
   |false=>
    have hz:x.2.2.2.1=[]:=by simp at h2;exact h2
    exact⟨by simp[hz],by simp[hz],fun _=>hz,fun h=>absurd h e⟩
theorem Xaw {α:Type} {c:α→Int}:∀ {l:List α},Ygk c l=0↔∀ x∈l,c x=0
 |[]=>by simp[Ygk]
 |x::l=>by
  simp only[Ygk,List.mem_cons,forall_eq_or_imp];cases h:(c x != 0)
  ·have:c x=0:=by simpa using h
   simp only[Yvy,this,true_and];exact Xaw
  ·have:c x≠0:=by simpa using h
   simp only[Yv0];exact⟨fun e=>absurd e this,fun e=>absurd e.1 this⟩
theorem X4 {l:List Xa} (h:X8 l=0):l.length≤10∧∀ x∈l,Xx x=0:=by
 unfold X8 at h
 cases h1:decide ((l.length:Int)>10) with
 |true=>rw[h1] at h;cases h
 |false=>rw[h1] at h;exact⟨by simp at h1;omega,Xaw.1 h⟩
structure Xau (l:List Xa):Prop where
 len:l.length≤10
 blk:∀ x∈l,x.2.2.2.1.length≤4∧∀ b∈x.2.2.2.1,0≤b∧b≤19
theorem Xau.of {l:List Xa} (h:X8 l=0):Xau l:=
 ⟨(X4 h).1,fun x hx=>⟨(Xa0 ((X4 h).2 x hx)).1,(Xa0 ((X4 h).2 x hx)).2.1⟩⟩
theorem Xoo:∀ {l:List Xa},(∀ x∈l,x.2.2.2.1.length≤4)→(Xw l).length≤4*l.length
 |[],h=>by simp[Xw]
 |x::l,h=>by
  have h1:=h x (jF ..);have:=Xoo (l:=l) fun y hy=>h y (jG _ hy);simp only[Xw,List.flatMap_cons,jP,jH] at *;omega
theorem Xau.all {l:List Xa} (h:Xau l):(Xw l).length≤40∧∀ b∈Xw l,0≤b∧b≤19:=by
 refine⟨by have:=Xoo (l:=l) fun x hx=>(h.blk x hx).1;have:=h.len;omega,fun b hb=>?_⟩
 obtain⟨x,hx,hb⟩:=List.mem_flatMap.1 hb;exact(h.blk x hx).2 b hb
theorem Xu2 (l:List Xa) (at_:Int) (i:Nat) (hi:i<l.length) (n:Nat) (hb:l[i].2.2.2.1.length≤4) (hn:n≤1000):Xjn l at_ (i:Int) ((n:Int),0)=some (((n+l[i].2.2.2.1.count at_:Nat):Int)):=by
 have h:=Ymm (τ:=Nat) l[i].2.2.2.1 (f:=fun s=>Xjn.B l at_ (i:Int) s.1 s.2) (fun k m=>((m:Int),(k:Int))) (fun _ y m=>.inl (m+(if y == at_ then 1 else 0))) (fun m=>((m:Nat):Int)) (fun k m=>m≤n+k)
  (fun k hk m hm=>by
   simp only[Xjn.B,Yv9 hi,Yv0,toNat_cast,getD_lt _ hi,jA,Yv6 hk,Yv9 hk,getD_lt _ hk,Yvf (by omega:k<4294967296),Yvf (by omega:m<4294967296),sel]
   cases h:(l[i].2.2.2.1[k] == at_)<;>simp[h])
  (fun k hk m m' hm e=>by cases e;split<;>omega)
  (fun m hm=>by
   simp only[Xjn.B,Yv9 hi,Yv0,toNat_cast,getD_lt _ hi,jA,Ywf (jB _),Yvy]) n (by omega) (s:=((n:Int),0)) rfl
 refine Eq.trans h ?_;rw[Yh6]
 congr 2
 have:∀ (l:List Int) (m:Nat),l.foldl (fun t y=>t+(if y == at_ then 1 else 0)) m=m+l.count at_:=by
  intro l
  induction l with
  |nil=>intro m;simp
  |cons y l ih=>intro m;rw[kI,ih,List.count_cons];omega
 exact this _ _
theorem Xqi (l:List Xa) (hok:Xau l) (at_:Int):Xkm l at_=some ((((Xw l).count at_:Nat):Int)):=by
 have h:=Ymm (τ:=Nat) l (f:=fun s=>Xkp.B l at_ s.1 s.2) (fun k m=>((m:Int),(k:Int))) (fun _ x m=>.inl (m+x.2.2.2.1.count at_)) (fun m=>((m:Nat):Int)) (fun k m=>m≤4*k)
  (fun k hk m hm=>by
   have hl:=hok.len
   simp only[Xkp.B,Yv6 hk,Yv0,Xu2 l at_ k hk m (hok.blk _ (jE hk)).1 (by omega),jA,Yvf (by omega:k<4294967296),sel])
  (fun k hk m m' hm e=>by cases e;have:=(hok.blk _ (jE hk)).1;have:=List.count_le_length (a:=at_) (l:=l[k].2.2.2.1);omega)
  (fun m hm=>by simp only[Xkp.B,Ywf (jB _),Yvy]) 0 (by omega) (s:=(0,0)) rfl
 have h':Xkp l at_ (0,0)=_:=h;simp only[Xkm,h',jA];rw[Yh6]
 have:∀ (l:List Xa) (m:Nat),l.foldl (fun t x=>t+x.2.2.2.1.count at_) m=m+(Xw l).count at_:=by
  intro l
  induction l with
  |nil=>intro m;simp[Xw]
  |cons y l ih=>intro m;rw[kI,ih];simp only[Xw,List.flatMap_cons,List.count_append];omega
 rw[this,jJ]
def r20:List Int:=(List.range 20).map Int.ofNat
theorem Xn8:r20.length=20:=by simp[r20]
theorem Xjx (k:Nat) (h:k<r20.length):r20[k]=(k:Int):=by simp[r20]
theorem Xmh (a:Int):a∈r20↔0≤a∧a≤19:=by
 simp only[r20,kS,List.mem_range]
 constructor
 ·rintro⟨k,h1,rfl⟩;simp;omega
 ·intro h;exact⟨a.toNat,by omega,by simp;omega⟩
def Xa4 (l:List Xa):List Int:=r20.filter fun b=>(Xw l).contains b
def Xb1 (l:List Xa):Bool:=decide (Xw l).Nodup
theorem Xsc (l:List Xa) (hok:Xau l):Xh8 l=some (Xa4 l,Xb1 l):=by
 have h:=Ymm (τ:=Bool×List Int) r20 (f:=fun s=>Xma.B l s.1 s.2.1 s.2.2) (fun k t=>(t.1,((k:Int),t.2))) (fun _ b t=>.inl (t.1&&decide ((Xw l).count b≤1),cond ((Xw l).contains b) (t.2++[b]) t.2)) (fun t=>t) (fun k t=>t.2.length≤k)
  (fun k hk t ht=>by
   have hk':k<20:=by rw[Xn8] at hk;exact hk
   rw[Xjx k hk]
   have h20:decide ((k:Int)<20)=true:=by simp;omega
   simp only[Xma.B,h20,Yv0,Xqi l hok,jA,Yvf (by omega:k<4294967296),sel]
   have e1:decide ((((Xw l).count (k:Int):Nat):Int)>0)=(Xw l).contains (k:Int):=by
    rw[Bool.eq_iff_iff];simp only[jI,List.contains_iff_mem,←List.count_pos_iff];omega
   have e2:cond t.1 (decide ((((Xw l).count (k:Int):Nat):Int)≤1)) false=(t.1&&decide ((Xw l).count (k:Int)≤1)):=by
    cases t.1
    ·rfl
    ·simp only[Yv0,Bool.true_and];rw[Bool.eq_iff_iff];simp;omega
   rw[e1,e2,Xav (by simp;omega)]
   cases (Xw l).contains (k:Int)<;>rfl)
  (fun k hk t t' ht e=>by cases e;simp only;cases (Xw l).contains _<;>simp<;>omega)
  (fun t ht=>by
   rw[Xn8];rfl) (true,[]) (by simp) (s:=(true,0,[])) rfl
 have h':Xma l (true,0,[])=_:=h;simp only[Xh8,h',jA];rw[Yh6]
 have hf:∀ (m:List Int) (t:Bool×List Int),m.foldl (fun t b=>(t.1&&decide ((Xw l).count b≤1),cond ((Xw l).contains b) (t.2++[b]) t.2)) t=(t.1&&m.all fun b=>decide ((Xw l).count b≤1),t.2++m.filter fun b=>(Xw l).contains b):=by
  intro m
  induction m with
  |nil=>intro t;simp
  |cons b m ih=>
   intro t;rw[kI,ih,List.all_cons,List.filter_cons]
   cases (Xw l).contains b<;>simp[Bool.and_assoc]
 rw[hf];simp only[Bool.true_and,jO]
 congr 2
 rw[Bool.eq_iff_iff];simp only[Xb1,List.all_eq_true,jI,List.nodup_iff_count]
 constructor
 ·intro h a
  by_cases ha:a∈Xw l
  ·have:=hok.all.2 a ha
   exact h a ((Xmh a).2 this)
  ·rw[List.count_eq_zero.2 ha];omega
 ·intro h a _;exact h a
theorem Xm2 (s0:List Int) (k0:Nat) (h0:0<k0) (h1:k0<s0.length) (hl:s0.length≤2147483648):∀ (m j k:Nat) (s:List Int),j+m=s0.length-k0→0<j→s.length=s0.length→k<k0+j→∃ (k':Nat) (s':List Int),Xb9 k0 (s0.length-k0) ((k:Int),(j:Int),s)=some ((k':Int),s')∧s'.length=s0.length∧k'<s0.length
 |0,j,k,s,hj,h2,h3,h4=>by
  refine⟨k,s,Yap ?_,h3,by omega⟩
  simp only[Xb9.B,show decide ((j:Int)<((s0.length-k0:Nat):Int))=false by simp;omega,Yvy]
 |m+1,j,k,s,hj,h2,h3,h4=>by
  have hw:w64 ((j:Int)-1)=((j-1:Nat):Int):=by rw[Yr5 (by omega) (by omega)];omega
  have hst:∃ k' s',Xb9.B k0 (s0.length-k0) (k:Int) (j:Int) s=some (.inl ((k':Nat),((j+1:Nat):Int),s'))∧s'.length=s0.length∧k'<k0+(j+1):=by
   simp only[Xb9.B,show decide ((j:Int)<((s0.length-k0:Nat):Int))=true by simp;omega,Yv9 (by omega:j<s0.length-k0),hw,Yv9 (by omega:j-1<s0.length-k0),Yv9 (by omega:k<s.length),Yv0,jA,toNat_cast,Yvf (by omega:j<4294967296),Yvf (by omega:k<4294967296)]
   cases (s.getD (k0+j) 0 != s.getD (k0+(j-1)) 0)
   ·exact⟨k,s,rfl,h3,by omega⟩
   ·exact⟨k+1,_,rfl,by simpa using h3,by omega⟩
  obtain⟨k1,s1,e1,e2,e3⟩:=hst
  obtain⟨k',s',q1,q2,q3⟩:=Xm2 s0 k0 h0 h1 hl m (j+1) k1 s1 (by omega) (by omega) e2 (by omega)
  refine⟨k',s',?_,q2,q3⟩;unfold Xb9;rw[Ybe (s':=((k1:Int),((j+1:Nat):Int),s1)) e1];exact q1
theorem Xmq (s:List Int) (hl:s.length≤2147483648):∀ (m n:Nat),n+m=s.length→0<n→
  (Xbl s (n:Int)=some (.inr ())∧∀ i,n≤i→(h:i<s.length)→s[i]≠s[i-1])∨(∃ (k:Nat) (s':List Int),Xbl s (n:Int)=some (.inl (0,k-0,s'))∧s'.length=s.length∧k<s.length∧∃ i,n≤i∧∃ h:i<s.length,s[i]=s[i-1])
 |0,n,hn,h0=>by
  have:n=s.length:=by omega
  subst this
  refine .inl ⟨Yap ?_,fun i h1 h2=>by omega⟩
  simp only[Xbl.B,Ywf (jB _),Yvy]
 |m+1,n,hn,h0=>by
  have hlt:n<s.length:=by omega
  have hw:w64 ((n:Int)-1)=((n-1:Nat):Int):=by rw[Yr5 (by omega) (by omega)];omega
  by_cases he:s[n]=s[n-1]
  ·refine .inr ?_
   obtain⟨k',s',q1,q2,q3⟩:=Xm2 s n h0 hlt hl (s.length-n-1) 1 n s (by omega) (by omega) rfl (by omega)
   refine⟨k',splice s' k' (List.replicate (s'.length-k') 0),Yap ?_,by simp[splice];omega,q3,n,jB _,hlt,he⟩
   have q1':Xb9 n (s.length-n) ((n:Int),1,s)=some ((k':Int),s'):=q1
   simp only[Xbl.B,Yv6 hlt,Yv9 hlt,hw,Yv9 (by omega:n-1<s.length),Yv0,jA,toNat_cast,getD_lt _ hlt,getD_lt _ (by omega:n-1<s.length),he,beq_self_eq_true,q1']
   rw[show(decide ((0:Int)≤(n:Int))&&decide ((n:Int)≤(s.length:Int)))=true by simp;omega,show(decide ((0:Int)≤(k':Int))&&decide ((k':Int)≤(s'.length:Int)))=true by simp;omega,
    show(decide ((0:Int)≤(k':Int))&&decide ((k':Int)≤((splice s' k' (List.replicate (s'.length-k') 0)).length:Int)))=true by simp[splice];omega]
   rfl
  ·have hst:Xbl.B s (n:Int)=some (.inl ((n+1:Nat):Int)):=by
    simp only[Xbl.B,Yv6 hlt,Yv9 hlt,hw,Yv9 (by omega:n-1<s.length),Yv0,jA,toNat_cast,getD_lt _ hlt,getD_lt _ (by omega:n-1<s.length),Yvf (by omega:n<4294967296)]
    rw[show(s[n] == s[n-1])=false by simp[he]]
    rfl
   unfold Xbl;rw[Ybe (f:=fun s_1=>Xbl.B s s_1) hst]
   rcases Xmq s hl m (n+1) (by omega) (by omega) with ⟨q1,q2⟩ | ⟨k,s',q1,q2,q3,i,q4,q5,q6⟩
   ·refine .inl ⟨q1,fun i h1 h2=>?_⟩
    by_cases e:i=n
    ·subst e;exact he
    ·exact q2 i (by omega) h2
   ·exact .inr ⟨k,s',q1,q2,q3,i,by omega,q5,q6⟩
theorem Xo4 (s:List Int) (hl:s.length≤2147483648) (hs:s.Pairwise fun a b=>a≤b):∃ r,Xjy s=some r∧((r.length:Int) == (s.length:Int))=decide s.Nodup:=by
 simp only[Xjy]
 by_cases h2:s.length<2
 ·rw[show decide ((s.length:Int)<2)=true by simp;omega]
  refine⟨s,rfl,?_⟩
  have:s.Nodup:=by
   match s,h2 with
   |[],_=>simp
   |[x],_=>simp
  simp[this]
 ·rw[show decide ((s.length:Int)<2)=false by simp;omega]
  simp only[Yvy]
  have hle:∀ i j,(hij:i≤j)→(hj:j<s.length)→s[i]≤s[j]:=by
   intro i j hij hj;rcases Nat.lt_or_eq_of_le hij with h | h
   ·exact List.pairwise_iff_getElem.1 hs i j _ hj h
   ·subst h;exact Int.le_refl _
  rcases Xmq s hl (s.length-1) 1 (by omega) (by omega) with ⟨q1,q2⟩ | ⟨k,s',q1,q2,q3,i,q4,q5,q6⟩
  ·have q1':Xbl s 1=some (.inr ()):=q1
   rw[q1'];refine⟨s,rfl,?_⟩
   have:s.Nodup:=by
    rw[List.Nodup,List.pairwise_iff_getElem];intro i j hi hj hij he
    have h1:=hle i (j-1) (by omega) (by omega)
    have h2:=hle (j-1) j (by omega) hj
    exact q2 j (by omega) hj (by omega)
   simp[this]
  ·have q1':Xbl s 1=some (.inl (0,k-0,s')):=q1
   rw[q1'];refine⟨_,rfl,?_⟩
   have:¬ s.Nodup:=by
    intro hn
    exact List.pairwise_iff_getElem.1 hn (i-1) i (by omega) q5 (by omega) q6.symm
   simp only[this,decide_false]
   have hlen:((List.drop 0 s').take (k-0)).length=k:=by simp;omega
   rw[hlen];simp;omega
def Xah (l:List Int):List Int:=l.mergeSort fun x y=>decide (x≤y)
theorem Xju (l:List Int):(Xah l).Pairwise fun a b=>a≤b:=by
 have:=List.pairwise_mergeSort (le:=fun x y:Int=>decide (x≤y)) (fun a b c h1 h2=>by simp at *;omega) (fun a b=>by simp;omega) l
 simpa [Xah] using this
theorem Xaj (l:List Int):(Xah l).Perm l:=List.mergeSort_perm _ _
theorem Xno (l:List Int):(Xah l).length=l.length:=(Xaj l).length_eq
theorem Xql {l:List Int} (h:l.length≤2147483648):Ytl l=some (Xah l):=by
 unfold Ytl Xah;rw[Xav h];rfl
theorem Xpx (l:List Xa) (hok:Xau l):Xap l=some (Xah (Xw l),Xb1 l):=by
 have hall:=hok.all
 have h:Xec l (l.length:Int) (0,[])=some (l.foldl (fun t x=>t++x.2.2.2.1) []):=
  Yoo l (f:=fun s=>Xec.B l (l.length:Int) s.1 s.2) (fun t x=>t++x.2.2.2.1) id (fun i t=>t.length≤4*i) (fun i hi t ht=>by
   have h4:=(hok.blk _ (jE hi)).1;have hl:=hok.len
   refine⟨?_,by simp;omega⟩
   simp only[Xec.B,Yv6 hi,Yv9 hi,Yv0,toNat_cast,getD_lt _ hi,jA,Yvf (by omega:i<4294967296)]
   rw[Xav (by simp;omega)];rfl) (fun t ht=>by
   simp only[Xec.B,Ywf (jB _),Yvy,id]) [] (by simp)
 have h2:∀ (l:List Xa) (t:List Int),l.foldl (fun t x=>t++x.2.2.2.1) t=t++Xw l:=by
  intro l
  induction l with
  |nil=>intro t;simp[Xw]
  |cons x l ih=>intro t;rw[kI,ih];simp[Xw]
 rw[h2,jO] at h
 obtain⟨r,hr1,hr2⟩:=Xo4 (Xah (Xw l)) (by rw[Xno];omega) (Xju _)
 simp only[Xap,h,jA,Xlr,Xql (by omega:(Xw l).length≤2147483648),Xak,Xfd (by rw[Xno];omega:(Xah (Xw l)).length≤2147483648),hr1,hr2]
 congr 2
 rw[Bool.eq_iff_iff];simp only[Xb1,jI];exact(Xaj _).nodup_iff
theorem Xp2 (l:List Xa) (hok:Xau l) (h:Xb1 l=true):Xah (Xw l)=Xa4 l:=by
 have hn:(Xw l).Nodup:=by simpa [Xb1] using h
 refine List.Perm.eq_of_pairwise (le:=fun a b=>a≤b) (fun a b _ _ h1 h2=>by omega) (Xju _) ?_ ?_
 ·refine List.Pairwise.filter _ ?_
  rw[List.pairwise_iff_getElem];intro i j hi hj hij;rw[Xjx,Xjx];omega
 ·refine(Xaj _).trans ?_
  rw[List.perm_iff_count];intro a
  have hr:r20.Nodup:=by
   rw[List.Nodup,List.pairwise_iff_getElem];intro i j hi hj hij;rw[Xjx,Xjx];omega
  have hu:(Xa4 l).Nodup:=List.Pairwise.filter _ hr;rw[hn.count,hu.count]
  congr 1
  rw[Xa4,List.mem_filter,Xmh];simp only[List.contains_iff_mem,eq_iff_iff];exact⟨fun h=>⟨hok.all.2 a h,h⟩,fun h=>h.2⟩
theorem Xoq:∀ {p:Option (List UInt8)} {l:List Xg},Xft p l=0→∀ e∈l,Xen e.1=0∧0≤e.2.1∧e.2.1≤9
 |p,[],h,e,he=>by cases he
 |p,x::l,h,e,he=>by
  simp only[Xft] at h
  cases hc:(Xiq p x != 0) with
  |true=>
   rw[hc] at h
   have:Xiq p x≠0:=by simpa using hc
   exact absurd h this
  |false=>
   rw[hc] at h;rcases List.mem_cons.1 he with rfl | he
   ·have h0:Xiq p e=0:=by simpa using hc
    unfold Xiq at h0
    cases h1:(Xen e.1 != 0) with
    |true=>rw[h1] at h0;exact absurd h0 (by simpa using h1)
    |false=>
     rw[h1] at h0
     cases h2:inR e.2.1 0 9 with
     |false=>rw[h2] at h0;cases h0
     |true=>exact⟨by simpa using h1,X9.1 h2⟩
   ·exact Xoq h e he
theorem Xbe {x:Xa} (h:Xx x=0):(0≤x.1∧x.1≤2)∧x.2.2.2.2.1.length≤6∧(x.1≠2→x.2.2.2.2.1=[])∧(x.1=2→Xn7 x=0)∧(x.1≠1→x.2.1=0∧x.2.2.1=0)∧∀ e∈x.2.2.2.2.1,Xen e.1=0∧0≤e.2.1∧e.2.1≤9:=by
 unfold Xx at h
 cases h1:inR x.1 0 2 with
 |false=>rw[h1] at h;cases h
 |true=>
  rw[h1] at h;simp only[jK,Yvy] at h;have hk:=X9.1 h1
  have hz:x.1≠1→x.2.1=0∧x.2.2.1=0:=by
   intro e
   rw[show(x.1 != 1)=true by simp[e]] at h
   cases h2:(x.2.1 != 0) with
   |true=>rw[h2] at h;cases h
   |false=>
    cases h3:(x.2.2.1 != 0) with
    |true=>rw[h2,h3] at h;cases h
    |false=>exact⟨by simpa using h2,by simpa using h3⟩
  cases h2:cond (cond (x.1 != 1) (cond (cond (x.2.1 != 0) true (x.2.2.1 != 0)) true (decide ((x.2.2.2.1.length:Int)>0))) false) true (cond (x.1 != 2) (decide ((x.2.2.2.2.1.length:Int)>0)) false) with
  |true=>rw[h2] at h;cases h
  |false=>
   rw[h2] at h
   by_cases e:x.1=2
   ·rw[show(x.1 == 1)=false by simp[e],show(x.1 == 2)=true by simp[e]] at h
    simp only[Yvy,Yv0] at h;have hd:=h;unfold Xn7 at h
    cases h3:decide ((x.2.2.2.2.1.length:Int)>6) with
    |true=>rw[h3] at h;cases h
    |false=>
     rw[h3] at h
     exact⟨hk,by simp at h3;omega,fun hh=>absurd e hh,fun _=>hd,hz,Xoq h⟩
   ·rw[show(x.1 != 2)=true by simp[e]] at h2
    have:x.2.2.2.2.1=[]:=by
     cases h3:decide ((x.2.2.2.2.1.length:Int)>0) with
     |true=>
      rw[h3] at h2;exfalso
      revert h2
      generalize cond (x.1 != 1) (cond (cond (x.2.1 != 0) true (x.2.2.1 != 0)) true (decide ((x.2.2.2.1.length:Int)>0))) false=b
      cases b<;>intro h2<;>cases h2
     |false=>simp at h3;exact h3
    exact⟨hk,by simp[this],fun _=>this,fun hh=>absurd hh e,hz,by simp[this]⟩
def Xaz (l:List Xa) (e:Xg):Bool:=cond (decide (e.2.1≥(l.length:Int))) true ((l.getD e.2.1.toNat Xb).1 == 0)
def Xhy (f:Fs_):Int:=cond (X8 f.1 != 0) (X8 f.1) (cond (cond (cond ((f.1.length:Int) == 0) true ((f.1.getD 0 Xb).1 != 2)) true ((f.2.1.length:Int) != 20)) 1 0)
def Xb5 (f:Fs_):Int:=cond (Xhy f != 0) (Xhy f)
 (cond (f.2.1.any fun b=>decide ((b.length:Int)>8)) 2 (cond (!Xb1 f.1) 7 (cond (f.1.any fun x=>x.2.2.2.2.1.any (Xaz f.1)) 4 0)))
structure Xie (l:List Xa):Prop where
 ent:∀ x∈l,x.2.2.2.2.1.length≤6∧∀ e∈x.2.2.2.2.1,0≤e.2.1∧e.2.1≤9
theorem Xie.of {l:List Xa} (h:X8 l=0):Xie l:=
 ⟨fun x hx=>⟨(Xbe ((X4 h).2 x hx)).2.1,fun e he=>((Xbe ((X4 h).2 x hx)).2.2.2.2.2 e he).2⟩⟩
theorem Xtf (f:Fs_) (hok:Xau f.1) (hen:Xie f.1) (n:Nat) (hn:n<f.1.length):Xjj f (n:Int) 0=some (cond (f.1[n].2.2.2.2.1.any (Xaz f.1)) (.inl 4) (.inr ())):=
 Yu1 f.1[n].2.2.2.2.1 (f:=fun s=>Xjj.B f (n:Int) s) (Xaz f.1) (4:Int) (fun i hi=>by
  have hx:=hen.ent _ (jE hn);have he:=hx.2 _ (jE hi)
  simp only[Xjj.B,Yv9 hn,Yv0,toNat_cast,getD_lt _ hn,jA,Yv6 hi,Yv9 hi,getD_lt _ hi,Yvf (by omega:i<4294967296),Xaz]
  by_cases hh:(f.1[n].2.2.2.2.1[i]).2.1≥(f.1.length:Int)
  ·rw[show decide ((f.1[n].2.2.2.2.1[i]).2.1≥(f.1.length:Int))=true by simp[hh]];rfl
  ·rw[show decide ((f.1[n].2.2.2.2.1[i]).2.1≥(f.1.length:Int))=false by simp;omega,show inB (f.1[n].2.2.2.2.1[i]).2.1 f.1.length=true from Yt7 he.1 (by omega)]
   rfl) (by
  simp only[Xjj.B,Yv9 hn,Yv0,toNat_cast,getD_lt _ hn,jA,Ywf (jB _),Yvy])
theorem Xr0 (f:Fs_) (hb:Bd Xk f):Xfo f=some (Xb5 f):=by
 simp only[Xfo,Xb5,Xhy,Xuu f.1 hb.1,jA]
 cases hi:(X8 f.1 != 0) with
 |true=>simp only[Yv0,hi]
 |false=>
  have h0:X8 f.1=0:=by simpa using hi
  have hok:=Xau.of h0;have hen:=Xie.of h0;simp only[Yvy]
  have e1:cond (!((f.1.length:Int) == 0)) (inB 0 f.1.length) true=true:=by
   cases hl:((f.1.length:Int) == 0) with
   |true=>rfl
   |false=>exact Yv9 (i:=0) (by
     have:(f.1.length:Int)≠0:=by simpa using hl
     omega)
  rw[e1];simp only[Yv0,show(0:Int).toNat=0 from rfl]
  cases hr:cond (cond ((f.1.length:Int) == 0) true ((f.1.getD 0 Xb).1 != 2)) true ((f.2.1.length:Int) != 20) with
  |true=>rfl
  |false=>
   have hd:f.2.1.length=20:=by
    cases h20:((f.2.1.length:Int) != 20) with
    |false=>have:(f.2.1.length:Int)=20:=by simpa using h20
            omega
    |true=>rw[h20] at hr;cases hh:(cond ((f.1.length:Int) == 0) true ((f.1.getD 0 Xb).1 != 2))<;>rw[hh] at hr<;>cases hr
   have h1:Xl9 f 0=_:=Yu1 f.2.1 (fun b=>decide ((b.length:Int)>8)) (2:Int) (fun i hi=>by
    simp only[Xl9.B,Yv6 hi,Yv9 hi,Yv0,toNat_cast,getD_lt _ hi,jA,Yvf (by omega:i<4294967296)]) (by
    simp only[Xl9.B,Ywf (jB _),Yvy])
   have h2:Xl7 f 0=_:=Yu1 f.1 (fun x=>x.2.2.2.2.1.any (Xaz f.1)) (4:Int) (fun i hi=>by
    have hl:=hok.len
    simp only[Xl7.B,Yv6 hi,Yv0,Xtf f hok hen i hi,jA,Yvf (by omega:i<4294967296)]
    cases (f.1[i].2.2.2.2.1.any (Xaz f.1))<;>rfl) (by
    simp only[Xl7.B,Ywf (jB _),Yvy])
   simp only[Yvy,h1,h2,jA,Xsc f.1 hok];cases f.2.1.any fun b=>decide ((b.length:Int)>8)
   ·simp only[Yvy,Yv1]
    cases Xb1 f.1
    ·rfl
    ·simp only[jK,Yvy]
     cases f.1.any fun x=>x.2.2.2.2.1.any (Xaz f.1)<;>rfl
   ·rfl
theorem Xti (f:Fs_) (hb:Bd Xk f):Xjw f=some (Xhy f):=by
 simp only[Xjw,Xhy,Xte f.1 hb.1,jA]
 cases hi:(X8 f.1 != 0) with
 |true=>simp only[Yv0]
 |false=>
  simp only[Yvy]
  have e1:cond (!((f.1.length:Int) == 0)) (inB 0 f.1.length) true=true:=by
   cases hl:((f.1.length:Int) == 0) with
   |true=>rfl
   |false=>exact Yv9 (i:=0) (by
     have:(f.1.length:Int)≠0:=by simpa using hl
     omega)
  rw[e1];simp only[Yv0,show(0:Int).toNat=0 from rfl,Yuw]
theorem Xox {f:Fs_} (h:Xhy f=0):X8 f.1=0∧0<f.1.length∧(f.1.getD 0 Xb).1=2∧f.2.1.length=20:=by
 unfold Xhy at h
 cases hi:(X8 f.1 != 0) with
 |true=>rw[hi] at h;exact absurd h (by simpa using hi)
 |false=>
  rw[hi] at h
  refine⟨by simpa using hi,?_⟩
  cases h1:((f.1.length:Int) == 0) with
  |true=>rw[h1] at h;cases h
  |false=>
   rw[h1] at h
   cases h2:((f.1.getD 0 Xb).1 != 2) with
   |true=>rw[h2] at h;cases h
   |false=>
    rw[h2] at h
    cases h3:((f.2.1.length:Int) != 20) with
    |true=>rw[h3] at h;cases h
    |false=>
     have a1:(f.1.length:Int)≠0:=by simpa using h1
     have a3:(f.2.1.length:Int)=20:=by simpa using h3
     exact⟨by omega,by simpa using h2,by omega⟩
theorem Xu8 (f:Fs_) (hok:Xau f.1) (hen:Xie f.1) (v2 v3:Int) (x:Xa) (hx:x∈f.1):Xdn f f.1 v2 v3 x.2.2.2.2.1 (x.2.2.2.2.1.length:Int) 0=some (cond (x.2.2.2.2.1.any (Xaz f.1)) (.inl 4) (.inr ())):=
 Yu1 x.2.2.2.2.1 (f:=fun s=>Xdn.B f f.1 v2 v3 x.2.2.2.2.1 (x.2.2.2.2.1.length:Int) s) (Xaz f.1) (4:Int) (fun i hi=>by
  have hx:=hen.ent _ hx;have he:=hx.2 _ (jE hi)
  simp only[Xdn.B,Xgz,Yv0,toNat_cast,jA,Yv6 hi,Yv9 hi,getD_lt _ hi,Yvf (by omega:i<4294967296),Xaz]
  by_cases hh:(x.2.2.2.2.1[i]).2.1≥(f.1.length:Int)
  ·rw[show decide ((x.2.2.2.2.1[i]).2.1≥(f.1.length:Int))=true by simp[hh]];rfl
  ·rw[show decide ((x.2.2.2.2.1[i]).2.1≥(f.1.length:Int))=false by simp;omega,show inB (x.2.2.2.2.1[i]).2.1 f.1.length=true from Yt7 he.1 (by omega)]
   rfl) (by
  simp only[Xdn.B,Ywf (jB _),Yvy])
theorem Xsf (f:Fs_) (hb:Bd Xk f):Xbm f=some (Xb5 f):=by
 simp only[Xbm,Xb5,Xti f hb,jA]
 cases hi:(Xhy f != 0) with
 |true=>simp only[Yv0]
 |false=>
  have h0:Xhy f=0:=by simpa using hi
  obtain⟨g1,g2,g3,g4⟩:=Xox h0;have hok:=Xau.of g1;have hen:=Xie.of g1
  have h1:Xje f.2.1 ()=some (f.2.1.any fun b=>decide ((b.length:Int)>8)):=by
   have h:Xhb f.2.1 () (f.2.1.length:Int) 0=_:=Yve f.2.1 (fun b=>decide ((b.length:Int)>8)) (fun i hi=>by
    simp only[Xhb.B,Yv6 hi,Yv9 hi,Yv0,toNat_cast,getD_lt _ hi,Xlg,jA,Yvf (by omega:i<4294967296)]) (by
    simp only[Xhb.B,Ywf (jB _),Yvy]) 0 (kE _)
   simp only[Xje,Xgx];rw[Xdw _ _ h,List.drop_zero]
  have h2:Xg1 f f.1 (f.1.length:Int) 0=_:=Yu1 f.1 (fun x=>x.2.2.2.2.1.any (Xaz f.1)) (4:Int) (fun i hi=>by
   have hl:=hok.len
   simp only[Xg1.B,Yv6 hi,Yv9 hi,Yv0,toNat_cast,getD_lt _ hi,jA,Xu8 f hok hen _ _ _ (jE hi),Yvf (by omega:i<4294967296)]
   cases (f.1[i].2.2.2.2.1.any (Xaz f.1))<;>rfl) (by
   simp only[Xg1.B,Ywf (jB _),Yvy])
  simp only[Yvy,h1,h2,jA,Xpx f.1 hok];cases f.2.1.any fun b=>decide ((b.length:Int)>8)
  ·simp only[Yvy]
   cases Xb1 f.1
   ·rfl
   ·simp only[jK,Yvy]
    cases f.1.any fun x=>x.2.2.2.2.1.any (Xaz f.1)<;>rfl
  ·rfl
structure Xad (f:Fs_):Prop where
 inod:X8 f.1=0
 pos:0<f.1.length
 root:(f.1.getD 0 Xb).1=2
 dat:f.2.1.length=20
 dl:∀ b∈f.2.1,b.length≤8
 once:Xb1 f.1=true
 ent:∀ x∈f.1,∀ e∈x.2.2.2.2.1,0≤e.2.1∧e.2.1<(f.1.length:Int)∧(f.1.getD e.2.1.toNat Xb).1≠0
theorem Xad.of {f:Fs_} (h:Xb5 f=0):Xad f:=by
 unfold Xb5 at h
 cases hi:(Xhy f != 0) with
 |true=>rw[hi] at h;exact absurd h (by simpa using hi)
 |false=>
  rw[hi] at h
  obtain⟨g1,g2,g3,g4⟩:=Xox (by simpa using hi:Xhy f=0)
  cases h1:(f.2.1.any fun b=>decide ((b.length:Int)>8)) with
  |true=>rw[h1] at h;cases h
  |false=>
   rw[h1] at h
   cases h2:Xb1 f.1 with
   |false=>rw[h2] at h;cases h
   |true=>
    rw[h2] at h
    cases h3:(f.1.any fun x=>x.2.2.2.2.1.any (Xaz f.1)) with
    |true=>rw[h3] at h;cases h
    |false=>
     refine⟨g1,g2,g3,g4,fun b hb=>?_,h2,fun x hx e he=>?_⟩
     ·have:=List.any_eq_false.1 h1 b hb
      simp at this;omega
     ·have hh:=List.any_eq_false.1 h3 x hx
      have hh2:(x.2.2.2.2.1.any (Xaz f.1))=false:=by simpa using hh
      have hb:=List.any_eq_false.1 hh2 e he
      have hb2:Xaz f.1 e=false:=by simpa using hb
      have h0:=((Xie.of g1).ent x hx).2 e he;unfold Xaz at hb2
      cases h4:decide (e.2.1≥(f.1.length:Int)) with
      |true=>rw[h4] at hb2;cases hb2
      |false=>
       rw[h4] at hb2
       exact⟨h0.1,by simp at h4;omega,by simpa using hb2⟩
abbrev Xai (l:List Xa) (a:Nat):List Xg:=(l.getD a Xb).2.2.2.2.1
inductive Reach (l:List Xa) (s:Nat):Nat→Prop
 |refl:Reach l s s
 |step {a b:Nat}:Reach l s a→(∃ e∈Xai l a,e.2.1=(b:Int))→Reach l s b
def Xhl (l:List Xa):Prop:=∀ x∈l,x.2.2.2.2.1.length≤6∧∀ e∈x.2.2.2.2.1,0≤e.2.1∧e.2.1<(l.length:Int)
theorem Xad.Xsh {f:Fs_} (h:Xad f):Xhl f.1:=fun x hx=>⟨((Xie.of h.inod).ent x hx).1,fun e he=>⟨(h.ent x hx e he).1,(h.ent x hx e he).2.1⟩⟩
theorem Xcj {l:List Xa} (h:Xhl l) {a:Nat} {e:Xg} (he:e∈Xai l a):0≤e.2.1∧e.2.1<(l.length:Int):=by
 unfold Xai at he
 by_cases ha:a<l.length
 ·rw[getD_lt _ ha] at he;exact(h _ (jE ha)).2 e he
 ·rw[kT,List.getElem?_eq_none (by omega)] at he;cases he
theorem Reach.lt {l:List Xa} (h:Xhl l) {s a:Nat} (hs:s<l.length) (hr:Reach l s a):a<l.length:=by
 induction hr with
 |refl=>exact hs
 |step _ he _=>obtain⟨e,he,h2⟩:=he;have:=Xcj h he;omega
abbrev on (b:List Bool) (i:Nat):Prop:=b.getD i false=true
theorem Xgl {b:List Bool} {i j:Nat}:on (b.set i true) j↔on b j∨(i=j∧i<b.length):=by
 unfold on;rw[kT,kT,List.getElem?_set]
 by_cases e:i=j
 ·subst e
  by_cases h:i<b.length
  ·simp[h]
  ·simp[h]
 ·simp[e]
theorem Xrc {b:List Bool} {i:Nat} (h:on b i):i<b.length:=by
 unfold on at h
 by_cases hh:i<b.length
 ·exact hh
 ·rw[kT,List.getElem?_eq_none (by omega)] at h;cases h
theorem Xsy {b:List Bool} {i:Nat} (h:on b i):b.set i true=b:=by
 have hl:=Xrc h;unfold on at h;rw[getD_lt _ hl] at h
 conv=>lhs;rw[←h]
 exact List.set_getElem_self hl
def Xgo (b:List Bool) (es:List Xg):List Bool:=es.foldl (fun b e=>b.set e.2.1.toNat true) b
theorem Xh1:∀ (es:List Xg) (b:List Bool),(Xgo b es).length=b.length
 |[],b=>rfl
 |e::es,b=>by simp only[Xgo,kI];exact(Xh1 es _).trans (by simp)
theorem Xhs:∀ (es:List Xg) (b:List Bool) (j:Nat),on (Xgo b es) j↔on b j∨(j<b.length∧∃ e∈es,e.2.1.toNat=j)
 |[],b,j=>by simp[Xgo]
 |e::es,b,j=>by
  have ih:=Xhs es (b.set e.2.1.toNat true) j;have:on (Xgo b (e::es)) j↔on (Xgo (b.set e.2.1.toNat true) es) j:=Iff.rfl;rw[this,ih,Xgl,kC]
  constructor
  ·rintro((h | ⟨h1,h2⟩) | ⟨h1,e',h2,h3⟩)
   ·exact .inl h
   ·exact .inr ⟨by omega,e,jF ..,h1⟩
   ·exact .inr ⟨h1,e',jG _ h2,h3⟩
  ·rintro(h | ⟨h1,e',h2,h3⟩)
   ·exact .inl (.inl h)
   ·rcases List.mem_cons.1 h2 with rfl | h2
    ·exact .inl (.inr ⟨h3,by omega⟩)
    ·exact .inr ⟨h1,e',h2,h3⟩
theorem Xmz:∀ (es:List Xg) (b:List Bool),(∀ e∈es,on b e.2.1.toNat)→Xgo b es=b
 |[],b,h=>rfl
 |e::es,b,h=>by
  simp only[Xgo,kI];rw[Xsy (h e (jF ..))];exact Xmz es b fun x hx=>h x (jG _ hx)
def Xbd (l:List Xa):List Nat→List Bool→List Bool
 |[],b=>b
 |i::is,b=>Xbd l is (cond (b.getD i false) (Xgo b (Xai l i)) b)
def Xh2 (l:List Xa) (b:List Bool):Prop:=∀ i,on b i→∀ e∈Xai l i,on b e.2.1.toNat
def Xhu (l:List Xa) (s:Nat) (b:List Bool):Prop:=∀ j,on b j→Reach l s j
theorem Xix (l:List Xa):∀ (is:List Nat) (b:List Bool),(Xbd l is b).length=b.length
 |[],b=>rfl
 |i::is,b=>by simp only[Xbd];rw[Xix l is];cases b.getD i false<;>simp[Xh1]
theorem Xcz (l:List Xa):∀ (is:List Nat) (b:List Bool) (j:Nat),on b j→on (Xbd l is b) j
 |[],b,j,h=>h
 |i::is,b,j,h=>by
  refine Xcz l is _ j ?_;cases b.getD i false
  ·exact h
  ·exact(Xhs _ _ _).2 (.inl h)
theorem Xj4 {l:List Xa} (hl:Xhl l) {s:Nat}:∀ (is:List Nat) (b:List Bool),Xhu l s b→Xhu l s (Xbd l is b)
 |[],b,h=>h
 |i::is,b,h=>by
  refine Xj4 hl is _ ?_;cases hi:b.getD i false
  ·exact h
  ·intro j hj
   rcases(Xhs _ _ _).1 hj with hj | ⟨_,e,he,h2⟩
   ·exact h j hj
   ·have:=Xcj hl he
    exact .step (h i hi) ⟨e,he,by omega⟩
theorem Xlm {l:List Xa}:∀ (is:List Nat) (b:List Bool) (i:Nat),i∈is→on b i→∀ e∈Xai l i,e.2.1.toNat<b.length→on (Xbd l is b) e.2.1.toNat
 |k::is,b,i,hi,hb,e,he,hlt=>by
  rcases List.mem_cons.1 hi with rfl | hi
  ·refine Xcz l is _ _ ?_
   rw[hb];exact(Xhs _ _ _).2 (.inr ⟨hlt,e,he,rfl⟩)
  ·refine Xlm is _ i hi ?_ e he ?_
   ·cases b.getD k false
    ·exact hb
    ·exact(Xhs _ _ _).2 (.inl hb)
   ·cases b.getD k false
    ·exact hlt
    ·simpa [Xh1] using hlt
theorem Xbu {l:List Xa}:∀ (is:List Nat) (b:List Bool),Xh2 l b→Xbd l is b=b
 |[],b,h=>rfl
 |i::is,b,h=>by
  simp only[Xbd];cases hi:b.getD i false
  ·exact Xbu is b h
  ·simp only[Yv0]
   rw[Xmz _ _ (h i hi)];exact Xbu is b h
theorem Xqe:∀ (b c:List Bool),b.length=c.length→(∀ j,on b j→on c j)→b.count true≤c.count true
 |[],[],_,_=>jB _
 |x::b,y::c,hl,h=>by
  have ih:=Xqe b c (by simpa using hl) fun j hj=>h (j+1) hj
  have h0:=h 0;simp only[List.count_cons]
  cases x<;>cases y<;>simp[on] at h0 ⊢<;>omega
theorem cnt_lt:∀ (b c:List Bool),b.length=c.length→(∀ j,on b j→on c j)→(∃ j,on c j∧¬ on b j)→b.count true<c.count true
 |[],[],_,_,⟨j,h,_⟩=>by have:=Xrc h;simp at this
 |x::b,y::c,hl,h,⟨j,h1,h2⟩=>by
  have h0:=h 0;simp only[List.count_cons]
  cases j with
  |zero=>
   have ih:=Xqe b c (by simpa using hl) fun j hj=>h (j+1) hj
   cases x<;>cases y<;>simp[on] at h1 h2 h0 ⊢<;>omega
  |succ j=>
   have ih:=cnt_lt b c (by simpa using hl) (fun j hj=>h (j+1) hj) ⟨j,h1,h2⟩
   cases x<;>cases y<;>simp[on] at h0 ⊢<;>omega
def Xat (l:List Xa):Nat→List Bool→List Bool
 |0,b=>b
 |n+1,b=>Xat l n (Xbd l (List.range l.length) b)
theorem Xii {l:List Xa} (hl:Xhl l):∀ (n:Nat) (b:List Bool),b.length=l.length→l.length≤n+b.count true→Xh2 l (Xat l n b)∧(Xat l n b).length=l.length∧(∀ j,on b j→on (Xat l n b) j)∧∀ s,Xhu l s b→Xhu l s (Xat l n b)
 |0,b,hb,hn=>by
  refine⟨fun i hi e he=>?_,hb,fun _ h=>h,fun _ h=>h⟩
  have hall:b.count true=b.length:=by have:=List.count_le_length (a:=true) (l:=b);omega
  have hlt:=(Xcj hl he)
  have:b.getD e.2.1.toNat false=b[e.2.1.toNat]'(by omega):=getD_lt _ _
  show b.getD e.2.1.toNat false=true;rw[this]
  exact(List.count_eq_length.1 hall _ (jE _)).symm
 |n+1,b,hb,hn=>by
  simp only[Xat];have hlen:=Xix l (List.range l.length) b
  by_cases hc:Xh2 l b
  ·rw[Xbu _ _ hc]
   have:∀ n,Xat l n b=b:=by
    intro n
    induction n with
    |zero=>rfl
    |succ n ih=>simp only[Xat];rw[Xbu _ _ hc];exact ih
   rw[this];exact⟨hc,hb,fun _ h=>h,fun _ h=>h⟩
  ·obtain⟨i,h1,e,h2,h3⟩:∃ i,on b i∧∃ e∈Xai l i,¬ on b e.2.1.toNat:=by
    unfold Xh2 at hc;simp only[Classical.not_forall] at hc;obtain⟨i,h1,e,h2,h3⟩:=hc;exact⟨i,h1,e,h2,h3⟩
   have hlt:=Xcj hl h2;have hi:=Xrc h1
   have hs:=cnt_lt b _ hlen.symm (Xcz l _ b) ⟨_,Xlm (List.range l.length) b i (List.mem_range.2 (by omega)) h1 e h2 (by omega),h3⟩
   obtain⟨q1,q2,q3,q4⟩:=Xii hl n _ (by omega) (by omega:l.length≤n+(Xbd l (List.range l.length) b).count true)
   exact⟨q1,q2,fun j hj=>q3 j (Xcz l _ b j hj),fun s hs=>q4 s (Xj4 hl _ _ hs)⟩
open Classical in
noncomputable def Xan (l:List Xa) (s:Nat):List Int:=((List.range l.length).filter fun i=>decide (Reach l s i)).map Int.ofNat
theorem Xsw {l:List Xa} (hl:Xhl l) {s:Nat} (hs:s<l.length) {a:Nat}:(a:Int)∈Xan l s↔Reach l s a:=by
 unfold Xan;simp only[kS,List.mem_filter,List.mem_range,jI]
 constructor
 ·rintro⟨i,⟨_,h⟩,e⟩
  have:i=a:=Int.ofNat.inj e;subst this;exact h
 ·intro h;exact⟨a,⟨h.lt hl hs,h⟩,rfl⟩
theorem Xsu {l:List Xa} {s:Nat} {v:Int} (h:v∈Xan l s):0≤v∧v<(l.length:Int):=by
 unfold Xan at h;simp only[kS,List.mem_filter,List.mem_range] at h;obtain⟨i,⟨h1,_⟩,rfl⟩:=h;simp;omega
theorem Xmx (l:List Xa) (s:Nat):(Xan l s).length≤l.length:=by
 unfold Xan;rw[kP]
 exact jU (List.length_filter_le _ _) (by simp)
open Classical in
theorem Xmu {l:List Xa} {s:Nat} {b:List Bool} (hb:b.length=l.length) (hc:Xh2 l b) (hs:Xhu l s b) (h0:on b s):((List.range b.length).filter fun i=>b.getD i false).map Int.ofNat=Xan l s:=by
 unfold Xan;rw[hb]
 congr 1
 refine List.filter_congr fun i hi=>?_;clear hi;rw[Bool.eq_iff_iff,jI]
 constructor
 ·exact hs i
 ·intro h
  induction h with
  |refl=>exact h0
  |step _ he ih=>obtain⟨e,he,h2⟩:=he;have:=hc _ ih e he;rw[h2] at this;exact this
theorem Xrb (b:List Bool) {f:Int×List Int→Option ((Int×List Int)⊕List Int)} (hl:b.length≤1000)
  (hs:∀ (i:Nat) (h:i<b.length) (t:List Int),t.length≤i→f ((i:Int),t)=cond b[i] (some (.inl (((i+1:Nat):Int),t++[(i:Int)]))) (some (.inl (((i+1:Nat):Int),t)))) (he:∀ t,f ((b.length:Int),t)=some (.inr t)) :
  Yaj f (0,[])=some (((List.range b.length).filter fun i=>b.getD i false).map Int.ofNat):=by
 have h:=Ymm (τ:=List Int) b (f:=f) (fun i t=>((i:Int),t)) (fun i x t=>.inl (cond x (t++[(i:Int)]) t)) id (fun i t=>t.length≤i)
  (fun i hi t ht=>by rw[hs i hi t ht];cases b[i]<;>rfl) (fun i hi t t' ht e=>by cases e;cases b[i]<;>simp<;>omega) (fun t ht=>he t) [] (by simp) (s:=(0,[])) rfl
 rw[h]
 congr 1
 clear h hs he hl
 have:∀ (m:List Bool) (n:Nat) (t:List Int),Ybg (fun i x t=>.inl (cond x (t++[(i:Int)]) t)) id n m t=t++((List.range' n m.length).filter fun i=>m.getD (i-n) false).map Int.ofNat:=by
  intro m
  induction m with
  |nil=>intro n t;simp[Ybg]
  |cons x m ih=>
   intro n t;simp only[Ybg,Yvp];rw[ih,jH,List.range'_succ,List.filter_cons]
   have e:(List.range' (n+1) m.length).filter (fun i=>(x::m).getD (i-n) false)=(List.range' (n+1) m.length).filter (fun i=>m.getD (i-(n+1)) false):=by
    refine List.filter_congr fun i hi=>?_;have:=(List.mem_range'_1.1 hi).1
    rw[show i-n=(i-(n+1))+1 by omega];rfl
   rw[e]
   cases x<;>simp
 rw[this b 0 [],jO,List.range_eq_range'];rfl
theorem Xum (f:Fs_) (hl:Xhl f.1) (hn:f.1.length≤10) (rd:Int) (i:Nat) (hi:i<f.1.length) (b:List Bool) (hb:b.length=f.1.length):Xh7 f rd (i:Int) (0,b)=some (cond (b.getD i false) (Xgo b (Xai f.1 i)) b):=by
 have hx:=hl _ (jE hi)
 have he:Xai f.1 i=f.1[i].2.2.2.2.1:=by unfold Xai;rw[getD_lt _ hi]
 cases h0:b.getD i false with
 |false=>
  refine Yap ?_
  simp only[Xh7.B,Yv9 (by omega:i<b.length),Yv0,toNat_cast,h0,Yvy,jA]
 |true=>
  rw[he]
  have h:=Yoo f.1[i].2.2.2.2.1 (f:=fun s=>Xh7.B f rd (i:Int) s.1 s.2) (fun(b:List Bool) e=>b.set e.2.1.toNat true) id (fun k c=>c.length=f.1.length∧on c i) (fun k hk c hc=>by
   have hek:=hx.2 _ (jE hk)
   refine⟨?_,by simpa using hc.1,Xgl.2 (.inl hc.2)⟩
   have h1:c.getD i false=true:=hc.2
   simp only[Xh7.B,Yv9 (by omega:i<c.length),Yv0,toNat_cast,h1,Yv9 hi,getD_lt _ hi,Yv6 hk,jA,Yv9 hk,getD_lt _ hk,Yvf (by omega:k<4294967296)]
   rw[show inB (f.1[i].2.2.2.2.1[k]).2.1 c.length=true from Yt7 hek.1 (by omega)];rfl) (fun c hc=>by
   have h1:c.getD i false=true:=hc.2
   simp only[Xh7.B,Yv9 (by omega:i<c.length),Yv0,toNat_cast,h1,Yv9 hi,getD_lt _ hi,Ywf (jB _),jA,Yvy,id]) b ⟨hb,h0⟩
  exact h
theorem Xs7 (f:Fs_) (hl:Xhl f.1) (hn:f.1.length≤10) (rd:Int) (b:List Bool) (hb:b.length=f.1.length):Xj0 f rd (0,b)=some (Xbd f.1 (List.range f.1.length) b):=by
 have h:=Ymm (τ:=List Bool) f.1 (f:=fun s=>Xj0.B f rd s.1 s.2) (fun i b=>((i:Int),b)) (fun i x b=>.inl (cond (b.getD i false) (Xgo b (Xai f.1 i)) b)) id (fun i b=>b.length=f.1.length)
  (fun i hi c hc=>by
   simp only[Xj0.B,Yv6 hi,Yv0,Xum f hl hn rd i hi c hc,jA,Yvf (by omega:i<4294967296),sel]) (fun i hi c c' hc e=>by cases e;cases c.getD i false<;>simp[Xh1,hc]) (fun c hc=>by
   simp only[Xj0.B,Ywf (jB _),Yvy,id]) b hb (s:=(0,b)) rfl
 refine Eq.trans h ?_
 congr 1
 have:∀ (m:List Xa) (n:Nat) (b:List Bool),Ybg (fun i (x:Xa) b=>.inl (cond (b.getD i false) (Xgo b (Xai f.1 i)) b)) id n m b=Xbd f.1 (List.range' n m.length) b:=by
  intro m
  induction m with
  |nil=>intro n b;rfl
  |cons x m ih=>intro n b;simp only[Ybg,Yvp,jH,List.range'_succ,Xbd];exact ih _ _
 rw[this,List.range_eq_range']
theorem Xu3 (f:Fs_) (hl:Xhl f.1) (hn:f.1.length≤10) (h0:0<f.1.length):Xnv f=some (Xan f.1 0):=by
 have hz:(List.replicate f.1.length false).length=f.1.length:=by simp
 let b0:=(List.replicate f.1.length false).set 0 true
 have hb0:b0.length=f.1.length:=by simp[b0]
 have hon:on b0 0:=Xgl.2 (.inr ⟨rfl,by omega⟩)
 have hcnt:1≤b0.count true:=by
  have:true∈b0:=by
   have h1:b0[0]'(by omega)=true:=by rw[←getD_lt false (by omega:0<b0.length)];exact hon
   rw[←h1];exact jE _
  exact List.count_pos_iff.2 this
 have hsnd:Xhu f.1 0 b0:=by
  intro j hj;rcases Xgl.1 hj with h | ⟨rfl,_⟩
  ·unfold on at h;rw[kT,List.getElem?_replicate] at h;split at h<;>simp at h
  ·exact .refl
 obtain⟨q1,q2,q3,q4⟩:=Xii hl f.1.length b0 hb0 (by omega)
 have h1:Xkx f (0,b0)=some (Xat f.1 f.1.length b0):=by
  have h:=Ymm (τ:=List Bool) f.1 (f:=fun s=>Xkx.B f s.1 s.2) (fun i b=>((i:Int),b)) (fun i x b=>.inl (Xbd f.1 (List.range f.1.length) b)) id (fun i b=>b.length=f.1.length)
   (fun i hi c hc=>by
    simp only[Xkx.B,Yv6 hi,Yv0,Xs7 f hl hn i c hc,jA,Yvf (by omega:i<4294967296),sel]) (fun i hi c c' hc e=>by cases e;rw[Xix,hc]) (fun c hc=>by
    simp only[Xkx.B,Ywf (jB _),Yvy,id]) b0 hb0 (s:=(0,b0)) rfl
  refine Eq.trans h ?_
  congr 1
  have:∀ (m:List Xa) (n:Nat) (b:List Bool),Ybg (fun i (x:Xa) b=>.inl (Xbd f.1 (List.range f.1.length) b)) id n m b=Xat f.1 m.length b:=by
   intro m
   induction m with
   |nil=>intro n b;rfl
   |cons x m ih=>intro n b;simp only[Ybg,Yvp,jH,Xat];exact ih _ _
  exact this _ _ _
 have h3:Xkf (Xat f.1 f.1.length b0) (0,[])=some (Xan f.1 0):=by
  have h:=Xrb (Xat f.1 f.1.length b0) (f:=fun s=>Xkf.B (Xat f.1 f.1.length b0) s.1 s.2) (by omega) (fun i hi t ht=>by
   simp only[Xkf.B,Yv6 hi,Yv9 hi,Yv0,toNat_cast,getD_lt _ hi,Yvf (by omega:i<4294967296)]
   rw[Xav (by simp;omega)];rfl) (fun t=>by
   simp only[Xkf.B,Ywf (jB _),Yvy])
  refine Eq.trans h ?_;rw[Xmu q2 q1 (q4 0 hsnd) (q3 0 hon)]
 simp only[Xnv]
 rw[show(decide ((0:Int)≤(f.1.length:Int))&&(decide ((f.1.length:Int)≤(f.1.length:Int))&&decide ((f.1.length:Int)≤2147483648)))=true by simp;omega]
 rw[show((f.1.length:Int)).toNat=f.1.length from toNat_cast _,hz,show inB 0 f.1.length=true from Yv9 (i:=0) h0];simp only[Yv0,jA,show(0:Int).toNat=0 from rfl];rw[show(List.replicate f.1.length false).set 0 true=b0 from rfl,h1];simp only[jA,h3]
theorem Xpv:∀ (b:List Bool) (i:Nat),i<b.length→b.getD i false=false→(b.set i true).count false+1=b.count false
 |x::b,0,h,hf=>by
  have:x=false:=by simpa using hf
  subst this;simp
 |x::b,i+1,h,hf=>by
  have ih:=Xpv b i (by simpa using h) (by simpa using hf)
  simp only[List.set_cons_succ,List.count_cons];omega
theorem Xvd (l:List Xa) (es:List Xg) (v2:Int) (hv:v2=(es.length:Int)) (seen:List Bool) (op:List Int) (h6:es.length≤6) (ho:op.length≤1000):Xdi l es v2 seen (0,op)=some (op++es.map fun e=>e.2.1):=by
 subst hv
 exact Yuv es (f:=fun s=>Xdi.B l es (es.length:Int) seen s.1 s.2) (fun e=>e.2.1) id op.length (fun i hi t ht=>by
  simp only[Xdi.B,Yv6 hi,Yv9 hi,Yv0,toNat_cast,getD_lt _ hi,Yvf (by omega:i<4294967296)]
  rw[Xav (by simp;omega)];rfl) (fun t ht=>by
  simp only[Xdi.B,Ywf (jB _),Yvy,id]) op rfl
theorem Xm9 {op:List Int} (h:0<op.length):op.take (op.length-1)++[op.getD (op.length-1) 0]=op:=by
 have h1:op.length-1<op.length:=by omega
 rw[getD_lt _ h1];have:=List.take_append_drop (op.length-1) op
 rw[kZ h1,show op.length-1+1=op.length by omega,List.drop_length] at this
 exact this
theorem Xq6 {l:List Xa} (hl:Xhl l) (hn:l.length≤10) (s:Nat) (hs:s<l.length):∀ (m:Nat) (seen:List Bool) (op:List Int),7*seen.count false+op.length≤m→m≤100→seen.length=l.length→Xhu l s seen→
  (∀ v∈op,∃ a:Nat,v=(a:Int)∧Reach l s a)→(∀ i,on seen i→∀ e∈Xai l i,on seen e.2.1.toNat∨e.2.1∈op)→
  ∃ b,Xbw l (seen,op)=some b∧b.length=l.length∧Xh2 l b∧Xhu l s b∧(∀ j,on seen j→on b j)∧∀ v∈op,on b v.toNat
 |m,seen,op,hm,hm2,h1,h2,h3,h4=>by
  by_cases ho:op.length=0
  ·have:op=[]:=List.length_eq_zero_iff.1 ho
   subst this
   refine⟨seen,Yap ?_,h1,fun i hi e he=>?_,h2,fun _ h=>h,fun v hv=>by cases hv⟩
   ·simp only[Xbw.B];rfl
   ·rcases h4 i hi e he with h | h
    ·exact h
    ·cases h
  ·have hpos:0<op.length:=by omega
   have hw:w64 ((op.length:Int)-1)=((op.length-1:Nat):Int):=by rw[Yr5 (by omega) (by omega)];omega
   have hsp:=Xm9 hpos;generalize hv:op.getD (op.length-1) 0=v at hsp;generalize hq:op.take (op.length-1)=q at hsp
   have hql:q.length=op.length-1:=by rw[←hq];simp
   obtain⟨a,rfl,ha⟩:=h3 v (by rw[←hsp];simp)
   have hal:=ha.lt hl hs
   have hB:Xbw.B l seen op=cond (seen.getD a false) (some (.inl (seen,q))) (some (.inl (seen.set a true,q++(Xai l a).map fun e=>e.2.1))):=by
    have e6:(Xai l a).length≤6:=by unfold Xai;rw[getD_lt _ hal];exact(hl _ (jE hal)).1
    simp only[Xbw.B,show decide ((op.length:Int)>0)=true by simp;omega,Yv0,hw,Yv9 (by omega:op.length-1<op.length),toNat_cast,hv,jA]
    rw[show(decide ((0:Int)≤((op.length-1:Nat):Int))&&decide (((op.length-1:Nat):Int)≤(op.length:Int)))=true by rw[jC,jI,jI];omega,List.drop_zero,Nat.sub_zero,hq]
    simp only[Yv0,Yv9 (by omega:a<seen.length),Yv9 hal,Xvd l (Xai l a) _ rfl _ q e6 (by omega),jA]
   cases hsn:seen.getD a false with
   |true=>
    rw[hsn] at hB
    obtain⟨b,q1,q2,q3,q4,q5,q6⟩:=Xq6 hl hn s hs (m-1) seen q (by omega) (by omega) h1 h2 (fun v hv=>h3 v (by rw[←hsp];simp[hv])) (fun i hi e he=>by
     rcases h4 i hi e he with h | h
     ·exact .inl h
     ·rw[←hsp] at h
      rcases List.mem_append.1 h with h | h
      ·exact .inr h
      ·have:e.2.1=(a:Int):=by simpa using h
       rw[this];exact .inl hsn)
    refine⟨b,?_,q2,q3,q4,q5,fun v hv=>?_⟩
    ·unfold Xbw
     rw[Ybe (f:=fun s=>Xbw.B l s.1 s.2) (s:=(seen,op)) (s':=(seen,q)) hB];exact q1
    ·rw[←hsp] at hv
     rcases List.mem_append.1 hv with h | h
     ·exact q6 v h
     ·have:v=(a:Int):=by simpa using h
      rw[this];exact q5 a hsn
   |false=>
    rw[hsn] at hB
    have e6:(Xai l a).length≤6:=by unfold Xai;rw[getD_lt _ hal];exact(hl _ (jE hal)).1
    have hc:=Xpv seen a (by omega) hsn
    have hon:on (seen.set a true) a:=Xgl.2 (.inr ⟨rfl,by omega⟩)
    obtain⟨b,q1,q2,q3,q4,q5,q6⟩:=Xq6 hl hn s hs (m-1) (seen.set a true) (q++(Xai l a).map fun e=>e.2.1) (by simp;omega) (by omega) (by simpa using h1) (fun j hj=>by
      rcases Xgl.1 hj with h | ⟨rfl,_⟩
      ·exact h2 j h
      ·exact ha) (fun v hv=>by
      rcases List.mem_append.1 hv with h | h
      ·exact h3 v (by rw[←hsp];simp[h])
      ·obtain⟨e,he,rfl⟩:=List.mem_map.1 h
       have:=Xcj hl he
       exact⟨e.2.1.toNat,by omega,.step ha ⟨e,he,by omega⟩⟩) (fun i hi e he=>by
      rcases Xgl.1 hi with h | ⟨rfl,_⟩
      ·rcases h4 i h e he with h | h
       ·exact .inl (Xgl.2 (.inl h))
       ·rw[←hsp] at h
        rcases List.mem_append.1 h with h | h
        ·exact .inr (jW _ h)
        ·have:e.2.1=(a:Int):=by simpa using h
         rw[this];exact .inl hon
      ·exact .inr (kB _ (List.mem_map.2 ⟨e,he,rfl⟩)))
    refine⟨b,?_,q2,q3,q4,fun j hj=>q5 j (Xgl.2 (.inl hj)),fun v hv=>?_⟩
    ·unfold Xbw
     rw[Ybe (f:=fun s=>Xbw.B l s.1 s.2) (s:=(seen,op)) (s':=(seen.set a true,q++(Xai l a).map fun e=>e.2.1)) hB];exact q1
    ·rw[←hsp] at hv
     rcases List.mem_append.1 hv with h | h
     ·exact q6 v (jW _ h)
     ·have:v=(a:Int):=by simpa using h
      rw[this];exact q5 a hon
termination_by m=>m
decreasing_by all_goals omega
theorem Xtj {l:List Xa} (hl:Xhl l) (hn:l.length≤10) (s:Nat) (hs:s<l.length):Xim l (s:Int)=some (Xan l s):=by
 obtain⟨b,q1,q2,q3,q4,_,q6⟩:=Xq6 hl hn s hs 71 (List.replicate l.length false) [(s:Int)] (by simp;omega) (by omega) (by simp) (fun j hj=>by
   unfold on at hj;rw[kT,List.getElem?_replicate] at hj;split at hj<;>simp at hj) (fun v hv=>⟨s,by simpa using hv,.refl⟩) (fun j hj=>by
   unfold on at hj;rw[kT,List.getElem?_replicate] at hj;split at hj<;>simp at hj)
 have h2:Xeh (b.length:Int) b (0,[])=some (Xan l s):=by
  have h:=Xrb b (f:=fun s=>Xeh.B (b.length:Int) b s.1 s.2) (by omega) (fun i hi t ht=>by
   simp only[Xeh.B,Yv6 hi,Yv9 hi,Yv0,toNat_cast,getD_lt _ hi,Yvf (by omega:i<4294967296)]
   rw[Xav (by simp;omega)];rfl) (fun t=>by
   simp only[Xeh.B,Ywf (jB _),Yvy])
  refine Eq.trans h ?_;rw[Xmu q2 q3 q4 (q6 _ (jF ..))]
 simp only[Xim]
 rw[show(decide ((0:Int)≤(l.length:Int))&&(decide ((l.length:Int)≤(l.length:Int))&&decide ((l.length:Int)≤2147483648)))=true by simp;omega,show((l.length:Int)).toNat=l.length from toNat_cast _]
 simp only[Yv0,q1,jA,h2]
def Xo3 (l:List Xa):List Int:=l.flatMap fun x=>x.2.2.2.2.1.map fun e=>e.2.1
def Xbq (l:List Xa) (a:Int):Int:=(((Xo3 l).count a:Nat):Int)
theorem Xm0 (a:Int):∀ (l:List Xg) (m:Nat),l.foldl (fun t e=>t+(if e.2.1 == a then 1 else 0)) m=m+(l.map fun e=>e.2.1).count a
 |[],m=>by simp
 |y::l,m=>by rw[kI,Xm0 a l,jS,List.count_cons];omega
theorem Xs9 (l:List Xa) (hl:∀ x∈l,x.2.2.2.2.1.length≤6) (hn:l.length≤10) (a:Int):Xn2 l a=some (Xbq l a):=by
 have h1:∀ (i:Nat) (hi:i<l.length) (n:Nat),n≤1000→Xj3 l a (i:Int) ((n:Int),0)=some (((n+(l[i].2.2.2.2.1.map fun e=>e.2.1).count a:Nat):Int)):=by
  intro i hi n hn;have h6:=hl _ (jE hi)
  have h:=Ymm (τ:=Nat) l[i].2.2.2.2.1 (f:=fun s=>Xj3.B l a (i:Int) s.1 s.2) (fun k m=>((m:Int),(k:Int))) (fun _ e m=>.inl (m+(if e.2.1 == a then 1 else 0))) (fun m=>((m:Nat):Int)) (fun k m=>m≤n+k)
   (fun k hk m hm=>by
    simp only[Xj3.B,Yv9 hi,Yv0,toNat_cast,getD_lt _ hi,jA,Yv6 hk,Yv9 hk,getD_lt _ hk,Yvf (by omega:k<4294967296),Yvf (by omega:m<4294967296),sel]
    cases h:((l[i].2.2.2.2.1[k]).2.1 == a)<;>simp[h])
   (fun k hk m m' hm e=>by cases e;split<;>omega)
   (fun m hm=>by
    simp only[Xj3.B,Yv9 hi,Yv0,toNat_cast,getD_lt _ hi,jA,Ywf (jB _),Yvy]) n (by omega) (s:=((n:Int),0)) rfl
  refine Eq.trans h ?_;rw[Yh6,Xm0]
 have h:=Ymm (τ:=Nat) l (f:=fun s=>Xkb.B l a s.1 s.2) (fun k m=>((m:Int),(k:Int))) (fun _ x m=>.inl (m+(x.2.2.2.2.1.map fun e=>e.2.1).count a)) (fun m=>((m:Nat):Int)) (fun k m=>m≤6*k)
  (fun k hk m hm=>by
   simp only[Xkb.B,Yv6 hk,Yv0,h1 k hk m (by omega),jA,Yvf (by omega:k<4294967296),sel])
  (fun k hk m m' hm e=>by cases e;have:=hl _ (jE hk);have:=List.count_le_length (a:=a) (l:=l[k].2.2.2.2.1.map fun e=>e.2.1);simp at this;omega)
  (fun m hm=>by simp only[Xkb.B,Ywf (jB _),Yvy]) 0 (by omega) (s:=(0,0)) rfl
 have h':Xkb l a (0,0)=_:=h;simp only[Xn2,h',jA];rw[Yh6]
 have:∀ (l:List Xa) (m:Nat),l.foldl (fun t x=>t+(x.2.2.2.2.1.map fun e=>e.2.1).count a) m=m+(Xo3 l).count a:=by
  intro l
  induction l with
  |nil=>intro m;simp[Xo3]
  |cons y l ih=>intro m;rw[kI,ih];simp only[Xo3,List.flatMap_cons,List.count_append];omega
 rw[this,jJ];rfl
theorem Xu1 (l:List Xa) (hl:∀ x∈l,x.2.2.2.2.1.length≤6) (hn:l.length≤10) (a:Int):Xj1 l a=some (Xbq l a):=by
 have h1:∀ (v v2:Int) (x:Xa) (h6:x.2.2.2.2.1.length≤6) (n:Nat),n≤1000→Xc7 a l v v2 x.2.2.2.2.1 (x.2.2.2.2.1.length:Int) ((n:Int),0)=some (((n+(x.2.2.2.2.1.map fun e=>e.2.1).count a:Nat):Int)):=by
  intro v v2 x h6 n hn
  have h:=Ymm (τ:=Nat) x.2.2.2.2.1 (f:=fun s=>Xc7.B a l v v2 x.2.2.2.2.1 (x.2.2.2.2.1.length:Int) s.1 s.2) (fun k m=>((m:Int),(k:Int))) (fun _ e m=>.inl (m+(if e.2.1 == a then 1 else 0))) (fun m=>((m:Nat):Int)) (fun k m=>m≤n+k)
   (fun k hk m hm=>by
    simp only[Xc7.B,Yv0,toNat_cast,jA,Yv6 hk,Yv9 hk,getD_lt _ hk,Yvf (by omega:k<4294967296),Yvf (by omega:m<4294967296),sel]
    cases h:((x.2.2.2.2.1[k]).2.1 == a)<;>simp[h])
   (fun k hk m m' hm e=>by cases e;split<;>omega)
   (fun m hm=>by
    simp only[Xc7.B,Ywf (jB _),Yvy]) n (by omega) (s:=((n:Int),0)) rfl
  refine Eq.trans h ?_;rw[Yh6,Xm0]
 have h:=Ymm (τ:=Nat) l (f:=fun s=>Xej.B a l (l.length:Int) s.1 s.2) (fun k m=>((m:Int),(k:Int))) (fun _ x m=>.inl (m+(x.2.2.2.2.1.map fun e=>e.2.1).count a)) (fun m=>((m:Nat):Int)) (fun k m=>m≤6*k)
  (fun k hk m hm=>by
   simp only[Xej.B,Yv6 hk,Yv9 hk,Yv0,toNat_cast,getD_lt _ hk,h1 _ _ _ (hl _ (jE hk)) m (by omega),jA,Yvf (by omega:k<4294967296),sel])
  (fun k hk m m' hm e=>by cases e;have:=hl _ (jE hk);have:=List.count_le_length (a:=a) (l:=l[k].2.2.2.2.1.map fun e=>e.2.1);simp at this;omega)
  (fun m hm=>by simp only[Xej.B,Ywf (jB _),Yvy]) 0 (by omega) (s:=(0,0)) rfl
 have h':Xej a l (l.length:Int) (0,0)=_:=h;simp only[Xj1,h',jA];rw[Yh6]
 have:∀ (l:List Xa) (m:Nat),l.foldl (fun t x=>t+(x.2.2.2.2.1.map fun e=>e.2.1).count a) m=m+(Xo3 l).count a:=by
  intro l
  induction l with
  |nil=>intro m;simp[Xo3]
  |cons y l ih=>intro m;rw[kI,ih];simp only[Xo3,List.flatMap_cons,List.count_append];omega
 rw[this,jJ];rfl
noncomputable def Xgj (l:List Xa) (i:Nat) (x:Xa):Bool:=
 cond (x.1 == 0) false (cond (x.1 == 1) (cond (Xbq l i != x.2.1) true (!(Xan l 0).contains (i:Int))) (cond ((i:Int) == 0) (cond (Xbq l i != 0) true (!(Xan l 0).contains (i:Int))) (cond (Xbq l i != 1) true (!(Xan l 0).contains (i:Int)))))
noncomputable def Xbx (l:List Xa):Bool:=(List.range l.length).any fun i=>Xgj l i (l.getD i Xb)
theorem Xa2 {α ρ:Type} (l:List α) (d:α) {f:Int→Option (Int⊕(ρ⊕Unit))} (p:Nat→α→Bool) (r:ρ)
  (hs:∀ (i:Nat) (h:i<l.length),f (i:Int)=cond (p i l[i]) (some (.inr (.inl r))) (some (.inl ((i+1:Nat):Int)))) (he:f (l.length:Int)=some (.inr (.inr ()))) :
  Yaj f 0=some (cond ((List.range l.length).any fun i=>p i (l.getD i d)) (.inl r) (.inr ())):=by
 refine Yu1 (List.range l.length) (fun i=>p i (l.getD i d)) r (fun i hi=>?_) (by rw[kJ];exact he)
 have hi':i<l.length:=by simpa using hi
 rw[hs i hi',kA,getD_lt _ hi']
theorem Xvk (f:Fs_) (h:Xad f):Xkh f=some (!Xbx f.1):=by
 have hn:=(Xau.of h.inod).len;have h6:∀ x∈f.1,x.2.2.2.2.1.length≤6:=fun x hx=>((Xie.of h.inod).ent x hx).1;have hrl:=Xmx f.1 0
 have hl:Xl6 f (Xan f.1 0) 0=_:=Xa2 f.1 Xb (Xgj f.1) false (fun i hi=>by
  simp only[Xl6.B,Yv6 hi,Yv9 hi,Yv0,toNat_cast,getD_lt _ hi,Xs9 f.1 h6 hn,Xvh _ _ (by omega:(Xan f.1 0).length≤2147483648),jA,Yvf (by omega:i<4294967296),Xgj]
  cases (f.1[i].1 == 0)
  ·simp only[Yvy]
   cases (f.1[i].1 == 1)
   ·simp only[Yvy]
    cases ((i:Int) == 0)
    ·simp only[Yvy]
     cases (Xbq f.1 (i:Int) != 1)
     ·simp only[Yvy]
     ·rfl
    ·simp only[Yv0]
     cases (Xbq f.1 (i:Int) != 0)
     ·simp only[Yvy]
     ·rfl
   ·simp only[Yv0]
    cases (Xbq f.1 (i:Int) != f.1[i].2.1)
    ·simp only[Yvy]
    ·rfl
  ·rfl) (by simp only[Xl6.B,Ywf (jB _),Yvy])
 simp only[Xkh,Xu3 f h.Xsh hn h.pos,jA,hl,Xbx]
 cases (List.range f.1.length).any fun i=>Xgj f.1 i (f.1.getD i Xb)<;>rfl
theorem Xu4 (f:Fs_) (h:Xad f):Xfv f=some (cond (Xbx f.1) 1 0):=by
 have hn:=(Xau.of h.inod).len;have h6:∀ x∈f.1,x.2.2.2.2.1.length≤6:=fun x hx=>((Xie.of h.inod).ent x hx).1;have hrl:=Xmx f.1 0
 have hl:Xgv f f.1 (f.1.length:Int) (Xan f.1 0) 0=_:=Xa2 f.1 Xb (Xgj f.1) (1:Int) (fun i hi=>by
  have hk:=(Xbe ((X4 h.inod).2 _ (jE hi))).1
  simp only[Xgv.B,Yv6 hi,Yv9 hi,Yv0,toNat_cast,getD_lt _ hi,Xu1 f.1 h6 hn,Xrh _ _ (by omega:(Xan f.1 0).length≤2147483648),jA,Yvf (by omega:i<4294967296),Xgj]
  generalize hx:f.1[i]=x at hk
  by_cases e0:x.1=0
  ·rw[show(x.1 == 0)=true by simp[e0],show(x.1 == 1)=false by simp[e0],show(x.1 == 2)=false by simp[e0],show(x.1 != 0)=false by simp[e0]];rfl
  ·by_cases e1:x.1=1
   ·rw[show(x.1 == 0)=false by simp[e0],show(x.1 == 1)=true by simp[e1],show(x.1 == 2)=false by simp[e1],show(x.1 != 0)=true by simp[e0],show(x.2.1 != Xbq f.1 (i:Int))=(Xbq f.1 (i:Int) != x.2.1) by rw[bne,bne,Bool.beq_comm]]
    simp only[Yv0,Yvy]
    cases (Xbq f.1 (i:Int) != x.2.1)<;>rfl
   ·have e2:x.1=2:=by omega
    rw[show(x.1 == 0)=false by simp[e0],show(x.1 == 1)=false by simp[e1],show(x.1 == 2)=true by simp[e2],show(x.1 != 0)=true by simp[e0]]
    simp only[Yv0,Yvy]
    cases i with
    |zero=>
     rw[show(((0:Nat):Int) == 0)=true from rfl,show decide (((0:Nat):Int)>0)=false from rfl];simp only[Yv0,Yvy]
     cases (Xbq f.1 ((0:Nat):Int) != 0)<;>rfl
    |succ j=>
     rw[show(((j+1:Nat):Int) == 0)=false by simp;omega,show decide (((j+1:Nat):Int)>0)=true by simp]
     simp only[Yv0,Yvy]
     cases (Xbq f.1 ((j+1:Nat):Int) != 1)<;>rfl) (by simp only[Xgv.B,Ywf (jB _),Yvy])
 have hr:Xim f.1 0=some (Xan f.1 0):=Xtj h.Xsh hn 0 h.pos;simp only[Xfv,hr,jA,hl,Xbx]
 cases (List.range f.1.length).any fun i=>Xgj f.1 i (f.1.getD i Xb)<;>rfl
def Xm1 (a b:Int):Int:=cond (decide (a<b)) a b
theorem Xse (a b:Int):Xmf a b=some (Xm1 a b):=by simp only[Xmf,Xm1,Yuw]
theorem Xra (a b:Int):cond (decide (a<b)) a b=Xm1 b a:=by
 unfold Xm1
 by_cases h1:a<b
 ·rw[show decide (a<b)=true by simp[h1],show decide (b<a)=false by simp;omega];rfl
 ·by_cases h2:b<a
  ·rw[show decide (a<b)=false by simp;omega,show decide (b<a)=true by simp[h2]];rfl
  ·have:a=b:=by omega
   subst this;simp
def Xhd (x:Xa):Nat→List Int→List Int→List Int
 |_,[],w=>w
 |k,b::bs,w=>Xhd x (k+1) bs (w.set b.toNat (Xm1 8 (w64 (x.2.2.1-w64 ((k:Int)*8)))))
def Xlu:List Xa→List Int→List Int
 |[],w=>w
 |x::l,w=>Xlu l (Xhd x 0 x.2.2.2.1 w)
def X3 (l:List Xa):List Int:=Xlu l (List.replicate 20 0)
theorem Xh5 (x:Xa):∀ (bs:List Int) (k:Nat) (w:List Int),(Xhd x k bs w).length=w.length
 |[],k,w=>rfl
 |b::bs,k,w=>by simp only[Xhd];rw[Xh5 x bs];simp
theorem Xnq:∀ (l:List Xa) (w:List Int),(Xlu l w).length=w.length
 |[],w=>rfl
 |x::l,w=>by simp only[Xlu];rw[Xnq l,Xh5]
theorem Xnp (l:List Xa):(X3 l).length=20:=by unfold X3;rw[Xnq];simp
theorem Xi1 (x:Xa):∀ (bs:List Int) (k:Nat) (w:List Int),Ybg (fun k b w=>.inl (w.set b.toNat (Xm1 8 (w64 (x.2.2.1-w64 ((k:Int)*8)))))) id k bs w=Xhd x k bs w
 |[],k,w=>rfl
 |b::bs,k,w=>by simp only[Ybg,Yvp,Xhd];exact Xi1 x bs _ _
theorem Xip:∀ (l:List Xa) (k:Nat) (w:List Int),Ybg (fun _ x w=>.inl (Xhd x 0 x.2.2.2.1 w)) id k l w=Xlu l w
 |[],k,w=>rfl
 |x::l,k,w=>by simp only[Ybg,Yvp,Xlu];exact Xip l _ _
theorem Xvy (f:Fs_) (i:Int) (x:Xa) (h4:x.2.2.2.1.length≤4) (hb:∀ b∈x.2.2.2.1,0≤b∧b≤19) (w:List Int) (hw:w.length=20):Xi4 f i x (0,w)=some (Xhd x 0 x.2.2.2.1 w):=by
 have h:=Ymm (τ:=List Int) x.2.2.2.1 (f:=fun s=>Xi4.B f i x s.1 s.2) (fun k w=>((k:Int),w)) (fun k b w=>.inl (w.set b.toNat (Xm1 8 (w64 (x.2.2.1-w64 ((k:Int)*8)))))) id (fun k w=>w.length=20)
  (fun k hk w hw=>by
   have h2:=hb _ (jE hk)
   simp only[Xi4.B,Yv6 hk,Yv9 hk,Yv0,toNat_cast,getD_lt _ hk,Xse,jA,Yvf (by omega:k<4294967296),sel]
   rw[show inB (x.2.2.2.1[k]) w.length=true from Yt7 h2.1 (by omega)];rfl) (fun k hk w w' hw e=>by cases e;simpa using hw) (fun w hw=>by
   simp only[Xi4.B,Ywf (jB _),Yvy,id]) w hw (s:=(0,w)) rfl
 rw[Xi1] at h;exact h
theorem Xtk (l:List Xa) (v v2:Int) (v3:List Int) (x:Xa) (h4:x.2.2.2.1.length≤4) (hb:∀ b∈x.2.2.2.1,0≤b∧b≤19) (w:List Int) (hw:w.length=20):Xdc l v v2 x.2.2.2.1 (x.2.2.2.1.length:Int) v3 x (0,w)=some (Xhd x 0 x.2.2.2.1 w):=by
 have h:=Ymm (τ:=List Int) x.2.2.2.1 (f:=fun s=>Xdc.B l v v2 x.2.2.2.1 (x.2.2.2.1.length:Int) v3 x s.1 s.2) (fun k w=>((k:Int),w)) (fun k b w=>.inl (w.set b.toNat (Xm1 8 (w64 (x.2.2.1-w64 ((k:Int)*8)))))) id (fun k w=>w.length=20)
  (fun k hk w hw=>by
   have h2:=hb _ (jE hk)
   simp only[Xdc.B,Yv6 hk,Yv9 hk,Yv0,toNat_cast,getD_lt _ hk,Xra,jA,Yvf (by omega:k<4294967296),sel]
   rw[show inB (x.2.2.2.1[k]) 20=true from Yt7 h2.1 (by omega)];rfl) (fun k hk w w' hw e=>by cases e;simpa using hw) (fun w hw=>by
   simp only[Xdc.B,Ywf (jB _),Yvy,id]) w hw (s:=(0,w)) rfl
 rw[Xi1] at h;exact h
theorem Xr6 (l:List Xa) (hok:Xau l):Xhg l=some (X3 l):=by
 have hl:=hok.len
 have h:=Ymm (τ:=List Int) l (f:=fun s=>Xf7.B l (l.length:Int) (List.replicate 20 0) s.1 s.2) (fun k w=>((k:Int),w)) (fun _ x w=>.inl (Xhd x 0 x.2.2.2.1 w)) id (fun k w=>w.length=20)
  (fun k hk w hw=>by
   have h2:=hok.blk _ (jE hk)
   simp only[Xf7.B,Yv6 hk,Yv9 hk,Yv0,toNat_cast,getD_lt _ hk,jA,Xtk l _ _ _ _ h2.1 h2.2 w hw,Yvf (by omega:k<4294967296),sel]) (fun k hk w w' hw e=>by cases e;rw[Xh5];exact hw) (fun w hw=>by
   simp only[Xf7.B,Ywf (jB _),Yvy,id]) (List.replicate 20 0) (by simp) (s:=(0,List.replicate 20 0)) rfl
 rw[Xip] at h;have h':Xf7 l (l.length:Int) (List.replicate 20 0) (0,List.replicate 20 0)=some (X3 l):=h;simp only[Xhg,h',jA]
def Xbz (f:Fs_):Bool:=(List.range 20).any fun i=>((f.2.1.getD i []).length:Int) != (X3 f.1).getD i 0
theorem Xvx (f:Fs_) (h:Xad f):Xhp f=some (!Xbz f):=by
 have hok:=Xau.of h.inod;have hl:=hok.len;have hd:=h.dat
 have h1:=Ymm (τ:=List Int) f.1 (f:=fun s=>Xkz.B f s.1 s.2) (fun k w=>((k:Int),w)) (fun _ x w=>.inl (Xhd x 0 x.2.2.2.1 w)) id (fun k w=>w.length=20)
  (fun k hk w hw=>by
   have h2:=hok.blk _ (jE hk)
   simp only[Xkz.B,Yv6 hk,Yv9 hk,Yv0,toNat_cast,getD_lt _ hk,jA,Xvy f _ _ h2.1 h2.2 w hw,Yvf (by omega:k<4294967296),sel]) (fun k hk w w' hw e=>by cases e;rw[Xh5];exact hw) (fun w hw=>by
   simp only[Xkz.B,Ywf (jB _),Yvy,id]) (List.replicate 20 0) (by simp) (s:=(0,List.replicate 20 0)) rfl
 rw[Xip] at h1;have h1':Xkz f (0,List.replicate 20 0)=some (X3 f.1):=h1;have hwl:=Xnp f.1
 have h2:Xl3 f (X3 f.1) 0=_:=Xa2 f.2.1 [] (fun i b=>(b.length:Int) != (X3 f.1).getD i 0) false (fun i hi=>by
  simp only[Xl3.B,Yv6 hi,Yv9 hi,Yv9 (by omega:i<(X3 f.1).length),Yv0,toNat_cast,getD_lt _ hi,jA,Yvf (by omega:i<4294967296)]) (by
  simp only[Xl3.B,Ywf (jB _),Yvy])
 simp only[Xhp];rw[show(decide ((0:Int)≤(20:Int))&&(decide ((20:Int)≤(20:Int))&&decide ((20:Int)≤2147483648)))=true from rfl,show(20:Int).toNat=20 from rfl];simp only[Yv0,h1',jA,h2,Xbz,hd]
 cases (List.range 20).any fun i=>((f.2.1.getD i []).length:Int) != (X3 f.1).getD i 0<;>rfl
theorem Xvl (f:Fs_) (h:Xad f):Xfg f=some (cond (Xbz f) 1 0):=by
 have hok:=Xau.of h.inod;have hd:=h.dat
 have h2:Xhz f (X3 f.1) 0=_:=Yu1 (List.range 20) (fun i=>((f.2.1.getD i []).length:Int) != (X3 f.1).getD i 0) (1:Int) (fun i hi=>by
  have hi':i<20:=by simpa using hi
  simp only[Xhz.B,show decide ((i:Int)<20)=true by simp;omega,Yv9 hi',Yv9 (by omega:i<f.2.1.length),Yv0,toNat_cast,Xlo,jA,Yvf (by omega:i<4294967296),kA]) (by
  rw[kJ];rfl)
 simp only[Xfg,Xr6 f.1 hok,jA,h2,Xbz]
 cases (List.range 20).any fun i=>((f.2.1.getD i []).length:Int) != (X3 f.1).getD i 0<;>rfl
noncomputable def fsF (f:Fs_):Int:=cond (Xb5 f != 0) (Xb5 f) (cond (Xbx f.1) 1 (cond (Xbz f) 1 0))
theorem Xps (f:Fs_) (hb:Bd Xk f):Xib f=some (fsF f):=by
 simp only[Xib,fsF,Xr0 f hb,jA]
 cases h:(Xb5 f != 0) with
 |true=>simp only[Yv0]
 |false=>
  have ht:=Xad.of (by simpa using h:Xb5 f=0)
  simp only[Yvy,Xvk f ht,Xvx f ht,jA,Bool.not_not,Yuw]
theorem Xqb (f:Fs_) (hb:Bd Xk f):Xde f=some (fsF f):=by
 simp only[Xde,fsF,Xsf f hb,jA]
 cases h:(Xb5 f != 0) with
 |true=>simp only[Yv0]
 |false=>
  have ht:=Xad.of (by simpa using h:Xb5 f=0)
  simp only[Yvy,Xu4 f ht,Xvl f ht,jA]
  cases Xbx f.1<;>cases Xbz f<;>rfl
structure Xhv (f:Fs_):Prop where
 tree:Xad f
 lnk:Xbx f.1=false
 siz:Xbz f=false
theorem Xhv.of {f:Fs_} (h:fsF f=0):Xhv f:=by
 unfold fsF at h
 cases h0:(Xb5 f != 0) with
 |true=>rw[h0] at h;exact absurd h (by simpa using h0)
 |false=>
  rw[h0] at h
  cases h1:Xbx f.1 with
  |true=>rw[h1] at h;cases h
  |false=>
   rw[h1] at h
   cases h2:Xbz f with
   |true=>rw[h2] at h;cases h
   |false=>exact⟨Xad.of (by simpa using h0),h1,h2⟩
theorem Xk6 (l:List Xa):(Xa4 l).length≤20:=by
 have:=List.length_filter_le (fun b=>(Xw l).contains b) r20;rw[Xn8] at this;exact this
theorem Xji (k:IntKind):∀ xs:List Int,(xs.map (wt (.int k))).sum=xs.length
 |[]=>rfl
 |x::xs=>by rw[jS,List.sum_cons,Xji k xs,Yt2,jH];omega
def Xal (e:Xg):List Int:=[e.2.1,(e.1.length:Int)]++e.1.map fun b=>(b.toNat:Int)
def Xab (x:Xa):List Int:=cond (x.1 != 2) ([x.1,x.2.1,x.2.2.1]++x.2.2.2.1) (([x.1,x.2.1,x.2.2.1]++x.2.2.2.1)++[(x.2.2.2.2.1.length:Int)]++x.2.2.2.2.1.flatMap Xal)
structure Xaf (x:Xa):Prop where
 blk:x.2.2.2.1.length≤4
 ent:x.2.2.2.2.1.length≤6
 nam:∀ e∈x.2.2.2.2.1,e.1.length≤4
theorem Xaf.of {x:Xa} (h:Xx x=0):Xaf x:=
 ⟨(Xa0 h).1,(Xbe h).2.1,fun e he=>(Xqz ((Xbe h).2.2.2.2.2 e he).1).2.1⟩
theorem Xkw {e:Xg} (h:e.1.length≤4):(Xal e).length≤6:=by simp[Xal];omega
theorem Xmn:∀ {l:List Xg},(∀ e∈l,e.1.length≤4)→(l.flatMap Xal).length≤6*l.length
 |[],_=>by simp
 |e::l,h=>by
  have h1:=Xkw (h e (jF ..));have:=Xmn fun x hx=>h x (jG _ hx);simp only[List.flatMap_cons,jP,jH];omega
theorem Xk3 {x:Xa} (h:Xaf x):(Xab x).length≤44:=by
 unfold Xab;have:=Xmn h.nam;have:=h.blk;have:=h.ent;cases (x.1 != 2)
 ·simp only[Yvy,jP,jH,kD];omega
 ·simp only[Yv0,jP,jH,kD];omega
theorem Xqj (b:UInt8):w64 (b.toNat:Int)=(b.toNat:Int):=by
 have:=b.toNat_lt
 exact Yr5 (by omega) (by omega)
theorem Xk7 (g:Xg→List Int):∀ (l:List Xg) (t:List Int),l.foldl (fun t e=>t++g e) t=t++l.flatMap g
 |[],t=>by simp
 |e::l,t=>by rw[kI,Xk7 g l];simp
theorem Xr7 (x:Xa) (h:Xaf x):Xis x=some (Xab x):=by
 have hb:=h.blk
 have h1:∀ (i:Int) (e:Xg) (t:List Int),e.1.length≤4→t.length≤1000→Xjv x i e (0,t)=some (t++e.1.map fun b=>(b.toNat:Int)):=by
  intro i e t he ht
  exact Yuv e.1 (f:=fun s=>Xjv.B x i e s.1 s.2) (fun b=>(b.toNat:Int)) id t.length (fun k hk t ht=>by
   simp only[Xjv.B,Yv6 hk,Yv9 hk,Yv0,toNat_cast,getD_lt _ hk,Xqj,jA,Yvf (by omega:k<4294967296)]
   rw[Xav (by simp;omega)];rfl) (fun t ht=>by
   simp only[Xjv.B,Ywf (jB _),Yvy,id]) t rfl
 have h0:∀ t:List Int,t.length≤10→Xkj x (0,t)=some (t++x.2.2.2.2.1.flatMap Xal):=by
  intro t ht
  have:=Yoo x.2.2.2.2.1 (f:=fun s=>Xkj.B x s.1 s.2) (fun t e=>t++Xal e) id (fun k t=>t.length≤10+6*k) (fun k hk t ht=>by
   have he:=h.nam _ (jE hk);have hn:=h.ent;have hp:=Xkw he
   refine⟨?_,by simp;omega⟩
   simp only[Xkj.B,Yv6 hk,Yv9 hk,Yv0,toNat_cast,getD_lt _ hk,jA,Yvf (by omega:k<4294967296)]
   rw[Xav (by simp;omega)]
   simp only[Yv0,h1 _ _ _ he (by simp;omega:(t++[(x.2.2.2.2.1[k]).2.1,((x.2.2.2.2.1[k]).1.length:Int)]).length≤1000),jA,Xal,kO]) (fun t ht=>by
   simp only[Xkj.B,Ywf (jB _),Yvy,id]) t (by omega)
  rw[Xk7] at this;exact this
 simp only[Xis,Xab]
 rw[Xav (by simp;omega)]
 simp only[Yv0];cases (x.1 != 2)
 ·simp only[Yvy,jA]
  rw[Xav (by simp;omega)]
  simp only[Yv0,h0 _ (by simp;omega:(([x.1,x.2.1,x.2.2.1]++x.2.2.2.1)++[(x.2.2.2.2.1.length:Int)]).length≤10),jA]
 ·rfl
theorem Xsb (x:Xa) (h:Xaf x):Xbk x=some (Xab x):=by
 have hb:=h.blk
 have h1:∀ (v:List Xg) (v2 v3:Int) (e:Xg) (t:List Int),e.1.length≤4→t.length≤1000→Xds v v2 v3 (e.1.length:Int) e (0,t)=some (t++e.1.map fun b=>(b.toNat:Int)):=by
  intro v v2 v3 e t he ht
  exact Yuv e.1 (f:=fun s=>Xds.B v v2 v3 (e.1.length:Int) e s.1 s.2) (fun b=>(b.toNat:Int)) id t.length (fun k hk t ht=>by
   simp only[Xds.B,Yv6 hk,Yv9 hk,Yv0,toNat_cast,getD_lt _ hk,Xqj,jA,Yvf (by omega:k<4294967296)]
   rw[Xav (by simp;omega)];rfl) (fun t ht=>by
   simp only[Xds.B,Ywf (jB _),Yvy,id]) t rfl
 have h0:∀ t:List Int,t.length≤10→Xd1 x.2.2.2.2.1 (x.2.2.2.2.1.length:Int) (0,t)=some (t++x.2.2.2.2.1.flatMap Xal):=by
  intro t ht
  have:=Yoo x.2.2.2.2.1 (f:=fun s=>Xd1.B x.2.2.2.2.1 (x.2.2.2.2.1.length:Int) s.1 s.2) (fun t e=>t++Xal e) id (fun k t=>t.length≤10+6*k) (fun k hk t ht=>by
   have he:=h.nam _ (jE hk);have hn:=h.ent;have hp:=Xkw he
   refine⟨?_,by simp;omega⟩
   simp only[Xd1.B,Yv6 hk,Yv9 hk,Yv0,toNat_cast,getD_lt _ hk,jA,Yvf (by omega:k<4294967296)]
   rw[Xav (by simp;omega)]
   simp only[Yv0,h1 _ _ _ _ _ he (by simp;omega:(t++[(x.2.2.2.2.1[k]).2.1,((x.2.2.2.2.1[k]).1.length:Int)]).length≤1000),jA,Xal,kO]) (fun t ht=>by
   simp only[Xd1.B,Ywf (jB _),Yvy,id]) t (by omega)
  rw[Xk7] at this;exact this
 simp only[Xbk,Xab,Xl1]
 rw[Xav (by simp;omega)]
 simp only[Yv0];cases (x.1 != 2)
 ·simp only[Yvy,jA]
  rw[Xav (by simp;omega)]
  simp only[Yv0,h0 _ (by simp;omega:(([x.1,x.2.1,x.2.2.1]++x.2.2.2.1)++[(x.2.2.2.2.1.length:Int)]).length≤10),jA]
 ·rfl
def Xo (l:List Xa):List Xj:=(List.range 10).map fun i:Nat=>((17:Int)+(i:Int),cond (decide (i<l.length)) (Xab (l.getD i Xb)) [],())
theorem Xml {β:Type} (n:Nat) {f:Int×List β→Option ((Int×List β)⊕List β)} (g:Nat→β)
  (hs:∀ (k:Nat) (h:k<n) (t:List β),t.length=k→f ((k:Int),t)=some (.inl (((k+1:Nat):Int),t++[g k]))) (he:∀ t,f ((n:Int),t)=some (.inr t)):Yaj f (0,[])=some ((List.range n).map g):=by
 have:=Yuv (List.range n) (f:=f) g id 0 (fun i hi t ht=>by
  have hi':i<n:=by simpa using hi
  rw[kA];exact hs i hi' t (by omega)) (fun t ht=>by rw[kJ];exact he t) [] rfl
 simpa using this
theorem Xux (f:Fs_) (h:X8 f.1=0):Xfj f=some (Xo f.1):=by
 have hl:=(Xau.of h).len
 have h0:Xgw f (0,[])=some (Xo f.1):=Xml 10 (f:=fun s=>Xgw.B f s.1 s.2) (fun i:Nat=>((17:Int)+(i:Int),cond (decide (i<f.1.length)) (Xab (f.1.getD i Xb)) [],())) (fun k hk t ht=>by
  simp only[Xgw.B,show decide ((k:Int)<10)=true by simp;omega,Yv0,Yr5 (x:=17+(k:Int)) (by omega) (by omega),Yvf (by omega:k<4294967296)]
  rw[Xav (by simp;omega)]
  by_cases hk2:k<f.1.length
  ·rw[Yv6 hk2,show decide (k<f.1.length)=true by simp[hk2]]
   simp only[Yv0,Yv9 hk2,toNat_cast,getD_lt _ hk2,Xr7 _ (Xaf.of ((X4 h).2 _ (jE hk2))),jA]
   rw[Xav (by simp;omega)];rfl
  ·rw[Ywf (by omega),show decide (k<f.1.length)=false by simp;omega];rfl) (fun t=>rfl)
 simp only[Xfj,h0,jA]
theorem Xty (f:Fs_) (h:X8 f.1=0):Xe5 f=some (Xo f.1):=by
 have hl:=(Xau.of h).len
 have h0:Xg3 f (0,[])=some (Xo f.1):=Xml 10 (f:=fun s=>Xg3.B f s.1 s.2) (fun i:Nat=>((17:Int)+(i:Int),cond (decide (i<f.1.length)) (Xab (f.1.getD i Xb)) [],())) (fun k hk t ht=>by
  simp only[Xg3.B,Xgz,jA,show decide ((k:Int)<10)=true by simp;omega,Yv0,Yr5 (x:=17+(k:Int)) (by omega) (by omega),Yvf (by omega:k<4294967296)]
  rw[Xav (by simp;omega)]
  by_cases hk2:k<f.1.length
  ·rw[Yv6 hk2,show decide (k<f.1.length)=true by simp[hk2]]
   simp only[Yv0,Yv9 hk2,toNat_cast,getD_lt _ hk2,Xsb _ (Xaf.of ((X4 h).2 _ (jE hk2))),jA]
   rw[Xav (by simp;omega)];rfl
  ·rw[Ywf (by omega),show decide (k<f.1.length)=false by simp;omega];rfl) (fun t=>rfl)
 simp only[Xe5,h0,jA]
theorem Xrv {l:List Xj} {n B:Nat} (hl:l.length≤n) (h:∀ p∈l,p.2.1.length≤B):wt (.sl Xm) l≤n*(B+2)+1:=by
 rw[Yrd]
 have:=Yth (wt Xm) (B+2) (xs:=l) fun p hp=>by
  have:=h p hp;have e:=Xji .i64 p.2.1;simp only[Ykt,Yrd,Yt2,Ys1];show 1+((List.map (wt (.int .i64)) p.2.1).sum+1+0)≤_;rw[e];omega
 have:=jR (B+2) hl;omega
theorem Xks {l:List Xa} (h:X8 l=0):∀ p∈Xo l,p.2.1.length≤44:=by
 intro p hp;obtain⟨i,hi,rfl⟩:=List.mem_map.1 hp;simp only
 by_cases h2:i<l.length
 ·rw[show decide (i<l.length)=true by simp[h2],getD_lt _ h2]
  exact Xk3 (Xaf.of ((X4 h).2 _ (jE h2)))
 ·rw[show decide (i<l.length)=false by simp;omega];simp
def Xa3 (f:Fs_) (b:Int):Xj:=((27:Int)+b,f.2.1.getD b.toNat [],())
def Xy (f:Fs_):List Xj:=(Xa4 f.1).map (Xa3 f)
def Xbb (f:Fs_):Prop:=∀ b∈f.2.1,∀ v∈b,0≤v∧v≤255
theorem Xt8 (f:Fs_) (ht:Xad f) (hby:Xbb f) (i:Nat) (out:List Xj) (v:List Int) (b3:Bool) (hi:i<v.length) (hv:0≤v[i]∧v[i]≤19) (a:Int):Xcv f (i:Int) out v b3 () (0,(a,[],()))=some (a,f.2.1.getD v[i].toNat [],()):=by
 have hd:=ht.dat
 have hv1:v[i].toNat<f.2.1.length:=by omega
 have hm:=jE hv1;have hl:=ht.dl _ hm;rw[getD_lt _ hv1]
 have:=Ymm (τ:=List Int) f.2.1[v[i].toNat] (f:=fun s=>Xcv.B f (i:Int) out v b3 () s.1 s.2) (fun k t=>((k:Int),(a,t,()))) (fun _ x t=>.inl (t++[x])) (fun t=>((a,t,()):Xj)) (fun k t=>t.length≤k) (fun k hk t ht=>by
  have hx:=hby _ hm _ (jE hk)
  simp only[Xcv.B,Yv9 hi,Yv0,toNat_cast,getD_lt _ hi,show inB v[i] f.2.1.length=true from Yt7 hv.1 (by omega),getD_lt _ hv1,jA,Yv6 hk,Yv9 hk,getD_lt _ hk,Yr5 (x:=f.2.1[v[i].toNat][k]) (by omega) (by omega),Yvf (by omega:k<4294967296),sel]
  rw[Xav (by simp;omega)];rfl) (fun k hk t t' h e=>by cases e;simp;omega) (fun t h=>by
  simp only[Xcv.B,Yv9 hi,Yv0,toNat_cast,getD_lt _ hi,show inB v[i] f.2.1.length=true from Yt7 hv.1 (by omega),getD_lt _ hv1,jA,Ywf (jB _),Yvy]) [] (by simp) (s:=(0,(a,[],()))) rfl
 refine Eq.trans this ?_;have e:=Yql (fun x:Int=>x) (fun t=>((a,t,()):Xj)) f.2.1[v[i].toNat] 0 [];rw[e];simp
theorem Xbp {l:List Xa} {b:Int} (h:b∈Xa4 l):0≤b∧b≤19:=(Xmh b).1 (List.mem_filter.1 h).1
theorem Xus (f:Fs_) (ht:Xad f) (hby:Xbb f):Xco f=some (Xy f):=by
 have hok:=Xau.of ht.inod;have hu:=Xk6 f.1
 have h0:Xfz f (Xa4 f.1) (Xb1 f.1) () (0,[])=some ([]++(Xa4 f.1).map (Xa3 f)):=Yuv (Xa4 f.1) (f:=fun s=>Xfz.B f (Xa4 f.1) (Xb1 f.1) () s.1 s.2) (Xa3 f) id 0 (fun i hi t ht2=>by
  have hb:=Xbp (jE hi)
  simp only[Xfz.B,Yv6 hi,Yv9 hi,Yv0,toNat_cast,getD_lt _ hi,Yr5 (x:=27+(Xa4 f.1)[i]) (by omega) (by omega),Xt8 f ht hby i _ _ _ hi hb,jA,Yvf (by omega:i<4294967296)]
  rw[Xav (by simp;omega)];rfl) (fun t ht=>by
  simp only[Xfz.B,Ywf (jB _),Yvy,id]) [] rfl
 simp only[Xco,Xsc f.1 hok,jA,h0,jO,Xy]
theorem Xve (f:Fs_) (v v2:Int) (list:List Xj) (v3:List Int) (v4:Bool) (b:List Int) (hl:b.length≤8) (hby:∀ x∈b,0≤x∧x≤255) (a:Int):Xcs f v v2 b (b.length:Int) list v3 v4 () (0,(a,[],()))=some (a,b,()):=by
 have:=Ymm (τ:=List Int) b (f:=fun s=>Xcs.B f v v2 b (b.length:Int) list v3 v4 () s.1 s.2) (fun k t=>((k:Int),(a,t,()))) (fun _ x t=>.inl (t++[x])) (fun t=>((a,t,()):Xj)) (fun k t=>t.length≤k) (fun k hk t ht=>by
  have hx:=hby _ (jE hk)
  simp only[Xcs.B,Yv6 hk,Yv9 hk,Yv0,toNat_cast,getD_lt _ hk,Yr5 (x:=b[k]) (by omega) (by omega),Yvf (by omega:k<4294967296),sel]
  rw[Xav (by simp;omega)];rfl) (fun k hk t t' h e=>by cases e;simp;omega) (fun t h=>by
  simp only[Xcs.B,Ywf (jB _),Yvy]) [] (by simp) (s:=(0,(a,[],()))) rfl
 refine Eq.trans this ?_;have e:=Yql (fun x:Int=>x) (fun t=>((a,t,()):Xj)) b 0 [];rw[e];simp
theorem Xs1 (f:Fs_) (ht:Xad f) (hby:Xbb f):Xch f=some (Xy f):=by
 have hok:=Xau.of ht.inod;have hu:=Xk6 f.1;have hd:=ht.dat
 have h0:Xd5 f ((Xa4 f.1).length:Int) (Xa4 f.1) (Xb1 f.1) () (0,[])=some ([]++(Xa4 f.1).map (Xa3 f)):=Yuv (Xa4 f.1) (f:=fun s=>Xd5.B f ((Xa4 f.1).length:Int) (Xa4 f.1) (Xb1 f.1) () s.1 s.2) (Xa3 f) id 0 (fun i hi t ht2=>by
  have hb:=Xbp (jE hi)
  have hlt:(Xa4 f.1)[i].toNat<f.2.1.length:=by omega
  have hm:=jE hlt
  simp only[Xd5.B,Yv6 hi,Yv9 hi,Yv0,toNat_cast,getD_lt _ hi,show inB (Xa4 f.1)[i] f.2.1.length=true from Yt7 hb.1 (by omega),getD_lt _ hlt,Yr5 (x:=27+(Xa4 f.1)[i]) (by omega) (by omega),Xve f _ _ _ _ _ _ (ht.dl _ hm) (hby _ hm),jA,Yvf (by omega:i<4294967296),Xa3]
  rw[Xav (by simp;omega)];rfl) (fun t ht=>by
  simp only[Xd5.B,Ywf (jB _),Yvy,id]) [] rfl
 simp only[Xch,Xpx f.1 hok,Xp2 f.1 hok ht.once,jA,h0,jO,Xy]
theorem Xnj {f:Fs_} (h:Fit Xk f):Xbb f:=by
 intro b hb v hv;have h1:Fit (.sl (.sl (.int .u8))) f.2.1:=h.2.1;have h2:=h1 b hb v hv;exact h2
theorem Xgn {n:Int} (h : -9223372036854775808≤n) (h':n<9223372036854775808):w64 n=n:=Yr5 h (by omega)
def Xo7 (n:Int) (p:Xj):Int:=cond (!inR p.1 0 n) 3 (Xag p.2.1)
def Xb3 (d:Xd):Int:=cond (cond (decide ((d.1.length:Int)>60)) true (decide ((d.2.1.length:Int)>200))) 2 (cond (Ygk Xag d.1 != 0) (Ygk Xag d.1) (Ygk (Xo7 ((d.1.length:Int)-1)) d.2.1))
theorem Xnu {d:Xd} (h1:d.1.length≤60) (h2:d.2.1.length≤200):cond (decide ((d.1.length:Int)>60)) true (decide ((d.2.1.length:Int)>200))=false:=by
 rw[show decide ((d.1.length:Int)>60)=false by simp;omega,show decide ((d.2.1.length:Int)>200)=false by simp;omega];rfl
theorem Xo8 {d:Xd} (h:¬ (d.1.length≤60∧d.2.1.length≤200)):cond (decide ((d.1.length:Int)>60)) true (decide ((d.2.1.length:Int)>200))=true:=by
 by_cases h1:d.1.length≤60
 ·rw[show decide ((d.2.1.length:Int)>200)=true by simp;omega];cases decide ((d.1.length:Int)>60)<;>rfl
 ·rw[show decide ((d.1.length:Int)>60)=true by simp;omega];rfl
theorem Xqm (d:Xd):Xdv d=some (Xb3 d):=by
 simp only[Xdv,Xb3,jA]
 by_cases hb:d.1.length≤60∧d.2.1.length≤200
 ·obtain⟨b1,b2⟩:=hb
  have h:Xmc d 0=_:=Yub d.1 Xag (fun i hi=>by
   simp only[Xmc.B,Yv6 hi,Yv9 hi,Yv0,toNat_cast,getD_lt _ hi,Xpg,jA,Yvf (by omega:i<4294967296)]) (by
   simp only[Xmc.B,Ywf (jB _),Yvy])
  have hw:w64 ((d.1.length:Int)-1)=(d.1.length:Int)-1:=Xgn (by omega) (by omega)
  have h':Xme d 0=_:=Yub d.2.1 (Xo7 ((d.1.length:Int)-1)) (fun i hi=>by
   simp only[Xme.B,Yv6 hi,Yv9 hi,Yv0,toNat_cast,getD_lt _ hi,Xpg,Xjm,hw,jA,Yvf (by omega:i<4294967296),Xo7]
   cases inR d.2.1[i].1 0 ((d.1.length:Int)-1)<;>rfl) (by
   simp only[Xme.B,Ywf (jB _),Yvy])
  rw[Xnu b1 b2,Yvy,Yvy,h,h',Xa1,Xa1,Xbc]
  cases (Ygk Xag d.1 != 0)<;>rfl
 ·rw[Xo8 hb];rfl
theorem Xvz (d:Xd):Xcg d=some (Xb3 d):=by
 simp only[Xcg,Xb3,jA]
 by_cases hb:d.1.length≤60∧d.2.1.length≤200
 ·obtain⟨b1,b2⟩:=hb
  have h:Xg6 d d.1 (d.1.length:Int) 0=_:=Yub d.1 Xag (fun i hi=>by
   simp only[Xg6.B,Yv6 hi,Yv9 hi,Yv0,toNat_cast,getD_lt _ hi,Xrg,jA,Yvf (by omega:i<4294967296)]) (by
   simp only[Xg6.B,Ywf (jB _),Yvy])
  have hw:w64 ((d.1.length:Int)-1)=(d.1.length:Int)-1:=Xgn (by omega) (by omega)
  have h':Xg5 d d.2.1 (d.2.1.length:Int) 0=_:=Yub d.2.1 (Xo7 ((d.1.length:Int)-1)) (fun i hi=>by
   simp only[Xg5.B,Xls,Yv6 hi,Yv9 hi,Yv0,toNat_cast,getD_lt _ hi,Xrg,Xmy,hw,jA,Yvf (by omega:i<4294967296),Xo7]
   cases inR d.2.1[i].1 0 ((d.1.length:Int)-1)<;>rfl) (by
   simp only[Xg5.B,Ywf (jB _),Yvy])
  rw[Xnu b1 b2,Yvy,Yvy,h,h',Xa1,Xa1,Xbc]
  cases (Ygk Xag d.1 != 0)<;>rfl
 ·rw[Xo8 hb];rfl
structure Xae (d:Xd):Prop where
 l1:d.1.length≤60
 l2:d.2.1.length≤200
 w1:∀ w∈d.1,w.length≤64∧∀ x∈w,0≤x∧x≤65535
 w2:∀ p∈d.2.1,(0≤p.1∧p.1≤(d.1.length:Int)-1)∧p.2.1.length≤64∧∀ x∈p.2.1,0≤x∧x≤65535
theorem Xae.of {d:Xd} (h:Xb3 d=0):Xae d:=by
 unfold Xb3 at h
 by_cases hb:d.1.length≤60∧d.2.1.length≤200
 ·obtain⟨b1,b2⟩:=hb
  rw[Xnu b1 b2,Yvy] at h
  cases hc:(Ygk Xag d.1 != 0) with
  |true=>rw[hc,Yv0] at h;simp[h] at hc
  |false=>
   rw[hc,Yvy] at h
   refine⟨b1,b2,fun w hw=>Xed (Xaw.1 (by simpa using hc) w hw),fun p hp=>?_⟩
   have hp:=Xaw.1 h p hp;unfold Xo7 at hp
   cases hr:inR p.1 0 ((d.1.length:Int)-1) with
   |false=>rw[hr] at hp;cases hp
   |true=>rw[hr] at hp;exact⟨X9.1 hr,Xed hp⟩
 ·rw[Xo8 hb] at h;cases h
def Xn (d:Xd) (at_:Int):List Int:=match Yfj d.2.1 at_ d.2.1.length with
 |some j=>(d.2.1.getD j (0,[],())).2.1
 |none=>d.1.getD at_.toNat []
theorem Xp4 {d:Xd} (h:d.2.1.length≤200) {at_:Int} (h0:0≤at_) (h1:at_<(d.1.length:Int)):Yk7 d at_=some (Xn d at_):=by
 simp only[Yk7,Xn]
 rw[show decide (d.2.1.length≤2147483648)=true by simp;omega,Yv0]
 cases Yfj d.2.1 at_ d.2.1.length with
 |some j=>rfl
 |none=>simp only[inB,jZ h0,jZ h1,Bool.and_self,Yv0]
theorem Xpu {d:Xd} (h:d.2.1.length≤200) {at_:Int} (h0:0≤at_) (h1:at_<(d.1.length:Int)):Xcy d at_=some (Xn d at_):=Xp4 h h0 h1
theorem Xsm {d:Xd} (h:d.2.1.length≤200) (at_:Int):∀ (k:Nat),k≤d.2.1.length→Xgk d at_ ((k:Int)-1)=some (match Yfj d.2.1 at_ k with | some j=>.inl (d.2.1.getD j (0,[],())).2.1 | none=>.inr ())
 |0,_=>Yap (by
  show Xgk.B d at_ (((0:Nat):Int)-1)=some (.inr (.inr ()));unfold Xgk.B
  rw[show decide ((((0:Nat):Int)-1)≥0)=false by simp];rfl)
 |k+1,hk=>by
  have e:((k+1:Nat):Int)-1=(k:Int):=by omega
  have hlt:k<d.2.1.length:=by omega
  rw[e]
  have hB:Xgk.B d at_ (k:Int)=cond (d.2.1[k].1 == at_) (some (.inr (.inl d.2.1[k].2.1))) (some (.inl ((k:Int)-1))):=by
   simp only[Xgk.B,Yv9 hlt,toNat_cast,getD_lt _ hlt,Yv0,show decide ((k:Int)≥0)=true by simp,Xgn (by omega : -9223372036854775808≤(k:Int)-1) (by omega)]
  have eg:d.2.1.getD k (0,[],())=d.2.1[k]:=getD_lt _ hlt
  by_cases hc:d.2.1[k].1=at_
  ·rw[show Xgk d at_ (k:Int)=some (.inl d.2.1[k].2.1) from Yap (by
    show Xgk.B d at_ (k:Int)=_
    rw[hB,show(d.2.1[k].1 == at_)=true by simpa using hc,Yv0])]
   simp only[Yfj,eg,jL hc]
  ·rw[show Xgk d at_ (k:Int)=Xgk d at_ ((k:Int)-1) from Ybe (by
    show Xgk.B d at_ (k:Int)=_
    rw[hB,show(d.2.1[k].1 == at_)=false by simpa using hc,Yvy]),Xsm h at_ k (by omega)]
   simp only[Yfj,eg,jM hc]
theorem Xpp {d:Xd} (h:d.2.1.length≤200) {at_:Int} (h0:0≤at_) (h1:at_<(d.1.length:Int)):Xhi d at_=some (Xn d at_):=by
 simp only[Xhi,Xn]
 rw[Xgn (by omega : -9223372036854775808≤(d.2.1.length:Int)-1) (by omega),Xsm h at_ _ (jB _)]
 cases Yfj d.2.1 at_ d.2.1.length with
 |some j=>rfl
 |none=>simp only[jA,sel,inB,jZ h0,jZ h1,Bool.and_self,Yv0]
def Xam (d:Xd):Int×Int:=cond (Xb3 d != 0) (0,Xb3 d) (cond ((d.1.length:Int) != 47) (0,1) (cond (cond (((Xn d 0).length:Int) != 2) true ((Xn d 0).getD 0 0 != 7)) (0,5) (cond (!inR ((Xn d 0).getD 1 0) 1 60000) (0,5) ((Xn d 0).getD 1 0,0))))
theorem Xqx (d:Xd):Xey d=some (Xam d):=by
 simp only[Xey,Xam,Xvz,jA]
 cases h:(Xb3 d != 0) with
 |true=>rfl
 |false=>
  have hok:=Xae.of (by simpa using h)
  simp only[Yvy]
  cases h1:((d.1.length:Int) != 47) with
  |true=>rfl
  |false=>
   have h47:(d.1.length:Int)=47:=by simpa using h1
   simp only[Yvy,Xpu hok.l2 (Int.le_refl 0) (by omega),jA]
   cases h2:(((Xn d 0).length:Int) != 2) with
   |true=>rfl
   |false=>
    have hl2:(Xn d 0).length=2:=by
      have:((Xn d 0).length:Int)=2:=by simpa using h2
      omega
    rw[hl2];simp only[Yvy,Yv0,kQ,show inB 0 2=true from rfl,show inB 1 2=true from rfl,Xlv,Xmy,jA,Int.toNat_zero,show(1:Int).toNat=1 from rfl]
    cases ((Xn d 0).getD 0 0 != 7) with
    |true=>rfl
    |false=>cases inR ((Xn d 0).getD 1 0) 1 60000<;>rfl
theorem Xq5 (d:Xd):Xio d=some ((Xam d).2,(Xam d).1,()):=by
 simp only[Xio,Xam,Xqm,jA]
 cases h:(Xb3 d != 0) with
 |true=>rfl
 |false=>
  have hok:=Xae.of (by simpa using h)
  simp only[Yvy]
  cases h1:((d.1.length:Int) != 47) with
  |true=>rfl
  |false=>
   have h47:(d.1.length:Int)=47:=by simpa using h1
   simp only[Yvy,Xpp hok.l2 (Int.le_refl 0) (by omega),jA]
   cases h2:(((Xn d 0).length:Int) != 2) with
   |true=>rfl
   |false=>
    have hl2:(Xn d 0).length=2:=by
      have:((Xn d 0).length:Int)=2:=by simpa using h2
      omega
    rw[hl2];simp only[Yvy,Yv0,kQ,show inB 0 2=true from rfl,show inB 1 2=true from rfl,Xoj,Xjm,jA,Int.toNat_zero,show(1:Int).toNat=1 from rfl]
    cases ((Xn d 0).getD 0 0 != 7) with
    |true=>rfl
    |false=>cases inR ((Xn d 0).getD 1 0) 1 60000<;>rfl
theorem Xpi:∀ (a b:List Int) (c:List Int) (i:Nat),c.drop i=b→a.length=b.length→
  Ybg (τ:=Unit) (fun i x _=>cond (x != c.getD i 0) (.inr (.inl false)) (.inl ())) (fun _=>(.inr ():Bool⊕Unit)) i a ()=cond (a == b) (.inr ()) (.inl false)
 |[],[],c,i,h,hl=>rfl
 |x::a,y::b,c,i,h,hl=>by
  have hc:c.getD i 0=y:=by
   have:(c.drop i)[0]? = some y:=by rw[h];rfl
   rw[List.getElem?_drop] at this;simp only[kF] at this;simp[List.getD,this]
  have hd:c.drop (i+1)=b:=by
   have:(c.drop i).drop 1=b:=by rw[h];rfl
   rwa [List.drop_drop] at this
  simp only[Ybg,hc]
  cases he:(x != y) with
  |true=>
   have:(x::a == y::b)=false:=by
    have hne:x≠y:=by simpa using he
    simp[hne]
   rw[this];rfl
  |false=>
   have hxy:x=y:=by simpa using he
   subst hxy
   have ih:=Xpi a b c (i+1) hd (by simpa using hl)
   simp only[Yvy,sel];rw[ih]
   have:(x::a == x::b)=(a == b):=by simp
   rw[this]
theorem Xpl {f:Int→Option (Int⊕(Bool⊕Unit))} (a b:List Int) (hl:a.length=b.length)
  (hs:∀ (i:Nat) (h:i<a.length),f (i:Int)=cond (a[i] != b.getD i 0) (some (.inr (.inl false))) (some (.inl ((i+1:Nat):Int)))) (he:f (a.length:Int)=some (.inr (.inr ()))) :
  Yaj f 0=some (cond (a == b) (.inr ()) (.inl false)):=by
 rw[Yi0 (τ:=Unit) a (fun i _=>(i:Int)) (fun i x _=>cond (x != b.getD i 0) (.inr (.inl false)) (.inl ())) (fun _=>(.inr ():Bool⊕Unit)) (fun i hi t=>by rw[hs i hi];cases (a[i] != b.getD i 0)<;>rfl) (fun t=>he) () (s:=0) rfl,Xpi a b b 0 rfl hl]
theorem Xqs {a b:List Int} (h:a.length≠b.length):(a == b)=false:=by
 have:a≠b:=fun e=>h (by rw[e])
 simpa using this
theorem Xq4 (a b:List Int) (hl:a.length≤2147483648):Xhj a b=some (a == b):=by
 simp only[Xhj]
 by_cases h:a.length=b.length
 ·rw[show((a.length:Int) != (b.length:Int))=false by simp[h],Yvy]
  have:=Xpl (f:=fun s=>Xk0.B a b s) a b h (fun i hi=>by
   simp only[Xk0.B,Yv6 hi,Yv9 hi,Yv9 (show i<b.length by omega),Yv0,toNat_cast,getD_lt _ hi,Yvf (by omega:i<4294967296)]) (by
   simp only[Xk0.B,Ywf (jB _),Yvy])
  rw[show Xk0 a b 0=_ from this]
  cases (a == b)<;>rfl
 ·rw[show((a.length:Int) != (b.length:Int))=true by simp;omega,Yv0,Xqs h]
theorem Xqk (a b:List Int) (hl:a.length≤2147483648):Xcf a b=some (a == b):=by
 simp only[Xcf]
 by_cases h:a.length=b.length
 ·rw[show((a.length:Int) != (b.length:Int))=false by simp[h],Yvy]
  have:=Xpl (f:=fun s=>Xf9.B a b (a.length:Int) s) a b h (fun i hi=>by
   simp only[Xf9.B,Yv6 hi,Yv9 hi,Yv9 (show i<b.length by omega),Yv0,toNat_cast,getD_lt _ hi,Yvf (by omega:i<4294967296)]) (by
   simp only[Xf9.B,Ywf (jB _),Yvy])
  rw[show Xf9 a b (a.length:Int) 0=_ from this]
  cases (a == b)<;>rfl
 ·rw[show((a.length:Int) != (b.length:Int))=true by simp;omega,Yv0,Xqs h]
theorem Xqv (a b:List Int):(a == b)=(b == a):=by
 by_cases h:a=b
 ·subst h;rfl
 ·have h':b≠a:=fun e=>h e.symm
  rw[beq_eq_false_iff_ne.2 h,beq_eq_false_iff_ne.2 h']
def chg (d:Xd) (p:Xj):Bool:=!(p.2.1 == Xn d p.1)
def Xq (d:Xd) (list:List Xj):List Xj:=list.filter (chg d)
theorem Xhx {α:Type} (k:α→Bool):∀ (l:List α) (t:List α),l.foldl (fun t x=>cond (k x) (t++[x]) t) t=t++l.filter k
 |[],t=>by simp
 |x::l,t=>by
  rw[kI,Xhx k l,List.filter_cons]
  cases k x<;>simp
theorem Xgm {d:Xd} (hok:Xae d) (at_:Int):(Xn d at_).length≤64:=by
 unfold Xn
 cases h:Yfj d.2.1 at_ d.2.1.length with
 |some j=>
  have hj:j<d.2.1.length:=by
   have:∀ (ps:List (Int×List Int×Unit)) (k j:Nat),Yfj ps at_ k=some j→j<k:=by
    intro ps k
    induction k with
    |zero=>intro j h;cases h
    |succ k ih=>
     intro j h;unfold Yfj at h
     split at h
     ·cases h;omega
     ·have:=ih j h;omega
   exact this _ _ _ h
  show(d.2.1.getD j (0,[],())).2.1.length≤64;rw[show d.2.1.getD j (0,[],())=d.2.1[j] from getD_lt _ hj]
  exact(hok.w2 _ (jE hj)).2.1
 |none=>
  show(d.1.getD at_.toNat []).length≤64;rw[kT]
  cases h2:d.1[at_.toNat]? with
  |none=>simp
  |some w=>exact(hok.w1 w (List.mem_of_getElem? h2)).1
theorem Xr9 {d:Xd} (hok:Xae d) {list:List Xj} (hl:list.length≤60) (hp:∀ p∈list,0≤p.1∧p.1<(d.1.length:Int)) (hw:∀ p∈list,p.2.1.length≤2147483648) :
  Xdj d list=some (Xq d list):=by
 have h:Xeg d list (0,[])=some (list.foldl (fun t x=>cond (chg d x) (t++[x]) t) []):=Yoo list (f:=fun s=>Xeg.B d list s.1 s.2) _ (fun t=>t) (fun i t=>t.length≤i) (fun i hi t ht=>by
   have hm:=jE hi;obtain⟨p0,p1⟩:=hp _ hm;have hw:=hw _ hm
   constructor
   ·simp only[Xeg.B,Yv6 hi,Yv9 hi,Yv0,toNat_cast,getD_lt _ hi,Xpp hok.l2 p0 p1,jA,Xq4 _ _ (jU (Xgm hok _) (by omega)),Xas,jO,jZ hw,Yvf (by omega:i<4294967296),chg,Xqv (Xn d list[i].1)]
    cases (list[i].2.1 == Xn d list[i].1) with
    |true=>rfl
    |false=>
     simp only[kQ,Yv0]
     rw[show decide ((t++[list[i]]).length≤2147483648)=true by simp;omega,Yv0]
   ·cases chg d list[i]
    ·exact Nat.le_succ_of_le ht
    ·simp;omega) (fun t ht=>by
   simp only[Xeg.B,Ywf (jB _),Yvy]) [] (jB _)
 simp only[Xdj,h,jA,Xhx,jO,Xq]
theorem Xsj {d:Xd} (hok:Xae d) {list:List Xj} (hl:list.length≤60) (hp:∀ p∈list,0≤p.1∧p.1<(d.1.length:Int)) (hw:∀ p∈list,p.2.1.length≤2147483648) :
  Xcx d list=some (Xq d list):=by
 have h:Xez d list (list.length:Int) (0,[])=some (list.foldl (fun t x=>cond (chg d x) (t++[x]) t) []):=Yoo list (f:=fun s=>Xez.B d list (list.length:Int) s.1 s.2) _ (fun t=>t) (fun i t=>t.length≤i) (fun i hi t ht=>by
   have hm:=jE hi;obtain⟨p0,p1⟩:=hp _ hm;have hw:=hw _ hm
   constructor
   ·simp only[Xez.B,Yv6 hi,Yv9 hi,Yv0,toNat_cast,getD_lt _ hi,Xpu hok.l2 p0 p1,jA,Xqk _ _ hw,Yvf (by omega:i<4294967296),chg]
    cases (list[i].2.1 == Xn d list[i].1) with
    |true=>rfl
    |false=>
     simp only[kQ,Yv0]
     rw[show decide ((t++[list[i]]).length≤2147483648)=true by simp;omega,Yv0]
   ·cases chg d list[i]
    ·exact Nat.le_succ_of_le ht
    ·simp;omega) (fun t ht=>by
   simp only[Xez.B,Ywf (jB _),Yvy]) [] (jB _)
 simp only[Xcx,h,jA,Xhx,jO,Xq]
theorem Xna {l:List Xj} (h:l.length≤2147483648) (hw:∀ p∈l,p.2.1.length≤2147483648):Yfe l=some l:=by
 have:(decide (l.length≤2147483648)&&l.all (fun x=>decide (x.2.1.length≤2147483648)))=true:=by
  simp only[jC,jI,List.all_eq_true];exact⟨h,hw⟩
 simp only[Yfe,this,Yv0]
theorem Xj9 {d:Xd} (h:(Xam d).2=0):Xae d∧(d.1.length:Int)=47:=by
 unfold Xam at h
 cases h1:(Xb3 d != 0) with
 |true=>
  rw[h1,Yv0] at h;have h':Xb3 d=0:=h
  rw[h'] at h1;cases h1
 |false=>
  rw[h1,Yvy] at h
  refine⟨Xae.of (by simpa using h1),?_⟩
  cases h2:((d.1.length:Int) != 47) with
  |true=>rw[h2] at h;cases h
  |false=>simpa using h2
theorem Xi9 {l:List Xj} (h:l.length≤1048576) (hw:∀ p∈l,p.2.1.length≤2147483648):Ygh l=some (l.map toStep):=by
 have:(decide (l.length≤1048576)&&l.all (fun x=>decide (x.2.1.length≤2147483648)))=true:=by
  simp only[jC,jI,List.all_eq_true];exact⟨h,hw⟩
 simp only[Ygh,this,Yv0]
theorem Xsg {l:List Xj} (h:l.length≤1048576) (hw:∀ p∈l,p.2.1.length≤2147483648):Xdp l=some (l.map toStep):=by
 have hh:Xfk l (0,[])=some ([]++l.map toStep):=by
  rw[←foldl_map]
  exact Yoo l (f:=fun s=>Xfk.B l s.1 s.2) (fun t x=>t++[toStep x]) (fun t=>t) (fun i t=>t.length≤i) (fun i hi t ht=>by
   have hw:=hw _ (jE hi)
   constructor
   ·simp only[Xfk.B,Yv6 hi,Yv9 hi,Yv0,toNat_cast,getD_lt _ hi,jA,Xas,jO,jZ hw,Yvf (by omega:i<4294967296),toStep]
    rw[show decide ((t++[((false,l[i].1,l[i].2.1,()):Xr)]).length≤2147483648)=true by simp;omega,Yv0]
   ·simp;omega) (fun t ht=>by
   simp only[Xfk.B,Ywf (jB _),Yvy]) [] (jB _)
 simp only[Xdp,hh,jA,jO]
theorem Xjf {d:Xd} (h:(Xam d).2=0):1≤(Xam d).1∧(Xam d).1≤60000:=by
 unfold Xam at h ⊢
 cases h1:(Xb3 d != 0) with
 |true=>rw[h1,Yv0] at h;have h':Xb3 d=0:=h;rw[h'] at h1;cases h1
 |false=>
  rw[h1,Yvy] at h
  cases h2:((d.1.length:Int) != 47) with
  |true=>rw[h2] at h;cases h
  |false=>
   rw[h2,Yvy] at h
   cases h3:(cond (((Xn d 0).length:Int) != 2) true ((Xn d 0).getD 0 0 != 7)) with
   |true=>rw[h3] at h;cases h
   |false=>
    rw[h3,Yvy] at h
    cases h4:inR ((Xn d 0).getD 1 0) 1 60000 with
    |false=>rw[h4] at h;cases h
    |true=>exact X9.1 h4
theorem Xae.zero {d:Xd} (h:Xae d):Xb3 d=0:=by
 have hw:∀ w:List Int,w.length≤64→(∀ x∈w,0≤x∧x≤65535)→Xag w=0:=fun w h1 h2=>by
  unfold Xag
  rw[show decide ((w.length:Int)>64)=false by simp;omega,Yvy]
  rw[show(w.any fun x=>!inR x 0 65535)=false from List.any_eq_false.2 (fun x hx=>by
   have:=X9.2 (h2 x hx);simp[this])]
  rfl
 unfold Xb3;rw[Xnu h.l1 h.l2,Yvy];rw[Xaw.2 (fun w hm=>hw w (h.w1 w hm).1 (h.w1 w hm).2)];show cond ((0:Int) != 0) _ _=0;rw[show((0:Int) != 0)=false from rfl,Yvy];refine Xaw.2 (fun p hm=>?_);obtain⟨h1,h2,h3⟩:=h.w2 p hm;unfold Xo7;rw[X9.2 h1];exact hw _ h2 h3
theorem Xpr {α β:Type}:∀ (l:List α) (a:List α) (b:β),l.foldl (fun(t:List α×β) x=>(t.1++[x],t.2)) (a,b)=(a++l,b)
 |[],a,b=>by simp
 |x::l,a,b=>by rw[kI,Xpr l];simp
theorem Xq8 {α β γ:Type}:∀ (l:List α) (a:β) (b:List α) (c:γ),l.foldl (fun(t:β×List α×γ) x=>(t.1,t.2.1++[x],t.2.2)) (a,b,c)=(a,b++l,c)
 |[],a,b,c=>by simp
 |x::l,a,b,c=>by rw[kI,Xq8 l];simp
theorem Xqc {d:Xd} (h:Xae d):Xba d=some d:=by
 obtain⟨bs,ps,⟨⟩⟩:=d;have hl1:bs.length≤60:=h.l1;have hl2:ps.length≤200:=h.l2
 have h0:Xdz (bs,ps,()) ([],[],()) (0,([],[],()))=some (bs.foldl (fun(t:List (List Int)×List Xj×Unit) x=>(t.1++[x],t.2)) ([],[],())):=
  Yoo bs (f:=fun s=>Xdz.B (bs,ps,()) ([],[],()) s.1 s.2) _ (fun t=>t) (fun i t=>t.1.length≤i) (fun i hi t ht=>by
   have hw:bs[i].length≤64:=(h.w1 _ (jE hi)).1
   constructor
   ·simp only[Xdz.B,Yv6 hi,Yv9 hi,Yv0,toNat_cast,getD_lt _ hi,Xas,jO,jZ (show bs[i].length≤2147483648 by omega),jA,Yvf (by omega:i<4294967296)]
    rw[show decide ((t.1++[bs[i]]).length≤2147483648)=true by simp;omega,Yv0]
   ·simp;omega) (fun t ht=>by simp only[Xdz.B,Ywf (jB _),Yvy]) _ (jB _)
 have h1:Xga (bs,ps,()) ([],[],()) (0,(bs,[],()))=some (ps.foldl (fun(t:List (List Int)×List Xj×Unit) x=>(t.1,t.2.1++[x],t.2.2)) (bs,[],())):=
  Yoo ps (f:=fun s=>Xga.B (bs,ps,()) ([],[],()) s.1 s.2) _ (fun t=>t) (fun i t=>t.2.1.length≤i) (fun i hi t ht=>by
   have hw:ps[i].2.1.length≤64:=(h.w2 _ (jE hi)).2.1
   constructor
   ·simp only[Xga.B,Yv6 hi,Yv9 hi,Yv0,toNat_cast,getD_lt _ hi,Xas,jO,jZ (show ps[i].2.1.length≤2147483648 by omega),jA,Yvf (by omega:i<4294967296)]
    rw[show decide ((t.2.1++[ps[i]]).length≤2147483648)=true by simp;omega,Yv0]
   ·simp;omega) (fun t ht=>by simp only[Xga.B,Ywf (jB _),Yvy]) _ (jB _)
 rw[Xpr] at h0;rw[Xq8] at h1;simp only[Xba,h0,jA,jO,h1]
theorem Xvi {d:Xd} (h:Xae d):Xfb d=some d:=by
 obtain⟨bs,ps,⟨⟩⟩:=d;have hl1:bs.length≤60:=h.l1;have hl2:ps.length≤200:=h.l2
 have h0:Xfx (bs,ps,()) bs (bs.length:Int) ([],[],()) (0,([],[],()))=some (bs.foldl (fun(t:List (List Int)×List Xj×Unit) x=>(t.1++[x],t.2)) ([],[],())):=
  Yoo bs (f:=fun s=>Xfx.B (bs,ps,()) bs (bs.length:Int) ([],[],()) s.1 s.2) _ (fun t=>t) (fun i t=>t.1.length≤i) (fun i hi t ht=>by
   have hw:bs[i].length≤64:=(h.w1 _ (jE hi)).1
   constructor
   ·simp only[Xfx.B,Yv6 hi,Yv9 hi,Yv0,toNat_cast,getD_lt _ hi,Xak,Ylo,jZ (show bs[i].length≤2147483648 by omega),jA,Yvf (by omega:i<4294967296)]
    rw[show decide ((t.1++[bs[i]]).length≤2147483648)=true by simp;omega,Yv0]
   ·simp;omega) (fun t ht=>by simp only[Xfx.B,Ywf (jB _),Yvy]) _ (jB _)
 rw[Xpr] at h0;simp only[Xfb,h0,jA,jO,Xhw]
 rw[Xna (l:=ps) (by omega) (fun p hp=>jU (h.w2 p hp).2.1 (by omega))]
 rfl
def Xbr (d:Xd):Xd:=(Yb0 d.1 d.2.1 (fun _=>true) d.2.1.length,[],())
theorem Xbs (bs:List (List Int)) (ps:List Xj) (pick:Nat→Bool):∀ k,(Yb0 bs ps pick k).length=bs.length
 |0=>rfl
 |k+1=>by
  simp only[Yb0]
  split
  ·rw[kC,Xbs bs ps pick k]
  ·exact Xbs bs ps pick k
theorem Xk1 {bs:List (List Int)} {ps:List Xj} {pick:Nat→Bool} {w:List Int}:∀ {k},k≤ps.length→w∈Yb0 bs ps pick k→w∈bs∨∃ p∈ps,w=p.2.1
 |0,_,h=>.inl h
 |k+1,hk,h=>by
  simp only[Yb0] at h
  have hg:ps.getD k (0,[],())=ps[k]:=by simp[List.getD,show k<ps.length by omega]
  split at h
  ·rcases List.mem_or_eq_of_mem_set h with h | h
   ·exact Xk1 (by omega) h
   ·rw[hg] at h;exact .inr ⟨ps[k],jE _,h⟩
  ·exact Xk1 (by omega) h
theorem Xp9 {d:Xd} (h:Xae d):Xae (Xbr d) where
 l1:=by show(Yb0 _ _ _ _).length≤60;rw[Xbs];exact h.l1
 l2:=kE _
 w1:=fun w hw=>by
  rcases Xk1 (jB _) hw with h1 | ⟨p,hp,rfl⟩
  ·exact h.w1 w h1
  ·exact(h.w2 p hp).2
 w2:=fun p hp=>by cases hp
theorem Xp7 {d:Xd} (h:Xae d):Yk0 d=some (Xbr d):=by
 have:(decide (d.2.1.length≤1152921504606846976)&&d.2.1.all (fun p=>inB p.1 d.1.length))=true:=by
  simp only[jC,jI,List.all_eq_true]
  refine⟨by have:=h.l2;omega,fun p hp=>?_⟩
  have:=(h.w2 p hp).1;simp[inB];omega
 simp only[Yk0,this,Yv0,Xbr]
theorem Xr5 {d:Xd} (h:Xae d):∀ (k i:Nat),i+k=d.2.1.length→Xcp [] true d ([],[],()) ((i:Int),(Yb0 d.1 d.2.1 (fun _=>true) i,[],()))=some (Xbr d)
 |0,i,hi=>Yap (by
  have e:i=d.2.1.length:=by omega
  subst e
  simp only[Xcp.B,Ywf (jB _),Yvy,Xbr])
 |k+1,i,hi=>by
  have hlt:i<d.2.1.length:=by omega
  have hp:=h.w2 _ (jE hlt);have hl2:=h.l2
  have hin:inB d.2.1[i].1 (Yb0 d.1 d.2.1 (fun _=>true) i).length=true:=by rw[Xbs];simp[inB];omega
  have hg:d.2.1.getD i (0,[],())=d.2.1[i]:=by simp[List.getD,hlt]
  rw[show Xcp [] true d ([],[],()) ((i:Int),(Yb0 d.1 d.2.1 (fun _=>true) i,[],()))=Xcp [] true d ([],[],()) (((i+1:Nat):Int),(Yb0 d.1 d.2.1 (fun _=>true) (i+1),[],())) from Ybe (by
   simp only[Xcp.B,Yv6 hlt,Yv9 hlt,Yv0,Yvy,jK,Bool.false_and,toNat_cast,getD_lt _ hlt,jA,Xas,jO,jZ (show d.2.1[i].2.1.length≤2147483648 by have:=hp.2.1;omega),hin,Yvf (by omega:i<4294967296),Yb0,hg,if_true])]
  exact Xr5 h k (i+1) (by omega)
theorem Xs6 {d:Xd} (h:Xae d):Xfu d [] true=some (Xbr d):=by
 have:=Xr5 h d.2.1.length 0 (by omega)
 simp only[Xfu,Xqc h,jA];rw[show Xcp [] true d ([],[],()) (0,(d.1,[],d.2.2))=some (Xbr d) from this];rfl
def Xnz (d:Xd) (x:Xr):Xd:=(d.1,d.2.1++[(x.2.1,x.2.2.1,())],())
def Xhm:List Xr→Xd→Option Xd
 |[],d=>some d
 |x::l,d=>cond x.1 (Xhm l (Xbr d)) (cond ((d.2.1.length:Int) == 200) none (Xhm l (Xnz d x)))
structure X5 (d:Xd):Prop where
 ok:Xae d
 l:d.1.length=47
theorem X5.flush {d:Xd} (h:X5 d):X5 (Xbr d):=⟨Xp9 h.ok,by show(Yb0 _ _ _ _).length=47;rw[Xbs];exact h.l⟩
theorem Xmo {x:Xr} (h:Xbg x=0) (hx:x.1=false):(0≤x.2.1∧x.2.1≤46)∧Xag x.2.2.1=0:=by
 unfold Xbg at h;rw[hx] at h;simp only[Yvy] at h
 cases hr:inR x.2.1 0 46 with
 |false=>rw[hr] at h;cases h
 |true=>rw[hr] at h;exact⟨X9.1 hr,h⟩
theorem X5.put {d:Xd} (h:X5 d) {x:Xr} (hx:Xbg x=0) (hf:x.1=false) (hl:d.2.1.length≠200):X5 (Xnz d x):=by
 obtain⟨h1,h2⟩:=Xmo hx hf;have h3:=Xed h2;have hl2:=h.ok.l2;have h47:=h.l
 refine⟨⟨h.ok.l1,by show(d.2.1++[_]).length≤200;simp;omega,h.ok.w1,fun p hp=>?_⟩,h47⟩
 rcases List.mem_append.1 hp with hp | hp
 ·exact h.ok.w2 p hp
 ·simp at hp
  subst hp
  exact⟨⟨h1.1,by show x.2.1≤(d.1.length:Int)-1;omega⟩,h3⟩
theorem Xnw:∀ {l:List Xr} {d d':Xd},X5 d→(∀ x∈l,Xbg x=0)→Xhm l d=some d'→X5 d'
 |[],d,d',h,_,e=>by cases e;exact h
 |x::l,d,d',h,hl,e=>by
  simp only[Xhm] at e
  cases hx:x.1 with
  |true=>rw[hx,Yv0] at e;exact Xnw h.flush (fun y hy=>hl y (jG _ hy)) e
  |false=>
   rw[hx,Yvy] at e
   cases hn:((d.2.1.length:Int) == 200) with
   |true=>rw[hn] at e;cases e
   |false=>
    rw[hn,Yvy] at e
    exact Xnw (h.put (hl x jF) hx (fun e'=>by rw[e'] at hn;cases hn)) (fun y hy=>hl y (jG _ hy)) e
theorem Xt4 {d:Xd} (h:X5 d) {x:Xr} (hx:Xbg x=0) (hf:x.1=false) :
  Xht d x.2.1 x.2.2.1=some (cond ((d.2.1.length:Int) == 200) (2,([],[],()),()) (0,Xnz d x,())):=by
 obtain⟨h1,h2⟩:=Xmo hx hf;have h3:=Xed h2;have hl2:=h.ok.l2;have h47:=h.l
 have hin:inR x.2.1 0 ((d.1.length:Int)-1)=true:=X9.2 (by omega)
 simp only[Xht,Xqm,h.ok.zero,jA,show((0:Int) != 0)=false from rfl,Yvy,Xle,Xjm,Xgn (by omega : -9223372036854775808≤(d.1.length:Int)-1) (by omega),hin,jK,Xpg,h2]
 by_cases e:d.2.1.length=200
 ·rw[show decide ((d.2.1.length:Int)≥200)=true by simp;omega,show((d.2.1.length:Int) == 200)=true by rw[e];rfl];rfl
 ·rw[show decide ((d.2.1.length:Int)≥200)=false by simp;omega,show((d.2.1.length:Int) == 200)=false by rw[beq_eq_false_iff_ne];omega]
  simp only[Yvy,Xqc h.ok,jA,Xas,jO,jZ (show x.2.2.1.length≤2147483648 by have:=h3.1;omega),Yv0]
  rw[show decide ((d.2.1++[((x.2.1,x.2.2.1,()):Xj)]).length≤2147483648)=true by simp;omega]
  rfl
theorem Xqo {list:List Xr} (hl:list.length≤120) (hs:∀ x∈list,Xbg x=0) (v:Xu):∀ (k i:Nat) (d:Xd),i+k=list.length→X5 d→
  Xbj list v ((i:Int),(0,d,()))=some (match Xhm (list.drop i) d with | some d'=>.inr (0,d',()) | none=>.inl (2,([],[],()),()))
 |0,i,d,hi,h=>by
  have e:i=list.length:=by omega
  subst e;rw[List.drop_length]
  exact Yap (by simp only[Xbj.B,Ywf (jB _),Yvy,Xhm])
 |k+1,i,d,hi,h=>by
  have hlt:i<list.length:=by omega
  have hx:=hs _ (jE hlt);rw[kZ hlt];simp only[Xhm]
  cases hf:list[i].1 with
  |true=>
   rw[show Xbj list v ((i:Int),(0,d,()))=Xbj list v (((i+1:Nat):Int),(0,Xbr d,())) from Ybe (by
    simp only[Xbj.B,Yv6 hlt,Yv9 hlt,Yv0,toNat_cast,getD_lt _ hlt,hf,Xs6 h.ok,jA,Yvf (by omega:i<4294967296)])]
   exact Xqo hl hs v k (i+1) _ (by omega) h.flush
  |false=>
   have hp:=Xt4 h hx hf
   cases hn:((d.2.1.length:Int) == 200) with
   |true=>
    rw[hn,Yv0] at hp
    exact Yap (by
     simp only[Xbj.B,Yv6 hlt,Yv9 hlt,Yv0,Yvy,toNat_cast,getD_lt _ hlt,hf];rw[show Xht (d.1,d.2.1,d.2.2) list[i].2.1 list[i].2.2.1=_ from hp]
     rfl)
   |false=>
    rw[hn,Yvy] at hp
    rw[show Xbj list v ((i:Int),(0,d,()))=Xbj list v (((i+1:Nat):Int),(0,Xnz d list[i],())) from Ybe (by
     simp only[Xbj.B,Yv6 hlt,Yv9 hlt,Yv0,Yvy,toNat_cast,getD_lt _ hlt,hf];rw[show Xht (d.1,d.2.1,d.2.2) list[i].2.1 list[i].2.2.1=_ from hp]
     simp only[jA,Yvf (by omega:i<4294967296)]
     rfl)]
    exact Xqo hl hs v k (i+1) _ (by omega) (h.put hx hf (fun e'=>by rw[e'] at hn;cases hn))
theorem Xrd {list:List Xr} (hl:list.length≤120) (hs:∀ x∈list,Xbg x=0):∀ (k i:Nat) (d:Xd),i+k=list.length→X5 d→
  (match Xhm (list.drop i) d with | some d'=>Xa8 list (list.length:Int) ((i:Int),d)=some (.inr d') | none=>∃ dx,Xa8 list (list.length:Int) ((i:Int),d)=some (.inl (2,dx)))
 |0,i,d,hi,h=>by
  have e:i=list.length:=by omega
  subst e;rw[List.drop_length]
  exact Yap (by simp only[Xa8.B,Ywf (jB _),Yvy])
 |k+1,i,d,hi,h=>by
  have hlt:i<list.length:=by omega
  have hx:=hs _ (jE hlt);rw[kZ hlt];simp only[Xhm]
  cases hf:list[i].1 with
  |true=>
   have e1:Xa8 list (list.length:Int) ((i:Int),d)=Xa8 list (list.length:Int) (((i+1:Nat):Int),Xbr d):=Ybe (by
    simp only[Xa8.B,Yv6 hlt,Yv9 hlt,Yv0,toNat_cast,getD_lt _ hlt,hf,Xms,Xp7 h.ok,jA,Yvf (by omega:i<4294967296)])
   rw[e1,Yv0]
   exact Xrd hl hs k (i+1) _ (by omega) h.flush
  |false=>
   rw[Yvy]
   cases hn:((d.2.1.length:Int) == 200) with
   |true=>
    rw[Yv0]
    exact⟨d,Yap (by
     simp only[Xa8.B,Yv6 hlt,Yv9 hlt,Yv0,Yvy,toNat_cast,getD_lt _ hlt,hf,hn])⟩
   |false=>
    have hl2:=h.ok.l2;have hw:=Xed (Xmo hx hf).2
    have e1:Xa8 list (list.length:Int) ((i:Int),d)=Xa8 list (list.length:Int) (((i+1:Nat):Int),Xnz d list[i]):=Ybe (by
     simp only[Xa8.B,Yv6 hlt,Yv9 hlt,Yv0,Yvy,toNat_cast,getD_lt _ hlt,hf,hn,Xlz,Xak,Ylo,jZ (show list[i].2.2.1.length≤2147483648 by have:=hw.1;omega),jA]
     rw[show decide ((d.2.1++[((list[i].2.1,list[i].2.2.1,()):Xj)]).length≤2147483648)=true by simp;omega]
     simp only[Yv0,jA,Yvf (by omega:i<4294967296)]
     rfl)
    rw[e1,Yvy]
    exact Xrd hl hs k (i+1) _ (by omega) (h.put hx hf (fun e'=>by rw[e'] at hn;cases hn))
theorem Xrt {d:Xd} (h:Xae d):wt Xh d≤100000:=by
 have e:∀ w:List Int,(w.map (wt (.int .i64))).sum=w.length:=fun w=>Xji .i64 w
 have h1:=Yth (wt (.sl (.int .i64))) 65 (xs:=d.1) (fun w hw=>by
  have:=(h.w1 w hw).1
  rw[Yrd,e];omega)
 have h2:=Xrv h.l2 (fun p hp=>(h.w2 p hp).2.1);have hl:=h.l1;simp only[Yrd] at h2;simp only[Ykt,Yrd,Ys1] at h1 ⊢;omega
theorem Xmw {d:Xd} (hok:Xae d) (at_:Int):∀ x∈Xn d at_,0≤x∧x≤65535:=by
 unfold Xn
 cases h:Yfj d.2.1 at_ d.2.1.length with
 |some j=>
  have hj:j<d.2.1.length:=by
   have:∀ (ps:List (Int×List Int×Unit)) (k j:Nat),Yfj ps at_ k=some j→j<k:=by
    intro ps k
    induction k with
    |zero=>intro j h;cases h
    |succ k ih=>
     intro j h;unfold Yfj at h
     split at h
     ·cases h;omega
     ·have:=ih j h;omega
   exact this _ _ _ h
  show ∀ x∈(d.2.1.getD j (0,[],())).2.1,_;rw[show d.2.1.getD j (0,[],())=d.2.1[j] from getD_lt _ hj]
  exact(hok.w2 _ (jE hj)).2.2
 |none=>
  show ∀ x∈d.1.getD at_.toNat [],_;rw[kT]
  cases h2:d.1[at_.toNat]? with
  |none=>intro x hx;simp at hx
  |some w=>exact(hok.w1 w (List.mem_of_getElem? h2)).2
theorem Xlt {w:List Int} (h1:w.length≤64) (h2:∀ x∈w,0≤x∧x≤65535):Xag w=0:=by
 unfold Xag
 rw[show decide ((w.length:Int)>64)=false by simp;omega,Yvy]
 rw[show(w.any fun x=>!inR x 0 65535)=false from List.any_eq_false.2 (fun x hx=>by
  have:=X9.2 (h2 x hx);simp[this])]
 rfl
theorem Xo5 {α:Type} {c:α→Int} {l:List α} (h:∀ x∈l,c x=0):Ygk c l=0:=Xaw.2 h
theorem Xt2 {d:Xd} (h:X5 d) {list:List Xr} (hl:list.length≤120) (hs:∀ x∈list,Xbg x=0) :
  Xi6 d list=some (match Xhm list d with | some d'=>(0,d',()) | none=>(2,([],[],()),())):=by
 have h1:((d.1.length:Int) != 47)=false:=by rw[h.l];rfl
 have h2:Xnx list=0:=by
  unfold Xnx
  rw[show decide ((list.length:Int)>120)=false by simp;omega,Yvy]
  exact Xo5 hs
 have e1:=Xqo hl hs (0,([],[],()),()) list.length 0 d (by omega) h
 rw[List.drop_zero] at e1;simp only[Xi6,Xqm,h.ok.zero,jA,show((0:Int) != 0)=false from rfl,Yvy,h1,Xtb,h2,Xhc,Xqc h.ok];rw[show Xbj list (0,([],[],()),()) (0,(0,(d.1,d.2.1,d.2.2),()))=_ from e1]
 cases Xhm list d<;>rfl
def Wok (w:List Int):Prop:=w.length≤64∧∀ x∈w,0≤x∧x≤65535
def byt (v:Int):UInt8:=UInt8.ofNat (IntKind.u8.wrap v).toNat
theorem Xr3 {x:Int} (h1:0≤x) (h2:x≤255):IntKind.u8.wrap x=x:=by
 simp[IntKind.wrap,IntKind.bits,IntKind.signed];omega
theorem Xq3 (b:UInt8):byt (b.toNat:Int)=b:=by
 have:=b.toNat_lt
 unfold byt;rw[Xr3 (by omega) (by omega),kY,UInt8.ofNat_toNat]
theorem Xgi {α β ρ:Type} (p:α→Bool) (g:α→β) (r:ρ) (e:List β→ρ):∀ (l:List α) (i:Nat) (t:List β),Ybg (fun _ v t=>cond (p v) (.inr r) (.inl (t++[g v]))) e i l t=cond (l.any p) r (e (t++l.map g))
 |[],i,t=>by simp[Ybg]
 |x::l,i,t=>by
  simp only[Ybg,List.any_cons];cases h:p x
  ·simp only[cond_false,sel,Bool.false_or];rw[Xgi p g r e l (i+1)];simp
  ·rfl
def Xa5 (v:Int):Bool:=decide (v>255)
theorem Xvw (w1:List Int) (v5:Int) (v7:List Int) (v8 v9:Int) (v10:List Int) (r2 v11:Int) (v4:Bool) (l:List Int) (v3 x:Xa) (a:Int) (hl:l.length≤64) :
  Xc5 w1 v5 v7 v8 v9 v10 r2 v11 v4 l (l.length:Int) v3 x (0,([],a,()))=some (cond (l.any Xa5) (.inl (false,Xb)) (.inr (l.map byt,a,()))):=by
 have h:=Ymm (τ:=List UInt8) l (f:=fun s=>Xc5.B w1 v5 v7 v8 v9 v10 r2 v11 v4 l (l.length:Int) v3 x s.1 s.2) (fun i t=>((i:Int),(t,a,()))) (fun _ v t=>cond (Xa5 v) (.inr (.inl (false,Xb))) (.inl (t++[byt v])))
  (fun t=>(.inr (t,a,()):(Bool×Xa)⊕Xg)) (fun i t=>t.length=i)
  (fun i hi t ht=>by
   simp only[Xc5.B,Yv6 hi,Yv9 hi,Yv0,toNat_cast,getD_lt _ hi,jA,Yvf (by omega:i<4294967296),jS,qB,jH,kD]
   rw[show decide (t.length+(0+1)≤2147483648)=true by simp;omega]
   show cond (Xa5 l[i]) _ _=_
   cases Xa5 l[i]<;>rfl)
  (fun i hi t t' ht e=>by
   cases h:Xa5 l[i] with
   |true=>rw[h] at e;cases e
   |false=>rw[h] at e;cases e;simp[ht])
  (fun t ht=>by simp only[Xc5.B,Ywf (jB _),Yvy]) [] rfl (s:=(0,([],a,()))) rfl
 rw[Xgi] at h;exact h
def rdE:Nat→List Int→List Xg→Option (List Xg)
 |0,_,es=>some es
 |n+1,ws,es=>match ws with
  |[]=>some es
  |[_]=>none
  |a::m::rest=>if m>(rest.length:Int) then none else if (rest.take m.toNat).any Xa5=true then none else rdE n (rest.drop m.toNat) (es++[((rest.take m.toNat).map byt,a,())])
theorem Xv7 (v3:Xa) (a m:Int) (rest:List Int) (x:Xa) (h:Wok (a::m::rest)) (hx:x.2.2.2.2.1.length≤1000) :
  Xbn.B v3 (a::m::rest) x=if m>(rest.length:Int) then some (.inr (.inl (false,Xb))) else if (rest.take m.toNat).any Xa5=true then some (.inr (.inl (false,Xb))) else
   some (.inl (rest.drop m.toNat,(x.1,x.2.1,x.2.2.1,x.2.2.2.1,x.2.2.2.2.1++[((rest.take m.toNat).map byt,a,())],x.2.2.2.2.2))):=by
 obtain⟨hl,hv⟩:=h;simp only[jH] at hl
 have hm:=hv m (by simp)
 have h2:w64 (((rest.length+1+1:Nat):Int)-2)=(rest.length:Int):=by rw[Xgn (by omega) (by omega)];omega
 have h3:w64 (2+m)=2+m:=Xgn (by omega) (by omega)
 simp only[Xbn.B,jH,Xca,jA,h2,h3,List.getD_cons_zero,List.getD_cons_succ,show(1:Int).toNat=1 from rfl,show(0:Int).toNat=0 from rfl]
 rw[show decide (((rest.length+1+1:Nat):Int)>0)=true by simp;omega,show decide (((rest.length+1+1:Nat):Int)<2)=false by simp;omega,
  show inB 1 (rest.length+1+1)=true from Yt7 (by omega) (by omega),show inB 0 (rest.length+1+1)=true from Yt7 (by omega) (by omega)]
 simp only[Yv0,Yvy]
 by_cases hc:m>(rest.length:Int)
 ·rw[jL hc,show decide (m>(rest.length:Int))=true by simp;omega];rfl
 ·rw[jM hc,show decide (m>(rest.length:Int))=false by simp;omega]
  have e1:(2+m).toNat=m.toNat+2:=by omega
  have e2:((a::m::rest).take (2+m).toNat).drop ((2:Int).toNat)=rest.take m.toNat:=by rw[e1];rfl
  have e3:((a::m::rest).take (rest.length+1+1)).drop (2+m).toNat=rest.drop m.toNat:=by
   rw[e1,List.take_of_length_le (by simp)];rfl
  rw[e2,e3,Xvw _ _ _ _ _ _ _ _ _ _ _ _ _ (by rw[kK];omega)]
  rw[show(decide ((0:Int)≤2+m)&&decide (2+m≤((rest.length+1+1:Nat):Int))&&(decide ((0:Int)≤2)&&decide ((2:Int)≤2+m)))=true by simp;omega,
   show(decide ((0:Int)≤2+m)&&decide (2+m≤((rest.length+1+1:Nat):Int)))=true by simp;omega]
  simp only[Yv0,Yvy]
  cases ha:(rest.take m.toNat).any Xa5 with
  |true=>rfl
  |false=>
   simp only[Yvy,jA,Yv1]
   rw[Xav (by simp;omega)]
   simp
theorem Xsk (v3:Xa):∀ (n:Nat) (ws:List Int) (x:Xa),ws.length<n→Wok ws→x.2.2.2.2.1.length+ws.length≤1000→
  Xbn v3 (ws,x)=some (match rdE n ws x.2.2.2.2.1 with | some es=>.inr (x.1,x.2.1,x.2.2.1,x.2.2.2.1,es,()) | none=>.inl (false,Xb))
 |0,ws,x,h,_,_=>by omega
 |n+1,[],x,h,hw,hx=>by
  exact Yap (f:=fun s=>Xbn.B v3 s.1 s.2) (by rfl)
 |n+1,[a],x,h,hw,hx=>by
  exact Yap (f:=fun s=>Xbn.B v3 s.1 s.2) (by rfl)
 |n+1,a::m::rest,x,h,hw,hx=>by
  have hB:=Xv7 v3 a m rest x hw (by omega)
  have hl:=hw.1;simp only[jH] at h hx hl;simp only[rdE]
  by_cases hc:m>(rest.length:Int)
  ·rw[jL hc] at hB ⊢
   exact Yap (f:=fun s=>Xbn.B v3 s.1 s.2) hB
  ·rw[jM hc] at hB ⊢
   cases ha:(rest.take m.toNat).any Xa5 with
   |true=>
    rw[ha,jL rfl] at hB;rw[jL rfl]
    exact Yap (f:=fun s=>Xbn.B v3 s.1 s.2) hB
   |false=>
    rw[ha,jM (by simp)] at hB;rw[jM (by simp)]
    show Yaj (fun s=>Xbn.B v3 s.1 s.2) (a::m::rest,x)=_;rw[Ybe (f:=fun s=>Xbn.B v3 s.1 s.2) hB]
    exact Xsk v3 n _ _ (by rw[List.length_drop];omega) ⟨by rw[List.length_drop];omega,fun y hy=>hw.2 y (by simp[List.mem_of_mem_drop hy])⟩ (by simp;omega)
def Xac (w:List Int):Xa×Bool:=
 if w.length<3 then(Xb,false) else if w.getD 0 0≠2 then((w.getD 0 0,w.getD 1 0,w.getD 2 0,w.drop 3,[],()),true) else
  match w.drop 3 with
  |[]=>(Xb,false)
  |_::ws=>match rdE 64 ws [] with
   |some es=>((w.getD 0 0,w.getD 1 0,w.getD 2 0,[],es,()),true)
   |none=>(Xb,false)
theorem Xvu {w:List Int} (h:Wok w):Xb8 w=some (Xac w):=by
 obtain⟨hl,hv⟩:=h;unfold Xac
 by_cases h3:w.length<3
 ·rw[jL h3]
  simp only[Xb8]
  rw[show decide ((w.length:Int)<3)=true by simp;omega];rfl
 ·rw[jM h3]
  have i0:inB 0 w.length=true:=Yt7 (by omega) (by omega)
  have i1:inB 1 w.length=true:=Yt7 (by omega) (by omega)
  have i2:inB 2 w.length=true:=Yt7 (by omega) (by omega)
  simp only[Xb8,i0,i1,i2,List.take_length,show(0:Int).toNat=0 from rfl,show(1:Int).toNat=1 from rfl,show(2:Int).toNat=2 from rfl,show(3:Int).toNat=3 from rfl]
  rw[show decide ((w.length:Int)<3)=false by simp;omega,show(decide ((0:Int)≤(3:Int))&&decide ((3:Int)≤(w.length:Int)))=true by simp;omega]
  simp only[Yv0,Yvy]
  by_cases h2:w.getD 0 0=2
  ·rw[jM (by simpa using h2),show(w.getD 0 0 != 2)=false by rw[h2];rfl]
   simp only[Yvy,jA]
   cases hd:w.drop 3 with
   |nil=>rfl
   |cons a ws=>
    have hws:ws.length+1+3=w.length:=by
     have:=congrArg List.length hd;simp at this;omega
    have hm:∀ y∈ws,y∈w:=fun y hy=>List.mem_of_mem_drop (i:=3) (by rw[hd];exact jG _ hy)
    rw[show(((a::ws).length:Int) == 0)=false by simp;omega,show(decide ((0:Int)≤(1:Int))&&decide ((1:Int)≤((a::ws).length:Int)))=true by simp;omega]
    simp only[Yv0,Yvy,List.take_length,List.drop_succ_cons,List.drop_zero]
    rw[Xsk _ 64 ws _ (by omega) ⟨by omega,fun y hy=>hv y (hm y hy)⟩ (by simp;omega)]
    simp only[jA]
    cases rdE 64 ws []<;>rfl
  ·rw[jL h2,show(w.getD 0 0 != 2)=true by simpa using h2]
   simp only[Yv0,Xak]
   rw[Xfd (by simp;omega)]
   rfl
theorem Xo0:∀ (l:List Xg) (n:Nat) (es:List Xg),(∀ e∈l,e.1.length≤4)→l.length<n→rdE n (l.flatMap Xal) es=some (es++l)
 |[],n+1,es,_,_=>by simp[rdE]
 |e::l,n+1,es,h,hn=>by
  have h1:=h e (jF ..);simp only[jH] at hn
  have e0:(e::l).flatMap Xal=e.2.1::(e.1.length:Int)::((e.1.map fun b=>(b.toNat:Int))++l.flatMap Xal):=by simp[Xal]
  rw[e0];simp only[rdE]
  have hl:(e.1.map fun b=>(b.toNat:Int)).length=e.1.length:=by simp
  have et:((e.1.map fun b=>(b.toNat:Int))++l.flatMap Xal).take e.1.length=e.1.map fun b=>(b.toNat:Int):=by rw[List.take_append_of_le_length (by omega),List.take_of_length_le (by omega)]
  have ed:((e.1.map fun b=>(b.toNat:Int))++l.flatMap Xal).drop e.1.length=l.flatMap Xal:=by rw[List.drop_append_of_le_length (by omega),List.drop_of_length_le (by omega)];rfl
  rw[jM (by rw[jP,hl];omega),kY,et,ed,jM (by
   simp only[List.any_map,Function.comp_def,Xa5,List.any_eq_true,jI,not_exists,not_and]
   intro b _;have:=b.toNat_lt;omega)]
  have em:(e.1.map fun b=>(b.toNat:Int)).map byt=e.1:=by
   rw[List.map_map];conv=>rhs;rw[←List.map_id e.1]
   exact List.map_congr_left fun b _=>Xq3 b
  rw[em,Xo0 l n _ (fun x hx=>h x (jG _ hx)) (by omega)]
  simp
theorem Xqn:∀ (n:Nat) (ws:List Int) (es es':List Xg),rdE n ws es=some es'→ws.length≤64→es'.length≤es.length+ws.length∧∀ e∈es',e∈es∨e.1.length≤64
 |0,ws,es,es',h,_=>by simp only[rdE,jD] at h;subst h;exact⟨by omega,fun e he=>.inl he⟩
 |n+1,[],es,es',h,_=>by simp only[rdE,jD] at h;subst h;exact⟨by omega,fun e he=>.inl he⟩
 |n+1,[a],es,es',h,_=>by simp[rdE] at h
 |n+1,a::m::rest,es,es',h,hl=>by
  simp only[rdE] at h;simp only[jH] at hl
  split at h
  ·cases h
  ·split at h
   ·cases h
   ·obtain⟨h1,h2⟩:=Xqn n _ _ _ h (by rw[List.length_drop];omega)
    refine⟨by simp only[jP,List.length_drop,jH,kD] at h1 ⊢;omega,fun e he=>?_⟩
    rcases h2 e he with h3 | h3
    ·rcases List.mem_append.1 h3 with h3 | h3
     ·exact .inl h3
     ·simp only[List.mem_singleton] at h3;subst h3;right;simp only[kP,kK];omega
    ·exact .inr h3
theorem Xjq {a b c:Int} {bs:List Int} {es:List Xg} (h1:bs.length≤64) (h2:es.length≤1000) (h3:∀ e∈es,e.1.length≤64):Bd Xc (a,b,c,bs,es,()):=
 ⟨trivial,trivial,trivial,⟨by show bs.length≤_;omega,fun _ _=>trivial⟩,⟨by show es.length≤_;omega,fun e he=>⟨by show e.1.length≤_;have:=h3 e he;omega,trivial,trivial⟩⟩,trivial⟩
theorem Xq1 {w:List Int} (h:w.length≤64):Bd Xc (Xac w).1:=by
 have hz:Bd Xc Xb:=Xjq (by simp) (by simp) (by simp)
 unfold Xac
 split
 ·exact hz
 ·split
  ·exact Xjq (by simp;omega) (by simp) (by simp)
  ·split
   ·exact hz
   ·rename_i a ws hd
    have hws:ws.length+1+3=w.length:=by have:=congrArg List.length hd;simp at this;omega
    split
    ·rename_i es he
     obtain⟨h1,h2⟩:=Xqn _ _ _ _ he (by omega)
     exact Xjq (by simp) (by simp at h1;omega) (fun e hx=>(h2 e hx).resolve_left (by simp))
    ·exact hz
theorem Xo2 {y:Xa} (h:Xx y=0) (h2:y.1=2):Xab y=2::y.2.1::y.2.2.1::(y.2.2.2.2.1.length:Int)::y.2.2.2.2.1.flatMap Xal∧y.2.2.2.1=[]:=by
 have hb:=(Xa0 h).2.2.1 (by rw[h2];decide)
 refine⟨?_,hb⟩;unfold Xab
 rw[show(y.1 != 2)=false by rw[h2];rfl,Yvy,hb,h2];simp
theorem Xni {y:Xa} (h:Xx y=0) (h2:y.1≠2):Xab y=y.1::y.2.1::y.2.2.1::y.2.2.2.1∧y.2.2.2.2.1=[]:=by
 refine⟨?_,(Xbe h).2.2.1 h2⟩;unfold Xab
 rw[show(y.1 != 2)=true by simpa using h2,Yv0];simp
theorem Xpb {y:Xa} (h:Xx y=0):Xac (Xab y)=(y,true):=by
 obtain⟨k,l,s,bs,es,⟨⟩⟩:=y;have hs:=Xaf.of h
 by_cases h2:k=2
 ·subst h2
  obtain⟨e1,e2⟩:=Xo2 h rfl;simp only at e1 e2;subst e2;rw[e1];unfold Xac
  rw[jM (by simp),jM (by simp)]
  simp only[List.drop_succ_cons,List.drop_zero,List.getD_cons_zero,List.getD_cons_succ]
  rw[Xo0 es 64 [] hs.nam (by have:=hs.ent;simp only at this;omega)]
  rfl
 ·obtain⟨e1,e2⟩:=Xni h h2
  simp only at e1 e2;subst e2;rw[e1];unfold Xac
  rw[jM (by simp),jL (by simpa using h2)]
  rfl
theorem Xnr (w:List Int) (i:Nat):Xjs w (i:Int)=some (w.getD i 0):=by
 unfold Xjs
 by_cases h:i<w.length
 ·rw[Yv6 h,Yv9 h];simp
 ·rw[Ywf (by omega)];simp only[Yvy];congr 1;simp[List.getD,List.getElem?_eq_none (by omega:w.length≤i)]
def nmC (w:List Int) (at_:Nat):Nat:=min (w.getD (at_+1) 0).toNat 8
def nmF (w:List Int) (at_:Nat):List UInt8:=(List.range (nmC w at_)).map fun i=>byt ((w.getD (at_+2+i) 0).tmod 256)
theorem Xvn (w:List Int) (k r4:Int) (v4:Int) (v5:List Int) (v6:Bool) (v2 x:Xa) (at_:Nat) (a:Int) (h0:0≤w.getD (at_+1) 0) (ha:at_≤1000) :
  Xjh w k (w.getD (at_+1) 0) v4 v5 r4 v6 v2 x (((at_+2:Nat):Int),0,([],a,()))=some (((at_+2+nmC w at_:Nat):Int),(nmF w at_,a,())):=by
 have hc:nmC w at_≤8:=Nat.min_le_right _ _
 have hr:(List.range (nmC w at_)).length=nmC w at_:=by simp
 have h:=Ymm (τ:=List UInt8) (List.range (nmC w at_)) (f:=fun s=>Xjh.B w k (w.getD (at_+1) 0) v4 v5 r4 v6 v2 x s.1 s.2.1 s.2.2) (fun i t=>(((at_+2+i:Nat):Int),(i:Int),(t,a,())))
  (fun _ j t=>.inl (t++[byt ((w.getD (at_+2+j) 0).tmod 256)])) (fun t=>(((at_+2+nmC w at_:Nat):Int),((t,a,()):Xg))) (fun i t=>t.length=i)
  (fun i hi t ht=>by
   rw[hr] at hi
   have h1:(i:Int)<w.getD (at_+1) 0:=by unfold nmC at hi;omega
   have h2:(i:Int)<8:=by omega
   simp only[Xjh.B,jZ h1,jZ h2,Yv0,Xnr,jA,jS,qB,jH,kD,Yvf (by omega:i<4294967296),Yvf (by omega:at_+2+i<4294967296),kA]
   rw[show decide (t.length+(0+1)≤2147483648)=true by simp;omega]
   rfl) (fun i hi t t' ht e=>by cases e;simp[ht]) (fun t ht=>by
   rw[hr]
   have h1:(cond (decide (((nmC w at_:Nat):Int)<w.getD (at_+1) 0)) (decide (((nmC w at_:Nat):Int)<8)) false)=false:=by
    unfold nmC
    by_cases h1:((min (w.getD (at_+1) 0).toNat 8:Nat):Int)<w.getD (at_+1) 0
    ·rw[qA (by omega:¬ ((min (w.getD (at_+1) 0).toNat 8:Nat):Int)<8)];cases decide (((min (w.getD (at_+1) 0).toNat 8:Nat):Int)<w.getD (at_+1) 0)<;>rfl
    ·rw[qA h1];rfl
   simp only[Xjh.B,h1,jA,Yvy]) [] rfl (s:=(((at_+2:Nat):Int),0,([],a,()))) rfl
 rw[Yql] at h;exact h
def spE (w:List Int) (kd n:Int):Nat→Nat→Nat→List Xg→List Xg
 |0,_,_,es=>es
 |f+1,at_,k,es=>if kd=2∧(k:Int)<n∧at_<w.length then spE w kd n f (at_+2+nmC w at_) (k+1) (es++[(nmF w at_,w.getD at_ 0,())]) else es
theorem Xsr (w:List Int) (at_:Nat):(nmF w at_).length≤8:=by simp only[nmF,kP,kJ];exact Nat.min_le_right _ _
theorem Xsx {w:List Int} (h:Wok w) (i:Nat):0≤w.getD i 0:=by
 by_cases hi:i<w.length
 ·rw[getD_lt _ hi];exact(h.2 _ (jE hi)).1
 ·simp[List.getD,List.getElem?_eq_none (by omega:w.length≤i)]
theorem Xr8 {w:List Int} (v2:Xa) (hw:Wok w):∀ (f at_ k:Nat) (x:Xa),w.length<at_+f→at_≤200→k≤at_→x.2.2.2.2.1.length≤at_→
  Xe7 w v2 ((at_:Int),(k:Int),x)=some (x.1,x.2.1,x.2.2.1,x.2.2.2.1,spE w x.1 (w.getD 3 0) f at_ k x.2.2.2.2.1,())
 |0,at_,k,x,h1,h2,h3,h4=>by
  refine Yap (f:=fun s=>Xe7.B w v2 s.1 s.2.1 s.2.2) ?_;simp only[Xe7.B,show(3:Int)=((3:Nat):Int) from rfl,Xnr,jA,spE]
  rw[Ywf (by omega:w.length≤at_)]
  cases (x.1 == 2)<;>cases decide ((k:Int)<w.getD 3 0)<;>rfl
 |f+1,at_,k,x,h1,h2,h3,h4=>by
  have hl:=hw.1;simp only[spE]
  by_cases hc:x.1=2∧(k:Int)<w.getD 3 0∧at_<w.length
  ·obtain⟨c1,c2,c3⟩:=hc
   rw[jL ⟨c1,c2,c3⟩]
   have hB:Xe7.B w v2 (at_:Int) (k:Int) x=some (.inl (((at_+2+nmC w at_:Nat):Int),((k+1:Nat):Int),(x.1,x.2.1,x.2.2.1,x.2.2.2.1,x.2.2.2.2.1++[(nmF w at_,w.getD at_ 0,())],x.2.2.2.2.2))):=by
    simp only[Xe7.B,show(3:Int)=((3:Nat):Int) from rfl,Xnr,jA]
    rw[show(x.1 == 2)=true by rw[c1];rfl,jZ c2,Yv6 c3,Yvf (by omega:at_<4294967296),Yvf (by omega:k<4294967296),show w64 ((at_:Int)+2)=((at_+2:Nat):Int) by rw[Xgn (by omega) (by omega)];omega]
    simp only[Yv0,Xnr,jA]
    rw[Xvn w _ _ _ _ _ _ _ _ _ (Xsx hw _) (by omega)]
    simp only[jA]
    rw[Xav (by simp;omega)];rfl
   show Yaj (fun s=>Xe7.B w v2 s.1 s.2.1 s.2.2) _=_;rw[Ybe (f:=fun s=>Xe7.B w v2 s.1 s.2.1 s.2.2) hB];have hc:nmC w at_≤8:=Nat.min_le_right _ _
   exact Xr8 v2 hw f _ _ _ (by omega) (by omega) (by omega) (by simp;omega)
  ·rw[jM hc]
   refine Yap (f:=fun s=>Xe7.B w v2 s.1 s.2.1 s.2.2) ?_;simp only[Xe7.B,show(3:Int)=((3:Nat):Int) from rfl,Xnr,jA]
   by_cases c1:x.1=2
   ·by_cases c2:(k:Int)<w.getD 3 0
    ·rw[Ywf (by omega:w.length≤at_),show(x.1 == 2)=true by rw[c1];rfl,jZ c2];rfl
    ·rw[qA c2,show(x.1 == 2)=true by rw[c1];rfl];rfl
   ·rw[show(x.1 == 2)=false by simpa using c1];rfl
theorem Xpa {w:List Int} (v2:Xa) (hw:Wok w) (x:Xa) (hx:x.2.2.2.2.1=[]):Xe7 w v2 (4,0,x)=some (x.1,x.2.1,x.2.2.1,x.2.2.2.1,spE w x.1 (w.getD 3 0) 64 4 0 [],()):=by
 have h:=Xr8 v2 hw 64 4 0 x (by have:=hw.1;omega) (by omega) (by omega) (by rw[hx];simp)
 rw[hx] at h;exact h
theorem Xos {w:List Int}:∀ (l:List Xg) (f k:Nat) (pre:List Int) (es:List Xg),w=pre++l.flatMap Xal→(∀ e∈l,e.1.length≤4)→l.length<f→spE w 2 ((k+l.length:Nat):Int) f pre.length k es=es++l
 |[],f+1,k,pre,es,hw,_,_=>by simp[spE]
 |e::l,f+1,k,pre,es,hw,h,hn=>by
  have h1:=h e (jF ..);simp only[jH] at hn
  have e0:(e::l).flatMap Xal=e.2.1::(e.1.length:Int)::((e.1.map fun b=>(b.toNat:Int))++l.flatMap Xal):=by simp[Xal]
  have hlen:pre.length<w.length:=by rw[hw,e0];simp
  have g0:w.getD pre.length 0=e.2.1:=by rw[hw,e0];simp[List.getD]
  have g1:w.getD (pre.length+1) 0=(e.1.length:Int):=by rw[hw,e0];simp[List.getD]
  have g2:∀ i (hi:i<e.1.length),w.getD (pre.length+2+i) 0=((e.1[i]).toNat:Int):=fun i hi=>by
   rw[hw,e0];simp only[List.getD]
   rw[List.getElem?_append_right (by omega),show pre.length+2+i-pre.length=i+1+1 by omega,List.getElem?_cons_succ,List.getElem?_cons_succ,List.getElem?_append_left (by simpa using hi),List.getElem?_map,kV hi];rfl
  have hc:nmC w pre.length=e.1.length:=by unfold nmC;rw[g1];omega
  have hn2:nmF w pre.length=e.1:=by
   unfold nmF;rw[hc]
   refine List.ext_getElem (by simp) fun i hi hi'=>?_
   simp only[kR,kA];have:=(e.1[i]).toNat_lt
   rw[g2 i hi',Int.tmod_eq_of_lt (by omega) (by omega),Xq3]
  simp only[spE]
  rw[jL (by refine⟨trivial,?_,hlen⟩;simp only[jH];omega),hn2,g0,hc]
  have:=Xos (w:=w) l f (k+1) (pre++Xal e) (es++[(e.1,e.2.1,())]) (by rw[hw];simp) (fun x hx=>h x (jG _ hx)) (by omega)
  rw[show(pre++Xal e).length=pre.length+2+e.1.length by simp[Xal];omega,show k+1+l.length=k+(e::l).length by simp;omega] at this
  rw[this];simp
theorem Xsv (w:List Int) (kd n:Int) (h:kd≠2):∀ (f a k:Nat) (es:List Xg),spE w kd n f a k es=es
 |0,_,_,_=>rfl
 |f+1,_,_,_=>jM fun c=>h c.1
theorem Xqu (w:List Int) (kd n:Int):∀ (f at_ k:Nat) (es:List Xg),(spE w kd n f at_ k es).length≤es.length+f∧∀ e∈spE w kd n f at_ k es,e∈es∨e.1.length≤64
 |0,at_,k,es=>⟨by simp[spE],fun e he=>.inl he⟩
 |f+1,at_,k,es=>by
  simp only[spE]
  split
  ·obtain⟨h1,h2⟩:=Xqu w kd n f (at_+2+nmC w at_) (k+1) (es++[(nmF w at_,w.getD at_ 0,())])
   refine⟨by simp only[jP,jH,kD] at h1;omega,fun e he=>?_⟩
   rcases h2 e he with h3 | h3
   ·rcases List.mem_append.1 h3 with h3 | h3
    ·exact .inl h3
    ·simp only[List.mem_singleton] at h3;subst h3;right;have:=Xsr w at_;simp only;omega
   ·exact .inr h3
  ·exact⟨by omega,fun e he=>.inl he⟩
def Xaq (w:List Int):Xa:=(w.getD 0 0,w.getD 1 0,w.getD 2 0,(if w.getD 0 0=1∧3<w.length then w.drop 3 else[]),spE w (w.getD 0 0) (w.getD 3 0) 64 4 0 [],())
theorem Xq0 {w:List Int} (h:w.length≤64):Bd Xc (Xaq w):=by
 obtain⟨h1,h2⟩:=Xqu w (w.getD 0 0) (w.getD 3 0) 64 4 0 []
 refine Xjq ?_ (by simp only[kD] at h1;omega) (fun e he=>(h2 e he).resolve_left (by simp))
 split
 ·simp;omega
 ·simp
theorem Xm5 {y:Xa} (h:Xx y=0):Xaq (Xab y)=y:=by
 obtain⟨k,l,s,bs,es,⟨⟩⟩:=y;have hs:=Xaf.of h
 by_cases h2:k=2
 ·subst h2
  obtain⟨e1,e2⟩:=Xo2 h rfl;simp only at e1 e2;subst e2;rw[e1];unfold Xaq;simp only[List.getD_cons_zero,List.getD_cons_succ]
  rw[jM (by simp)]
  have:=Xos (w:=2::l::s::(es.length:Int)::es.flatMap Xal) es 64 0 [2,l,s,(es.length:Int)] [] (by simp) hs.nam (by have:=hs.ent;simp only at this;omega)
  simp only[jJ,jH,kD,jO] at this;rw[this]
 ·obtain⟨e1,e2⟩:=Xni h h2
  simp only at e1 e2;subst e2;rw[e1];unfold Xaq;simp only[List.getD_cons_zero,List.getD_cons_succ,List.drop_succ_cons,List.drop_zero,jH];have hsp:∀ n,spE (k::l::s::bs) k n 64 4 0 []=[]:=fun n=>Xsv _ _ _ h2 _ _ _ _;rw[hsp];have hb:=(Xa0 h).2.2.1;simp only at hb
  by_cases h1:k=1
  ·by_cases h3:bs=[]
   ·subst h3;simp
   ·have:0<bs.length:=List.length_pos_iff.2 h3
    rw[jL ⟨h1,by omega⟩]
  ·rw[jM (by simp[h1]),hb h1]
noncomputable def Xbi (w:List Int):Option Xa:=open Classical in if w=[] then some Xb else if Xx (Xac w).1=0∧Xab (Xac w).1=w∧(Xac w).2=true then some (Xac w).1 else none
theorem Xfa {w:List Int} (hw:w≠[]) {y:Xa}:Xbi w=some y↔Xx y=0∧Xab y=w:=by
 unfold Xbi;rw[jM hw]
 constructor
 ·intro h
  split at h
  ·rename_i hc;cases h;exact⟨hc.1,hc.2.1⟩
  ·cases h
 ·rintro⟨h1,rfl⟩
  rw[Xpb h1,jL ⟨h1,rfl,rfl⟩]
theorem Xvm {w:List Int} (h:Wok w):Xi7 w=some (match Xbi w with | some y=>(y,0) | none=>(Xb,5)):=by
 have hwf:Xag w=0:=by
  unfold Xag
  rw[show decide ((w.length:Int)>64)=false by have:=h.1;simp;omega,show(w.any fun x=>!inR x 0 65535)=false by
   rw[List.any_eq_false];intro x hx;have:=h.2 x hx;simp[X9.2 this]];rfl
 simp only[Xi7,Xrg,jA,hwf]
 by_cases hw:w=[]
 ·subst hw;simp[Xbi];rfl
 ·have hlen:0<w.length:=List.length_pos_iff.2 hw
  rw[show(cond ((0:Int) != 0) true ((w.length:Int) == 0))=false by simp;omega,Yvy,Xvu h]
  simp only[jA];have hbd:=Xq1 h.1;have hno:∀ {b:Bool},(b=true→False)→Xbi w=none→True:=fun _ _=>trivial
  cases hr:(Xac w).2 with
  |false=>
   have:Xbi w=none:=by unfold Xbi;rw[jM hw,jM (by rw[hr];simp)]
   rw[this];rfl
  |true=>
   simp only[jK,Yvy];rw[show Xgf ((Xac w).1.1,(Xac w).1.2.1,(Xac w).1.2.2.1,(Xac w).1.2.2.2.1,(Xac w).1.2.2.2.2.1,(Xac w).1.2.2.2.2.2)=some (Xx (Xac w).1) from Xso _ hbd];simp only[jA]
   by_cases hf:Xx (Xac w).1=0
   ·rw[hf]
    simp only[Yu2,Yvy];rw[show Xbk ((Xac w).1.1,(Xac w).1.2.1,(Xac w).1.2.2.1,(Xac w).1.2.2.2.1,(Xac w).1.2.2.2.2.1,(Xac w).1.2.2.2.2.2)=some (Xab (Xac w).1) from Xsb _ (Xaf.of hf)];simp only[jA]
    rw[Xqk _ _ (by have:=Xk3 (Xaf.of hf);omega)]
    simp only[jA]
    by_cases hp:Xab (Xac w).1=w
    ·rw[show Xbi w=some (Xac w).1 from(Xfa hw).2 ⟨hf,hp⟩,show(Xab (Xac w).1 == w)=true by simpa using hp];rfl
    ·rw[show Xbi w=none by unfold Xbi;rw[jM hw,jM (by simp[hp])],show(Xab (Xac w).1 == w)=false by simpa using hp];rfl
   ·rw[show(Xx (Xac w).1 != 0)=true by simpa using hf,show Xbi w=none by unfold Xbi;rw[jM hw,jM (by simp[hf])]];rfl
theorem Xu6 {w:List Int} (h:Wok w):∃ z,Xia w=some (match Xbi w with | some y=>(y,true) | none=>(z,false)):=by
 by_cases hw:w=[]
 ·subst hw;exact⟨Xb,by simp[Xbi];rfl⟩
 ·have hlen:0<w.length:=List.length_pos_iff.2 hw
  have hl:=h.1;refine⟨Xaq w,?_⟩
  have fin:(Xiy (Xaq w)).bind (fun r=>cond (r == 0) ((Xis (Xaq w)).bind fun q=>(Xhj q w).bind fun b=>some (Xaq w,b)) (some (Xaq w,false)))=some (match Xbi w with | some y=>(y,true) | none=>(Xaq w,false)):=by
   rw[Xsa _ (Xq0 hl)];simp only[jA]
   by_cases hf:Xx (Xaq w)=0
   ·rw[hf,show((0:Int) == 0)=true from rfl,Yv0,Xr7 _ (Xaf.of hf)]
    simp only[jA]
    rw[Xq4 _ _ (by have:=Xk3 (Xaf.of hf);omega)]
    simp only[jA]
    by_cases hp:Xab (Xaq w)=w
    ·rw[show Xbi w=some (Xaq w) from(Xfa hw).2 ⟨hf,hp⟩,show(Xab (Xaq w) == w)=true by simpa using hp]
    ·have:Xbi w=none:=by
      cases hu:Xbi w with
      |none=>rfl
      |some y=>
       obtain⟨h1,h2⟩:=(Xfa hw).1 hu;subst h2;rw[Xm5 h1] at hp;exact absurd rfl hp
     rw[this,show(Xab (Xaq w) == w)=false by simpa using hp]
   ·have:Xbi w=none:=by
     cases hu:Xbi w with
     |none=>rfl
     |some y=>
      obtain⟨h1,h2⟩:=(Xfa hw).1 hu;subst h2;rw[Xm5 h1] at hf;exact absurd h1 hf
    rw[this,show(Xx (Xaq w) == 0)=false by simpa using hf,Yvy]
  have hz:Xia w=(Xiy (Xaq w)).bind (fun r=>cond (r == 0) ((Xis (Xaq w)).bind fun q=>(Xhj q w).bind fun b=>some (Xaq w,b)) (some (Xaq w,false))):=by
   simp only[Xia,show(1:Int)=((1:Nat):Int) from rfl,show(2:Int)=((2:Nat):Int) from rfl,Xnr,jA,List.take_length,show(0:Int).toNat=0 from rfl,show(3:Int).toNat=3 from rfl]
   rw[show((w.length:Int) == 0)=false by simp;omega,Yvy,Yt7 (Int.le_refl 0) (by omega:(0:Int)<w.length),Yv0]
   by_cases hk:w.getD 0 0=1
   ·by_cases h3:3<w.length
    ·rw[show(cond (w.getD 0 0 == ((1:Nat):Int)) (decide ((w.length:Int)>3)) false)=true by rw[hk];simp;omega,Yv0,show(decide ((0:Int)≤(3:Int))&&decide ((3:Int)≤(w.length:Int)))=true by simp;omega,Yv0]
     simp only[Xas,jO]
     rw[Xav (by simp;omega)]
     simp only[Yv0,jA];rw[Xpa _ h _ rfl];simp only[jA]
     rw[show(w.getD 0 0,w.getD 1 0,w.getD 2 0,w.drop 3,spE w (w.getD 0 0) (w.getD 3 0) 64 4 0 [],())=Xaq w by unfold Xaq;rw[jL ⟨hk,h3⟩]]
    ·rw[show(cond (w.getD 0 0 == ((1:Nat):Int)) (decide ((w.length:Int)>3)) false)=false by rw[hk];simp;omega,Yvy]
     rw[Xpa _ h _ rfl];simp only[jA]
     rw[show(w.getD 0 0,w.getD 1 0,w.getD 2 0,[],spE w (w.getD 0 0) (w.getD 3 0) 64 4 0 [],())=Xaq w by unfold Xaq;rw[jM (by omega)]]
   ·rw[show(cond (w.getD 0 0 == ((1:Nat):Int)) (decide ((w.length:Int)>3)) false)=false by rw[show(w.getD 0 0 == ((1:Nat):Int))=false by simpa using hk];rfl,Yvy]
    rw[Xpa _ h _ rfl];simp only[jA]
    rw[show(w.getD 0 0,w.getD 1 0,w.getD 2 0,[],spE w (w.getD 0 0) (w.getD 3 0) 64 4 0 [],())=Xaq w by unfold Xaq;rw[jM fun c=>hk c.1]]
  rw[hz,fin]
def Xly (d:Xd):Prop:=∃ s:Int,(1≤s∧s≤60000)∧Xn d 0=[7,s]
theorem Xre {d:Xd} (h:X5 d) (hs:Xly d):(Xam d).2=0:=by
 obtain⟨s,hr,hb⟩:=hs;unfold Xam;rw[h.ok.zero,hb,h.l,show inR (([7,s]:List Int).getD 1 0) 1 60000=true from X9.2 hr];rfl
theorem Xog {d:Xd} (h:(Xam d).2=0):Xly d:=by
 obtain⟨hok,h47⟩:=Xj9 h;have hr:=Xjf h;unfold Xam at h hr;rw[hok.zero,h47] at h hr;simp only[show((0:Int) != 0)=false from rfl,show((47:Int) != 47)=false from rfl,Yvy] at h hr;generalize hbb:Xn d 0=b at h hr
 cases h3:cond ((b.length:Int) != 2) true (b.getD 0 0 != 7) with
 |true=>rw[h3] at h;cases h
 |false=>
  rw[h3] at h hr;simp only[Yvy] at h hr
  cases h4:inR (b.getD 1 0) 1 60000 with
  |false=>rw[h4] at h;cases h
  |true=>
   cases h2:((b.length:Int) != 2) with
   |true=>rw[h2] at h3;cases h3
   |false=>
    rw[h2] at h3
    have h7:b.getD 0 0=7:=by simpa using h3
    have hl:b.length=2:=by
      have:(b.length:Int)=2:=by simpa using h2
      omega
    obtain⟨x,y,rfl⟩:∃ x y,b=[x,y]:=by
     match b,hl with
     |[x,y],_=>exact⟨x,y,rfl⟩
    have:x=7:=h7;subst this;exact⟨y,X9.1 h4,hbb⟩
theorem Xiz (ps qs:List Xj) (a:Int):∀ k,k≤ps.length→Yfj (ps++qs) a k=Yfj ps a k
 |0,_=>rfl
 |k+1,h=>by
  have e:(ps++qs).getD k (0,[],())=ps.getD k (0,[],()):=by
   simp only[List.getD];rw[List.getElem?_append_left (by omega)]
  simp only[Yfj,e]
  rw[Xiz ps qs a k (by omega)]
theorem Xiw {ps:List Xj} {a:Int}:∀ {k j:Nat},Yfj ps a k=some j→j<k
 |0,j,h=>by cases h
 |k+1,j,h=>by
  unfold Yfj at h
  split at h
  ·cases h;omega
  ·have:=Xiw h;omega
theorem Xmt {bs:List (List Int)} {ps:List Xj} (hb:0<bs.length) (hp:∀ p∈ps,0≤p.1):∀ k,k≤ps.length→(Yb0 bs ps (fun _=>true) k).getD 0 []=match Yfj ps 0 k with | some j=>(ps.getD j (0,[],())).2.1 | none=>bs.getD 0 []
 |0,_=>rfl
 |k+1,hk=>by
  have hg:ps.getD k (0,[],())=ps[k]:=by simp[List.getD,show k<ps.length by omega]
  have h0:=hp _ (jE (show k<ps.length by omega))
  simp only[Yb0,if_true,Yfj,hg]
  by_cases e:ps[k].1=0
  ·rw[jL e,e]
   have:0<(Yb0 bs ps (fun _=>true) k).length:=by rw[Xbs];exact hb
   simp only[List.getD,hg,Int.toNat_zero];rw[List.getElem?_set_self this]
   simp[show k<ps.length by omega]
  ·rw[jM e,←Xmt hb hp k (by omega)]
   simp only[List.getD]
   rw[List.getElem?_set_ne (by omega)]
theorem X5.Xp1 {d:Xd} (h:X5 d) (hs:Xly d):Xly (Xbr d):=by
 obtain⟨s,hr,hb⟩:=hs;refine⟨s,hr,?_⟩;rw[←hb]
 have:=Xmt (bs:=d.1) (ps:=d.2.1) (by have:=h.l;omega) (fun p hp=>(h.ok.w2 p hp).1.1) d.2.1.length (jB _)
 show(Yb0 d.1 d.2.1 (fun _=>true) d.2.1.length).getD 0 []=Xn d 0;rw[this];rfl
def Xpm (x:Xr):Prop:=x.1=true∨x.2.1≠0∨∃ s:Int,(1≤s∧s≤60000)∧x.2.2.1=[7,s]
theorem Xiv (d:Xd) (x:Xr):Xn (Xnz d x) 0=if x.2.1=0 then x.2.2.1 else Xn d 0:=by
 unfold Xn Xnz
 have hl:(d.2.1++[((x.2.1,x.2.2.1,()):Xj)]).length=d.2.1.length+1:=by simp
 have hg:(d.2.1++[((x.2.1,x.2.2.1,()):Xj)]).getD d.2.1.length (0,[],())=(x.2.1,x.2.2.1,()):=by simp[List.getD]
 simp only[hl,Yfj,hg]
 by_cases e:x.2.1=0
 ·rw[jL e,jL e];simp only[hg]
 ·rw[jM e,jM e,Xiz _ _ _ _ (jB _)]
  cases h:Yfj d.2.1 0 d.2.1.length with
  |none=>rfl
  |some j=>
   have:=Xiw h;simp only[List.getD];rw[List.getElem?_append_left this]
theorem Xm7:∀ {l:List Xr} {d d':Xd},X5 d→(∀ x∈l,Xbg x=0)→(∀ x∈l,Xpm x)→Xly d→Xhm l d=some d'→Xly d'
 |[],d,d',h,_,_,hs,e=>by cases e;exact hs
 |x::l,d,d',h,hl,hq,hs,e=>by
  simp only[Xhm] at e;have hl':=fun y hy=>hl y (jG x hy);have hq':=fun y hy=>hq y (jG x hy)
  cases hx:x.1 with
  |true=>rw[hx,Yv0] at e;exact Xm7 h.flush hl' hq' (h.Xp1 hs) e
  |false=>
   rw[hx,Yvy] at e
   cases hn:((d.2.1.length:Int) == 200) with
   |true=>rw[hn] at e;cases e
   |false=>
    rw[hn,Yvy] at e
    refine Xm7 (h.put (hl x jF) hx (fun e'=>by rw[e'] at hn;cases hn)) hl' hq' ?_ e
    obtain⟨s,hr,hb⟩:=hs;rcases hq x jF with h1 | h1 | ⟨s',hr',h1⟩
    ·rw[hx] at h1;cases h1
    ·exact⟨s,hr,by rw[Xiv,jM h1,hb]⟩
    ·by_cases e0:x.2.1=0
     ·exact⟨s',hr',by rw[Xiv,jL e0,h1]⟩
     ·exact⟨s,hr,by rw[Xiv,jM e0,hb]⟩
def Xi3 {α τ:Type} (g:α→τ→Option τ):List α→τ→Option τ
 |[],t=>some t
 |x::l,t=>match g x t with
  |none=>none
  |some t'=>Xi3 g l t'
def Xsp {τ ρ:Type} (bad:ρ):Option τ→τ⊕ρ
 |none=>.inr bad
 |some t=>.inl t
def Xry {τ ρ:Type} (bad:ρ) (e:τ→ρ):Option τ→ρ
 |none=>bad
 |some t=>e t
theorem Xk5 {α τ ρ:Type} (g:α→τ→Option τ) (bad:ρ) (e:τ→ρ):∀ (l:List α) (k:Nat) (t:τ),Ybg (fun _ x t=>Xsp bad (g x t)) e k l t=Xry bad e (Xi3 g l t)
 |[],k,t=>rfl
 |x::l,k,t=>by
  simp only[Ybg,Xi3]
  cases g x t with
  |none=>rfl
  |some t'=>exact Xk5 g bad e l (k+1) t'
noncomputable def Xm6 (d:Xd) (i:Nat) (t:List Xa×Int):Option (List Xa×Int):=match Xbi (Xn d ((17+i:Nat):Int)) with
 |none=>none
 |some y=>some (t.1++[y],cond (decide (((Xn d ((17+i:Nat):Int)).length:Int)>0)) ((i+1:Nat):Int) t.2)
noncomputable def Xpc (d:Xd):Option (List Xa×Int):=Xi3 (Xm6 d) (List.range 10) ([],0)
theorem Xrw {w:List Int} {y:Xa} (h:Xbi w=some y):Xx y=0:=by
 by_cases hw:w=[]
 ·subst hw
  have:Xb=y:=by simpa [Xbi] using h
  subst this;rfl
 ·exact((Xfa hw).1 h).1
theorem Xnc {d:Xd}:∀ (n k:Nat) (t t':List Xa×Int),Xi3 (Xm6 d) (List.range' k n) t=some t'→t.1.length=k→(0≤t.2∧t.2≤(k:Int))→(∀ y∈t.1,Xx y=0)→
  t'.1.length=k+n∧(0≤t'.2∧t'.2≤((k+n:Nat):Int))∧∀ y∈t'.1,Xx y=0
 |0,k,t,t',h,h1,h2,h3=>by cases h;exact⟨h1,h2,h3⟩
 |n+1,k,t,t',h,h1,h2,h3=>by
  rw[List.range'_succ] at h;simp only[Xi3,Xm6] at h
  cases hu:Xbi (Xn d ((17+k:Nat):Int)) with
  |none=>rw[hu] at h;cases h
  |some y=>
   rw[hu] at h
   obtain⟨g1,g2,g3⟩:=Xnc n (k+1) _ t' h (by simp[h1]) (by
    show 0≤cond _ _ _∧cond _ _ _≤_;cases decide (((Xn d ((17+k:Nat):Int)).length:Int)>0)
    ·simp only[Yvy];omega
    ·simp only[Yv0];omega) (fun z hz=>by
    rcases List.mem_append.1 hz with hz | hz
    ·exact h3 z hz
    ·simp only[List.mem_singleton] at hz;subst hz;exact Xrw hu)
   exact⟨by omega,by omega,g3⟩
theorem Xrz {d:Xd} {t:List Xa×Int} (h:Xpc d=some t):t.1.length=10∧(0≤t.2∧t.2≤10)∧∀ y∈t.1,Xx y=0:=by
 have:=Xnc 10 0 ([],0) t (by rw[←List.range_eq_range'];exact h) rfl (by simp) (by simp)
 simpa using this
def Xcd:Fs_:=([],[],())
def Dz:List (List Int):=List.replicate 20 []
theorem Xmv {d:Xd} (hok:Xae d) (a:Int):Wok (Xn d a):=⟨Xgm hok a,Xmw hok a⟩
theorem Xuj {d:Xd} (h:X5 d) (D:List (List Int)):Xc0 d Xcd (0,0,([],D,()))=some (Xry (.inl (5,Xcd)) (fun t=>.inr (t.2,(t.1,D,()))) (Xpc d)):=by
 have h47:=h.l
 have hh:=Ymm (τ:=List Xa×Int) (List.range 10) (f:=fun s=>Xc0.B d Xcd s.1 s.2.1 s.2.2) (fun i t=>(t.2,((i:Int),(t.1,D,()))))
  (fun _ i t=>Xsp (.inl (5,Xcd)) (Xm6 d i t)) (fun t=>(.inr (t.2,(t.1,D,())):(Int×Fs_)⊕(Int×Fs_))) (fun i t=>t.1.length=i)
  (fun i hi t ht=>by
   have hi:i<10:=by simpa using hi
   rw[kA]
   have e17:w64 ((17:Int)+(i:Int))=((17+i:Nat):Int):=by rw[Xgn (by omega) (by omega)];omega
   simp only[Xc0.B,show decide ((i:Int)<10)=true by simp;omega,Yv0,e17,Xpu h.ok.l2 (at_:=((17+i:Nat):Int)) (by omega) (by omega),jA,Xvm (Xmv h.ok _),Xm6,Yvf (by omega:i<4294967296)]
   cases hu:Xbi (Xn d ((17+i:Nat):Int)) with
   |none=>rfl
   |some y=>
    simp only[bne_self_eq_false,Yvy]
    rw[show decide ((t.1++[(y.1,y.2.1,y.2.2.1,y.2.2.2.1,y.2.2.2.2.1,y.2.2.2.2.2)]).length≤2147483648)=true by simp;omega]
    cases decide (((Xn d ((17+i:Nat):Int)).length:Int)>0)<;>rfl)
  (fun i hi t t' ht e=>by
   rw[kA] at e;simp only[Xm6] at e
   cases hu:Xbi (Xn d ((17+i:Nat):Int)) with
   |none=>rw[hu] at e;cases e
   |some y=>rw[hu] at e;cases e;simp[ht]) (fun t ht=>by
   rw[kJ];rfl) ([],0) rfl (s:=(0,0,([],D,()))) rfl
 rw[Xk5] at hh;rw[show Xc0 d Xcd (0,0,([],D,()))=_ from hh];rfl
theorem Xue {d:Xd} (h:X5 d) (D:List (List Int)):Xdu d (0,Xcd,()) (0,0,([],D,()))=some (Xry (.inl (5,Xcd,())) (fun t=>.inr (t.2,(t.1,D,()))) (Xpc d)):=by
 have h47:=h.l
 have hh:=Ymm (τ:=List Xa×Int) (List.range 10) (f:=fun s=>Xdu.B d (0,Xcd,()) s.1 s.2.1 s.2.2) (fun i t=>(t.2,((i:Int),(t.1,D,()))))
  (fun _ i t=>Xsp (.inl (5,Xcd,())) (Xm6 d i t)) (fun t=>(.inr (t.2,(t.1,D,())):Xbf⊕(Int×Fs_))) (fun i t=>t.1.length=i)
  (fun i hi t ht=>by
   have hi:i<10:=by simpa using hi
   rw[kA]
   have e17:w64 ((17:Int)+(i:Int))=((17+i:Nat):Int):=by rw[Xgn (by omega) (by omega)];omega
   obtain⟨z,hz⟩:=Xu6 (Xmv h.ok ((17+i:Nat):Int))
   simp only[Xdu.B,show decide ((i:Int)<10)=true by simp;omega,Yv0,e17,Xpp h.ok.l2 (at_:=((17+i:Nat):Int)) (by omega) (by omega),jA,hz,Xm6,Yvf (by omega:i<4294967296)]
   cases hu:Xbi (Xn d ((17+i:Nat):Int)) with
   |none=>rfl
   |some y=>
    simp only[jK,Yvy]
    rw[show decide ((t.1++[(y.1,y.2.1,y.2.2.1,y.2.2.2.1,y.2.2.2.2.1,y.2.2.2.2.2)]).length≤2147483648)=true by simp;omega]
    cases decide (((Xn d ((17+i:Nat):Int)).length:Int)>0)<;>rfl)
  (fun i hi t t' ht e=>by
   rw[kA] at e;simp only[Xm6] at e
   cases hu:Xbi (Xn d ((17+i:Nat):Int)) with
   |none=>rw[hu] at e;cases e
   |some y=>rw[hu] at e;cases e;simp[ht]) (fun t ht=>by
   rw[kJ];rfl) ([],0) rfl (s:=(0,0,([],D,()))) rfl
 rw[Xk5] at hh;rw[show Xdu d (0,Xcd,()) (0,0,([],D,()))=_ from hh];rfl
def Xdt (d:Xd) (v n:Int):Bool:=cond (decide (((Xn d (27+v)).length:Int)<n)) true (((Xn d (27+v)).take n.toNat).any Xa5)
def Xgt (d:Xd) (v n:Int):List Int:=((Xn d (27+v)).take n.toNat).map IntKind.u8.wrap
def nF (x:Xa) (k:Nat):Int:=Xm1 8 (w64 (x.2.2.1-w64 ((k:Int)*8)))
def Xd0 (x:Xa):Nat→List Int→List (Int×Int)
 |_,[]=>[]
 |k,b::bs=>(b,nF x k)::Xd0 x (k+1) bs
def Xdq:List Xa→List (Int×Int)
 |[]=>[]
 |x::l=>Xd0 x 0 x.2.2.2.1++Xdq l
def Xcc:List (Int×Int)→List Int→List Int
 |[],w=>w
 |p::ps,w=>Xcc ps (w.set p.1.toNat p.2)
def goP (d:Xd):List (Int×Int)→List (List Int)→List (List Int)⊕List (List Int)
 |[],D=>.inr D
 |p::ps,D=>cond (Xdt d p.1 p.2) (.inl D) (goP d ps (D.set p.1.toNat (Xgt d p.1 p.2)))
theorem Xng:∀ (a b:List (Int×Int)) (w:List Int),Xcc (a++b) w=Xcc b (Xcc a w)
 |[],b,w=>rfl
 |p::a,b,w=>Xng a b _
theorem Xph (d:Xd):∀ (a b:List (Int×Int)) (D:List (List Int)),goP d (a++b) D=sel (goP d a D) (fun D'=>.inl D') (fun D'=>goP d b D')
 |[],b,D=>rfl
 |p::a,b,D=>by
  simp only[jQ,goP]
  cases Xdt d p.1 p.2 with
  |true=>rfl
  |false=>exact Xph d a b _
theorem Xpy (x:Xa):∀ (bs:List Int) (k:Nat) (w:List Int),Xhd x k bs w=Xcc (Xd0 x k bs) w
 |[],k,w=>rfl
 |b::bs,k,w=>Xpy x bs (k+1) _
theorem Xj2:∀ (l:List Xa) (w:List Int),Xlu l w=Xcc (Xdq l) w
 |[],w=>rfl
 |x::l,w=>by
  simp only[Xlu,Xdq,Xng,←Xpy];exact Xj2 l _
theorem Xnd (x:Xa):∀ (bs:List Int) (k:Nat),(Xd0 x k bs).map (·.1)=bs
 |[],k=>rfl
 |b::bs,k=>by simp only[Xd0,jS,Xnd x bs]
theorem Xf2:∀ (l:List Xa),(Xdq l).map (·.1)=Xw l
 |[]=>rfl
 |x::l=>by simp only[Xdq,List.map_append,Xnd,Xf2 l,Xw,List.flatMap_cons]
theorem Xpo {d:Xd}:∀ {ps:List (Int×Int)} {D D':List (List Int)},goP d ps D=.inr D'→D'.length=D.length
 |[],D,D',h=>by cases h;rfl
 |p::ps,D,D',h=>by
  simp only[goP] at h
  cases hb:Xdt d p.1 p.2 with
  |true=>rw[hb] at h;cases h
  |false=>rw[hb] at h;rw[Xpo h];simp
theorem Xp8:∀ (ps:List (Int×Int)) (w:List Int),(Xcc ps w).length=w.length
 |[],w=>rfl
 |p::ps,w=>by simp only[Xcc];rw[Xp8 ps];simp
theorem Xm4 {w:List Int} {i j:Nat} {n:Int}:(w.set i n).getD j 0=if i=j∧i<w.length then n else w.getD j 0:=by
 simp only[List.getD,List.getElem?_set]
 by_cases h:i=j
 ·subst h
  by_cases h2:i<w.length
  ·simp[h2]
  ·simp[h2,List.getElem?_eq_none (by omega:w.length≤i)]
 ·simp[h]
theorem Xh3:∀ (ps:List (Int×Int)) (w:List Int) (v:Nat),(∀ p∈ps,p.1.toNat≠v)→(Xcc ps w).getD v 0=w.getD v 0
 |[],w,v,_=>rfl
 |p::ps,w,v,h=>by
  simp only[Xcc];rw[Xh3 ps _ v (fun q hq=>h q (jG _ hq)),Xm4,jM (fun c=>h p jF c.1)]
theorem Xom:∀ (ps:List (Int×Int)) (w:List Int),(∀ p∈ps,0≤p.2∧p.2≤8)→(∀ v,0≤w.getD v 0∧w.getD v 0≤8)→∀ v,0≤(Xcc ps w).getD v 0∧(Xcc ps w).getD v 0≤8
 |[],w,_,h=>h
 |p::ps,w,h,hw=>Xom ps _ (fun q hq=>h q (jG _ hq)) (fun v=>by
  rw[Xm4];split
  ·exact h p jF
  ·exact hw v)
def Xoi (d:Xd) (w:List Int):Bool:=(List.range 20).any fun(v:Nat)=>Xdt d (v:Int) (w.getD v 0)
def Xa6 (d:Xd) (w:List Int):List (List Int):=(List.range 20).map fun(v:Nat)=>Xgt d (v:Int) (w.getD v 0)
theorem Xpw (d:Xd):∀ (ps:List (Int×Int)) (w:List Int),w.length=20→(∀ p∈ps,0≤p.1∧p.1≤19)→(ps.map (·.1)).Nodup→Xoi d w=false→
  (Xoi d (Xcc ps w)=false∧goP d ps (Xa6 d w)=.inr (Xa6 d (Xcc ps w)))∨(Xoi d (Xcc ps w)=true∧∃ D',goP d ps (Xa6 d w)=.inl D')
 |[],w,hw,hp,hn,hb=>.inl ⟨hb,rfl⟩
 |p::ps,w,hw,hp,hn,hb=>by
  have h1:=hp p jF;have hp':=fun q hq=>hp q (jG p hq);simp only[jS,List.nodup_cons] at hn;simp only[goP,Xcc]
  have ec:((p.1.toNat:Nat):Int)=p.1:=by omega
  cases hbad:Xdt d p.1 p.2 with
  |true=>
   refine .inr ⟨?_,_,rfl⟩
   refine List.any_eq_true.2 ⟨p.1.toNat,List.mem_range.2 (by omega),?_⟩
   rw[Xh3 ps _ _ (fun q hq e=>hn.1 (List.mem_map.2 ⟨q,hq,by have:=hp' q hq;omega⟩)),Xm4,jL ⟨rfl,by omega⟩,ec]
   exact hbad
  |false=>
   simp only[Yvy]
   have hb':Xoi d (w.set p.1.toNat p.2)=false:=by
    refine List.any_eq_false.2 fun v hv=>?_;have h0:=List.any_eq_false.1 hb v hv;rw[Xm4]
    split
    ·rename_i c;rw[←c.1,ec,hbad];simp
    ·exact h0
   have hd:(Xa6 d w).set p.1.toNat (Xgt d p.1 p.2)=Xa6 d (w.set p.1.toNat p.2):=by
    refine List.ext_getElem (by simp[Xa6]) fun i hi hi'=>?_
    have hi2:i<20:=by simpa [Xa6] using hi'
    simp only[Xa6,List.getElem_set,kR,kA,Xm4]
    by_cases e:p.1.toNat=i
    ·rw[jL e,jL ⟨e,by omega⟩,←e,ec]
    ·rw[jM e,jM (fun c=>e c.1)]
   rw[hd]
   exact Xpw d ps _ (by simpa using hw) hp' hn.2 hb'
theorem Xtc (d:Xd) (i:Int) (x:Nat) (k:Int) (r2:List Int) (f:Fs_) {n:Int} (hn:0≤n∧n≤8) (h:¬ (r2.length:Int)<n) :
  Xir d i x k n r2 f (0,[])=some (cond ((r2.take n.toNat).any Xa5) (.inl false) (.inr ((r2.take n.toNat).map IntKind.u8.wrap))):=by
 have hl:(r2.take n.toNat).length=n.toNat:=by rw[kK];omega
 have hh:=Ymm (τ:=List Int) (r2.take n.toNat) (f:=fun s=>Xir.B d i x k n r2 f s.1 s.2) (fun j t=>((j:Int),t)) (fun _ v t=>cond (Xa5 v) (.inr (.inl false)) (.inl (t++[IntKind.u8.wrap v])))
  (fun t=>(.inr t:Bool⊕List Int)) (fun j t=>t.length=j)
  (fun j hj t ht=>by
   rw[hl] at hj
   have hj':j<r2.length:=by omega
   simp only[Xir.B,show decide ((j:Int)<n)=true by simp;omega,Yv9 hj',Yv0,toNat_cast,getD_lt _ hj',jA,Yvf (by omega:j<4294967296),List.getElem_take]
   rw[show decide ((t++[IntKind.u8.wrap r2[j]]).length≤2147483648)=true by simp;omega]
   show cond (Xa5 r2[j]) _ _=_
   cases Xa5 r2[j]<;>rfl)
  (fun j hj t t' ht e=>by
   cases hb:Xa5 (r2.take n.toNat)[j] with
   |true=>rw[hb] at e;cases e
   |false=>rw[hb] at e;cases e;simp[ht])
  (fun t ht=>by
   rw[hl]
   simp only[Xir.B,show decide (((n.toNat:Nat):Int)<n)=false by simp;omega,Yvy]) [] rfl (s:=(0,[])) rfl
 rw[Xgi] at hh;exact hh
structure Xj7 (x:Xa):Prop where
 len:x.2.2.2.1.length≤4
 rng:∀ b∈x.2.2.2.1,0≤b∧b≤19
 n:∀ k,k<x.2.2.2.1.length→0≤nF x k∧nF x k≤8
theorem Xj7.of {x:Xa} (h:Xx x=0):Xj7 x:=by
 obtain⟨h1,h2,h3,h4⟩:=Xa0 h;refine⟨h1,h2,fun k hk=>?_⟩
 have hx:x.1=1:=by
  by_cases e:x.1=1
  ·exact e
  ·rw[h3 e] at hk;simp at hk
 have hf:=h4 hx;unfold Xih at hf
 cases c1:inR x.2.1 1 60 with
 |false=>rw[c1] at hf;cases hf
 |true=>
  rw[c1] at hf
  cases c2:inR x.2.2.1 0 32 with
  |false=>rw[c2] at hf;cases hf
  |true=>
   rw[c2] at hf;have r:=X9.1 c2
   cases c3:((x.2.2.2.1.length:Int) != Xns x.2.2.1) with
   |true=>rw[c3] at hf;cases hf
   |false=>
    have e:(x.2.2.2.1.length:Int)=Xns x.2.2.1:=by simpa using c3
    unfold Xns at e
    rw[Xgn (n:=x.2.2.1+8) (by omega) (by omega),Xgn (n:=x.2.2.1+8-1) (by omega) (by omega),Int.tdiv_eq_ediv_of_nonneg (by omega),Xgn (by omega) (by omega)] at e
    unfold nF Xm1
    rw[Xgn (n:=(k:Int)*8) (by omega) (by omega),Xgn (by omega) (by omega)]
    by_cases c:(8:Int)<x.2.2.1-(k:Int)*8
    ·rw[jZ c];simp
    ·rw[qA c];simp only[Yvy];omega
def Xrr (l:List Xa):List (List Int)⊕List (List Int)→(Bool×Fs_)⊕Fs_
 |.inl D=>.inl (false,(l,D,()))
 |.inr D=>.inr (l,D,())
theorem Xne (d:Xd) (l:List Xa) (x:Xa):∀ (bs:List Int) (k:Nat) (D:List (List Int)),
  Ybg (fun k b D=>cond (Xdt d b (nF x k)) (.inr (.inl (false,(l,D,())))) (.inl (D.set b.toNat (Xgt d b (nF x k))))) (fun D=>(.inr (l,D,()):(Bool×Fs_)⊕Fs_)) k bs D=Xrr l (goP d (Xd0 x k bs) D)
 |[],k,D=>rfl
 |b::bs,k,D=>by
  simp only[Ybg,Xd0,goP]
  cases Xdt d b (nF x k) with
  |true=>rfl
  |false=>exact Xne d l x bs (k+1) _
theorem Xup {d:Xd} (h:X5 d) (l:List Xa) (i:Nat) (hi:i<l.length) (hx:Xj7 l[i]) (D:List (List Int)) (hD:D.length=20) :
  Xjt d (i:Int) i (0,(l,D,()))=some (Xrr l (goP d (Xd0 l[i] 0 l[i].2.2.2.1) D)):=by
 have h47:=h.l;have h4:=hx.len
 have hh:=Ymm (τ:=List (List Int)) l[i].2.2.2.1 (f:=fun s=>Xjt.B d (i:Int) i s.1 s.2) (fun k D=>((k:Int),(l,D,())))
  (fun k b D=>cond (Xdt d b (nF l[i] k)) (.inr (.inl (false,(l,D,())))) (.inl (D.set b.toNat (Xgt d b (nF l[i] k))))) (fun D=>(.inr (l,D,()):(Bool×Fs_)⊕Fs_)) (fun k D=>D.length=20)
  (fun k hk D hD=>by
   have hb:=hx.rng _ (jE hk);have hn:=hx.n k hk
   have e27:w64 ((27:Int)+l[i].2.2.2.1[k])=27+l[i].2.2.2.1[k]:=Xgn (by omega) (by omega)
   simp only[Xjt.B,getD_lt _ hi,jA,Yv6 hk,Yv9 hk,Yv0,toNat_cast,getD_lt _ hk,Xse,e27,Xpp h.ok.l2 (at_:=27+l[i].2.2.2.1[k]) (by omega) (by omega),Yvf (by omega:k<4294967296)]
   rw[show Xm1 8 (w64 (l[i].2.2.1-w64 ((k:Int)*8)))=nF l[i] k from rfl];unfold Xdt Xgt;generalize Xn d (27+l[i].2.2.2.1[k])=r2
   by_cases c:(r2.length:Int)<nF l[i] k
   ·rw[jZ c];rfl
   ·rw[qA c,Xtc d _ _ _ r2 _ hn c]
    simp only[Yvy,jA]
    cases (r2.take (nF l[i] k).toNat).any Xa5 with
    |true=>rfl
    |false=>
     simp only[Yvy,Yv1]
     rw[show inB l[i].2.2.2.1[k] D.length=true from Yt7 hb.1 (by omega)]
     rfl)
  (fun k hk D D' hD e=>by
   cases hb:Xdt d l[i].2.2.2.1[k] (nF l[i] k) with
   |true=>rw[hb] at e;cases e
   |false=>rw[hb] at e;cases e;simpa using hD)
  (fun D hD=>by
   simp only[Xjt.B,getD_lt _ hi,jA,Ywf (jB _),Yvy]) D hD (s:=(0,(l,D,()))) rfl
 rw[Xne] at hh;exact hh
def Xor (d:Xd) (L:List Xa) (x:Xa) (D:List (List Int)):List (List Int)⊕((Bool×Fs_)⊕Fs_):=sel (goP d (Xd0 x 0 x.2.2.2.1) D) (fun D'=>.inr (.inl (false,(L,D',())))) (fun D'=>.inl D')
theorem Xnh (d:Xd) (L:List Xa):∀ (l:List Xa) (k:Nat) (D:List (List Int)),Ybg (fun _ x D=>Xor d L x D) (fun D=>(.inr (L,D,()):(Bool×Fs_)⊕Fs_)) k l D=Xrr L (goP d (Xdq l) D)
 |[],k,D=>rfl
 |x::l,k,D=>by
  simp only[Ybg,Xdq,Xph,Xor]
  cases goP d (Xd0 x 0 x.2.2.2.1) D with
  |inl D'=>rfl
  |inr D'=>exact Xnh d L l (k+1) D'
theorem Xqw {d:Xd} (h:X5 d) (l:List Xa) (hl:l.length≤10) (hx:∀ x∈l,Xj7 x) (D:List (List Int)) (hD:D.length=20) :
  Xby d (l,D,())=some (match goP d (Xdq l) D with | .inl D'=>(false,(l,D',())) | .inr D'=>(true,(l,D',()))):=by
 have hh:=Ymm (τ:=List (List Int)) l (f:=fun s=>Xd4.B d s.1 s.2) (fun k D=>((k:Int),(l,D,()))) (fun _ x D=>Xor d l x D) (fun D=>(.inr (l,D,()):(Bool×Fs_)⊕Fs_)) (fun k D=>D.length=20)
  (fun i hi D hD=>by
   simp only[Xd4.B,Yv6 hi,Yv9 hi,Yv0,toNat_cast,Xup h l i hi (hx _ (jE hi)) D hD,jA,Yvf (by omega:i<4294967296),Xor]
   cases goP d (Xd0 l[i] 0 l[i].2.2.2.1) D<;>rfl)
  (fun i hi D D' hD e=>by
   simp only[Xor] at e
   cases hg:goP d (Xd0 l[i] 0 l[i].2.2.2.1) D with
   |inl Dx=>rw[hg] at e;cases e
   |inr Dx=>rw[hg] at e;cases e;rw[Xpo hg];exact hD)
  (fun D hD=>by simp only[Xd4.B,Ywf (jB _),Yvy]) D hD (s:=(0,(l,D,()))) rfl
 rw[Xnh] at hh;have hh':Xd4 d (0,(l,D,()))=some (Xrr l (goP d (Xdq l) D)):=hh;simp only[Xby,hh',jA]
 cases goP d (Xdq l) D<;>rfl
theorem Xsz (l:List Int) (hl:l.length≤2147483648):Xjo l ()=some (l.any Xa5):=by
 have h:Xc1 l () (l.length:Int) ((0:Nat):Int)=_:=Yve l (f:=fun s=>Xc1.B l () (l.length:Int) s) Xa5 (fun i hi=>by
  simp only[Xc1.B,Xli,Yv6 hi,Yv9 hi,Yv0,toNat_cast,getD_lt _ hi,jA,Xa5,Yvf (by omega:i<4294967296)]) (by
  simp only[Xc1.B,Ywf (jB _),Yvy]) 0 (kE _)
 rw[List.drop_zero] at h;simp only[Xjo,Xg7];rw[show Xc1 l () (l.length:Int) 0=_ from h];exact Xgh Xa5 l
theorem Xtp (d:Xd) (w r5:List Int) (n:Int) (r7:Bool) (l:List Xa) (D:List (List Int)) (v:Nat) (hv:v<D.length) (list:List Int) (hl:list.length≤1000) (h0:D.getD v []=[]) :
  Xc2 d (v:Int) w (v:Int) r5 n list r7 list (list.length:Int) Xcd (0,(l,D,()))=some (l,D.set v (list.map IntKind.u8.wrap),()):=by
 have hh:=Ymm (τ:=List Int) list (f:=fun s=>Xc2.B d (v:Int) w (v:Int) r5 n list r7 list (list.length:Int) Xcd s.1 s.2) (fun i t=>((i:Int),(l,D.set v t,()))) (fun _ x t=>.inl (t++[IntKind.u8.wrap x])) (fun t=>((l,D.set v t,()):Fs_)) (fun i t=>t.length=i)
  (fun i hi t ht=>by
   have hv':v<(D.set v t).length:=by simpa using hv
   have hg:(D.set v t).getD v []=t:=by simp only[List.getD];rw[List.getElem?_set_self hv];rfl
   simp only[Xc2.B,Yv6 hi,Yv9 hi,Yv9 hv',Yv0,toNat_cast,getD_lt _ hi,hg,jA,Yvf (by omega:i<4294967296),Nat.beq_refl,Bool.and_true,kM]
   rw[show decide ((t++[IntKind.u8.wrap list[i]]).length≤2147483648)=true by simp;omega]
   rfl)
  (fun i hi t t' ht e=>by cases e;simp[ht]) (fun t ht=>by simp only[Xc2.B,Ywf (jB _),Yvy]) [] rfl (s:=(0,(l,D,()))) (by
   have:D.set v []=D:=by
    refine List.ext_getElem (by simp) fun i hi hi'=>?_
    rw[List.getElem_set]
    split
    ·rename_i e;subst e;rw[←h0,getD_lt _ hv]
    ·rfl
   show _=(((0:Nat):Int),((l,D.set v [],()):Fs_))
   rw[this];rfl)
 rw[Yql] at hh;exact hh
theorem Xvs {d:Xd} (h:X5 d) (l:List Xa) (w:List Int) (hw:w.length=20) (hn:∀ v,0≤w.getD v 0∧w.getD v 0≤8) :
  Xem d w Xcd (0,(l,Dz,()))=some (cond (Xoi d w) (.inl (5,Xcd)) (.inr (l,Xa6 d w,()))):=by
 have h47:=h.l
 have hh:=Ymm (τ:=List (List Int)) (List.range 20) (f:=fun s=>Xem.B d w Xcd s.1 s.2) (fun i t=>((i:Int),(l,t++List.replicate (20-i) [],())))
  (fun _ v t=>cond (Xdt d (v:Int) (w.getD v 0)) (.inr (.inl (5,Xcd))) (.inl (t++[Xgt d (v:Int) (w.getD v 0)]))) (fun t=>(.inr (l,t,()):(Int×Fs_)⊕Fs_)) (fun i t=>t.length=i)
  (fun i hi t ht=>by
   have hi:i<20:=by simpa using hi
   rw[kA]
   have e27:w64 ((27:Int)+(i:Int))=27+(i:Int):=Xgn (by omega) (by omega)
   have hni:=hn i
   simp only[Xem.B,show decide ((i:Int)<20)=true by simp;omega,Yv9 hi,Yv0,toNat_cast,e27,Xpu h.ok.l2 (at_:=27+(i:Int)) (by omega) (by omega),jA,Xca,List.drop_zero,Yvf (by omega:i<4294967296)]
   have hbl:=Xgm h.ok (27+(i:Int));unfold Xdt Xgt;generalize Xn d (27+(i:Int))=r5 at hbl ⊢;generalize w.getD i 0=n at hni ⊢
   by_cases c:(r5.length:Int)<n
   ·rw[jZ c];rfl
   ·rw[qA c,show(decide ((0:Int)≤n)&&decide (n≤(r5.length:Int)))=true by simp;omega,Xsz _ (by rw[kK];omega)]
    simp only[Yvy,Yv0,jA]
    cases (r5.take n.toNat).any Xa5 with
    |true=>rfl
    |false=>
     have hg:(t++List.replicate (20-i) ([]:List Int)).getD i []=[]:=by
      simp only[List.getD];rw[List.getElem?_append_right (by omega),ht,Nat.sub_self,List.getElem?_replicate];simp[show 0<20-i by omega]
     have hs:∀ y:List Int,(t++List.replicate (20-i) ([]:List Int)).set i y=(t++[y])++List.replicate (20-(i+1)) []:=fun y=>by
      rw[show 20-i=(20-(i+1))+1 by omega,List.replicate_succ,List.set_append_right _ _ (by omega),ht,Nat.sub_self];simp
     simp only[Yvy]
     rw[Xtp d w r5 n false l _ i (by simp;omega) _ (by rw[kK];omega) hg,hs]
     rfl)
  (fun i hi t t' ht e=>by
   cases hb:Xdt d (((List.range 20)[i]:Nat):Int) (w.getD (List.range 20)[i] 0) with
   |true=>rw[hb] at e;cases e
   |false=>rw[hb] at e;cases e;simp[ht])
  (fun t ht=>by
   rw[kJ];show some (Sum.inr (Sum.inr (l,t++List.replicate (20-20) [],())))=_
   simp) [] rfl (s:=(0,(l,Dz,()))) rfl
 rw[Xgi] at hh;exact hh
structure FsB (f:Fs_):Prop where
 l:f.1.length≤10
 s:∀ x∈f.1,Xaf x
 d:f.2.1.length=20
 dl:∀ b∈f.2.1,b.length≤64
theorem FsB.bd {f:Fs_} (h:FsB f):Bd Xk f:=by
 refine⟨⟨?_,fun x hx=>?_⟩,⟨?_,fun b hb=>⟨?_,fun _ _=>trivial⟩⟩,trivial⟩
 ·have:=h.l;show f.1.length≤_;omega
 ·have hs:=h.s x hx
  refine⟨trivial,trivial,trivial,⟨?_,fun _ _=>trivial⟩,⟨?_,fun e he=>⟨?_,trivial,trivial⟩⟩,trivial⟩
  ·have:=hs.blk;show x.2.2.2.1.length≤_;omega
  ·have:=hs.ent;show x.2.2.2.2.1.length≤_;omega
  ·have:=hs.nam e he;show e.1.length≤_;omega
 ·have:=h.d;show f.2.1.length≤_;omega
 ·have:=h.dl b hb;show b.length≤_;omega
theorem FsB.wt {f:Fs_} (h:FsB f):wt Xk f≤100000:=by
 have e1:∀ w:List Int,(w.map (Mf.wt (.int .i64))).sum=w.length:=fun w=>Xji .i64 w;have e2:∀ w:List Int,(w.map (Mf.wt (.int .u8))).sum=w.length:=fun w=>Xji .u8 w
 have h1:=Yth (Mf.wt Xc) 100 (xs:=f.1) (fun x hx=>by
  have hs:=h.s x hx;have hb:=hs.blk;have he:=hs.ent
  have h2:=Yth (Mf.wt Xi) 6 (xs:=x.2.2.2.2.1) (fun e hee=>by
   have:=hs.nam e hee
   simp only[Ykt,Yof,Yt2,Ys1];omega)
  have e:Mf.wt Xc x=1+(1+(1+((x.2.2.2.1.map (Mf.wt (.int .i64))).sum+1+((x.2.2.2.2.1.map (Mf.wt Xi)).sum+1+0)))):=rfl;rw[e,e1]
  omega)
 have h2:=Yth (Mf.wt (.sl (.int .u8))) 65 (xs:=f.2.1) (fun b hb=>by
  have:=h.dl b hb
  rw[Yrd,e2];omega)
 have hl:=h.l;have hd:=h.d;rw[Ykt,Ykt,Ys1,Yrd,Yrd];rw[hd] at h2;have:f.1.length*100≤10*100:=jR _ hl;omega
theorem Xtl {x:Xa} (h:Xaf x):Xjd x=some x:=by
 have h1:=h.blk;have h2:=h.ent;simp only[Xjd,Xas,jO]
 rw[jZ (by omega:x.2.2.2.1.length≤2147483648)]
 simp only[Yv0,jA]
 rw[jZ (by omega:x.2.2.2.2.1.length≤2147483648)]
 rfl
theorem Xvc {f:Fs_} (h:FsB f):Xb6 f=some f:=by
 obtain⟨bs,ps,⟨⟩⟩:=f;have hl1:bs.length≤10:=h.l;have hl2:ps.length=20:=h.d
 have h0:Xd2 (bs,ps,()) ([],[],()) (0,([],[],()))=some (bs.foldl (fun(t:Fs_) x=>(t.1++[x],t.2)) ([],[],())):=
  Yoo bs (f:=fun s=>Xd2.B (bs,ps,()) ([],[],()) s.1 s.2) _ (fun t=>t) (fun i t=>t.1.length≤i) (fun i hi t ht=>by
   have hw:=Xtl (h.s _ (jE hi))
   constructor
   ·simp only[Xd2.B,Yv6 hi,Yv9 hi,Yv0,toNat_cast,getD_lt _ hi,hw,jA,Yvf (by omega:i<4294967296)]
    rw[show decide ((t.1++[(bs[i].1,bs[i].2.1,bs[i].2.2.1,bs[i].2.2.2.1,bs[i].2.2.2.2.1,bs[i].2.2.2.2.2)]).length≤2147483648)=true by simp;omega];rfl
   ·simp;omega) (fun t ht=>by simp only[Xd2.B,Ywf (jB _),Yvy]) _ (jB _)
 have h1:Xex (bs,ps,()) ([],[],()) (0,(bs,[],()))=some (ps.foldl (fun(t:Fs_) x=>(t.1,t.2.1++[x],t.2.2)) (bs,[],())):=
  Yoo ps (f:=fun s=>Xex.B (bs,ps,()) ([],[],()) s.1 s.2) _ (fun t=>t) (fun i t=>t.2.1.length≤i) (fun i hi t ht=>by
   have hw:ps[i].length≤64:=h.dl _ (jE hi)
   constructor
   ·simp only[Xex.B,Yv6 hi,Yv9 hi,Yv0,toNat_cast,getD_lt _ hi,jO,jZ (show ps[i].length≤2147483648 by omega),jA,Yvf (by omega:i<4294967296)]
    rw[show decide ((t.2.1++[ps[i]]).length≤2147483648)=true by simp;omega];rfl
   ·simp;omega) (fun t ht=>by simp only[Xex.B,Ywf (jB _),Yvy]) _ (jB _)
 rw[Xpr] at h0;rw[Xq8] at h1;simp only[jO] at h0 h1;simp only[Xb6,h0,jA,h1]
theorem Xpz (d:Xd):Xa6 d (List.replicate 20 0)=Dz:=by
 refine List.ext_getElem (by simp[Xa6,Dz]) fun i hi hi'=>?_
 have hi2:i<20:=by simpa [Xa6] using hi
 simp only[Xa6,Dz,kR,kA,List.getElem_replicate]
 have:(List.replicate 20 (0:Int)).getD i 0=0:=by simp only[List.getD,List.getElem?_replicate];split<;>rfl
 rw[this];rfl
theorem Xqa (d:Xd):Xoi d (List.replicate 20 0)=false:=by
 refine List.any_eq_false.2 fun v hv=>?_;have hv:=List.mem_range.1 hv
 have:(List.replicate 20 (0:Int)).getD v 0=0:=by simp only[List.getD,List.getElem?_replicate];split<;>rfl
 rw[this];unfold Xdt
 rw[show decide (((Xn d (27+(v:Int))).length:Int)<0)=false by simp];simp
theorem Xpn (x:Xa) (h:Xj7 x):∀ (bs:List Int) (k:Nat),k+bs.length≤x.2.2.2.1.length→∀ p∈Xd0 x k bs,0≤p.2∧p.2≤8
 |[],k,_,p,hp=>by cases hp
 |b::bs,k,hk,p,hp=>by
  simp only[jH] at hk;rcases List.mem_cons.1 hp with rfl | hp
  ·exact h.n k (by omega)
  ·exact Xpn x h bs (k+1) (by omega) p hp
theorem Xpj:∀ (l:List Xa),(∀ x∈l,Xj7 x)→∀ p∈Xdq l,0≤p.2∧p.2≤8
 |[],_,p,hp=>by cases hp
 |x::l,h,p,hp=>by
  rcases List.mem_append.1 hp with hp | hp
  ·exact Xpn x (h x jF) _ 0 (by omega) p hp
  ·exact Xpj l (fun y hy=>h y (jG _ hy)) p hp
theorem Xqr {l:List Xa} (h:∀ x∈l,Xj7 x):∀ v,0≤(X3 l).getD v 0∧(X3 l).getD v 0≤8:=by
 unfold X3;rw[Xj2]
 exact Xom _ _ (Xpj l h) (fun v=>by
  simp only[List.getD,List.getElem?_replicate];split<;>simp)
theorem Xs4 (d:Xd) {l:List Xa} (hok:Xau l) (ho:Xb1 l=true) :
  (Xoi d (X3 l)=false∧goP d (Xdq l) Dz=.inr (Xa6 d (X3 l)))∨(Xoi d (X3 l)=true∧∃ D',goP d (Xdq l) Dz=.inl D'):=by
 have:=Xpw d (Xdq l) (List.replicate 20 0) (by simp) (fun p hp=>hok.all.2 _ (by rw[←Xf2];exact List.mem_map.2 ⟨p,hp,rfl⟩)) (by rw[Xf2];exact of_decide_eq_true ho) (Xqa d)
 rw[Xpz] at this;unfold X3;rw[Xj2];exact this
theorem Xnm {d:Xd} (h:X5 d) (hs:Xly d):∃ c f g,Xa9 d=some (c,f,())∧Xbh d=some (g,c)∧(c=0→g=f∧FsB f∧fsF f=0∧∃ t,Xpc d=some t∧f=(t.1.take t.2.toNat,Xa6 d (X3 (t.1.take t.2.toNat)),()))∧(c≠0→f=Xcd):=by
 have hsq:=Xre h hs;have hi:=Xuj h Dz;have hp:=Xue h Dz;have e20:(decide ((0:Int)≤(20:Int))&&(decide ((20:Int)≤(20:Int))&&decide ((20:Int)≤2147483648)))=true:=rfl;simp only[Xa9,Xbh,Xq5,hsq,jA,show((0:Int) != 0)=false from rfl,Yvy,e20,Yv0]
 rw[show Xdu d (0,([],[],()),()) (0,0,([],List.replicate (20:Int).toNat ([]:List Int),()))=_ from hp,
  show Xc0 d ([],[],()) (0,0,([],List.replicate (20:Int).toNat ([]:List Int),()))=_ from hi]
 cases ht:Xpc d with
 |none=>exact⟨5,Xcd,Xcd,rfl,rfl,(fun e=>by cases e),fun _=>rfl⟩
 |some t=>
  obtain⟨t1,t2,t3⟩:=Xrz ht;simp only[jA,Xry,Yv1,List.drop_zero,Nat.sub_zero]
  rw[show(decide ((0:Int)≤t.2)&&decide (t.2≤(t.1.length:Int)))=true by simp;omega]
  simp only[Yv0]
  have hl:(t.1.take t.2.toNat).length≤10:=by rw[kK];omega
  have hin:∀ y∈t.1.take t.2.toNat,Xx y=0:=fun y hy=>t3 y (List.mem_of_mem_take hy);generalize hL:t.1.take t.2.toNat=l at hl hin ⊢
  have hb0:FsB (l,Dz,()):=⟨hl,fun x hx=>Xaf.of (hin x hx),by simp[Dz],fun b hb=>by have:=List.eq_of_mem_replicate hb;subst this;simp⟩
  rw[Xr0 (l,Dz,()) hb0.bd,Xsf (l,Dz,()) hb0.bd];simp only[jA]
  cases htr:(Xb5 (l,Dz,()) != 0) with
  |true=>exact⟨Xb5 (l,Dz,()),Xcd,Xcd,rfl,rfl,(fun e=>by rw[e] at htr;cases htr),fun _=>rfl⟩
  |false=>
   have htree:=Xad.of (show Xb5 (l,Dz,())=0 by simpa using htr)
   have hok:Xau l:=Xau.of htree.inod;have hbk:∀ x∈l,Xj7 x:=fun x hx=>Xj7.of (hin x hx);simp only[Yvy,Xr6 l hok,jA]
   rw[show Xem d (X3 l) ([],[],()) (0,(l,Dz,()))=_ from Xvs h l (X3 l) (Xnp l) (Xqr hbk),Xqw h l hl hbk Dz (by simp[Dz])]
   simp only[jA];rcases Xs4 d hok htree.once with ⟨h1,h2⟩ | ⟨h1,D',h2⟩
   ·rw[h1,h2]
    simp only[Yvy,Yv1,jK]
    have hb1:FsB (l,Xa6 d (X3 l),()):=⟨hl,fun x hx=>Xaf.of (hin x hx),by simp[Xa6],fun b hb=>by
     simp only[Xa6,kS,List.mem_range] at hb;obtain⟨v,hv,rfl⟩:=hb;have:=Xgm h.ok (27+(v:Int))
     simp only[Xgt,kP,kK];omega⟩
    rw[Xps _ hb1.bd,Xqb _ hb1.bd];simp only[jA]
    cases hc:(fsF (l,Xa6 d (X3 l),()) != 0) with
    |true=>exact⟨fsF (l,Xa6 d (X3 l),()),Xcd,(l,Xa6 d (X3 l),()),rfl,rfl,(fun e=>by rw[e] at hc;cases hc),fun _=>rfl⟩
    |false=>
     have hc0:fsF (l,Xa6 d (X3 l),())=0:=by simpa using hc
     exact⟨0,(l,Xa6 d (X3 l),()),(l,Xa6 d (X3 l),()),rfl,by rw[hc0],(fun _=>⟨rfl,hb1,hc0,t,rfl,by rw[hL]⟩),fun h=>absurd rfl h⟩
   ·rw[h1,h2]
    exact⟨5,Xcd,Xcd,rfl,rfl,(fun e=>by cases e),fun _=>rfl⟩
def Xo6 (x y:Xg):Bool:=x.1 == y.1&&(x.2.1 == y.2.1&&true)
def diE (a b:List Xg):Bool:=(List.range a.length).any fun i=>!Xo6 (a.getD i Xl) (b.getD i Xl)
def Xfl (a b:Xa):Bool:=cond (cond (cond (a.1 == b.1) (a.2.1 == b.2.1) false) (a.2.2.1 == b.2.2.1) false)
 (cond (a.2.2.2.1 == b.2.2.2.1) (cond ((a.2.2.2.2.1.length:Int) != (b.2.2.2.2.1.length:Int)) false (!diE a.2.2.2.2.1 b.2.2.2.2.1)) false) false
theorem Xax {α:Type} {a b:List α} (h:((a.length:Int) != (b.length:Int))=false):a.length=b.length:=by
 have:(a.length:Int)=(b.length:Int):=by simpa using h
 omega
theorem Xu5 (a b:List Xg) (hl:a.length≤1000):Xj6 a b=some (cond ((a.length:Int) != (b.length:Int)) false (!diE a b)):=by
 simp only[Xj6]
 cases h:((a.length:Int) != (b.length:Int)) with
 |true=>rfl
 |false=>
  have hlen:=Xax h
  have hh:=Xa2 a Xl (f:=fun s=>Xe3.B a b (a.length:Int) s) (fun i x=>!Xo6 x (b.getD i Xl)) false (fun i hi=>by
   simp only[Xe3.B,Yv6 hi,Yv9 hi,Yv9 (hlen▸hi:i<b.length),Yv0,toNat_cast,getD_lt _ hi,jA,Yvf (by omega:i<4294967296),Xo6]) (by
   simp only[Xe3.B,Ywf (jB _),Yvy])
  rw[show Xe3 a b (a.length:Int) 0=_ from hh];simp only[Yvy,jA,diE]
  cases ((List.range a.length).any fun i=>!Xo6 (a.getD i Xl) (b.getD i Xl))<;>rfl
theorem Xur {a b:Xa} (h:Xaf a):Xge a b=some (Xfl a b):=by
 have hb:=h.blk;have he:=h.ent;have nb:∀ x y:Int,(x != y) = !(x == y):=fun _ _=>rfl;simp only[Xge,Xfl,jA];rw[nb a.1,nb a.2.1,nb a.2.2.1]
 cases (a.1 == b.1) with
 |false=>rfl
 |true=>
  cases (a.2.1 == b.2.1) with
  |false=>rfl
  |true=>
   cases (a.2.2.1 == b.2.2.1) with
   |false=>rfl
   |true=>
    simp only[jK,Yvy,Yv0,Xq4 a.2.2.2.1 b.2.2.2.1 (by omega),jA]
    cases (a.2.2.2.1 == b.2.2.2.1) with
    |false=>rfl
    |true=>
     simp only[jK,Yvy,Yv0]
     cases h5:((a.2.2.2.2.1.length:Int) != (b.2.2.2.2.1.length:Int)) with
     |true=>rfl
     |false=>
      have hlen:=Xax h5
      have hh:=Xa2 a.2.2.2.2.1 Xl (f:=fun s=>Xfp.B a b s) (fun i x=>!Xo6 x (b.2.2.2.2.1.getD i Xl)) false (fun i hi=>by
       simp only[Xfp.B,Yv6 hi,Yv9 hi,Yv9 (hlen▸hi:i<b.2.2.2.2.1.length),Yv0,toNat_cast,getD_lt _ hi,jA,Yvf (by omega:i<4294967296),Xo6]) (by
       simp only[Xfp.B,Ywf (jB _),Yvy])
      rw[show Xfp a b 0=_ from hh];simp only[Yvy,jA,diE]
      cases ((List.range a.2.2.2.2.1.length).any fun i=>!Xo6 (a.2.2.2.2.1.getD i Xl) (b.2.2.2.2.1.getD i Xl))<;>rfl
theorem Xvo {a b:Xa} (h:Xaf a):Xjp a b=some (Xfl a b):=by
 have hb:=h.blk;have he:=h.ent
 simp only[Xjp,Xfl,jA,Xqk a.2.2.2.1 b.2.2.2.1 (by omega),Xu5 a.2.2.2.2.1 b.2.2.2.2.1 (by omega)]
 cases (cond (cond (a.1 == b.1) (a.2.1 == b.2.1) false) (a.2.2.1 == b.2.2.1) false) with
 |false=>rfl
 |true=>cases (a.2.2.2.1 == b.2.2.2.1)<;>rfl
def u8s (l:List Int):List UInt8:=l.map fun n=>UInt8.ofNat n.toNat
def diI (a b:List Xa):Bool:=(List.range a.length).any fun i=>!Xfl (a.getD i Xb) (b.getD i Xb)
def diD (a b:List (List Int)):Bool:=(List.range a.length).any fun i=>!(u8s (a.getD i []) == u8s (b.getD i []))
def Xce (a b:Fs_):Bool:=cond (cond ((a.1.length:Int) != (b.1.length:Int)) true ((a.2.1.length:Int) != (b.2.1.length:Int))) false (cond (diI a.1 b.1) false (!diD a.2.1 b.2.1))
theorem Xug {a b:Fs_} (h:FsB a):Xb7 a b=some (Xce a b):=by
 have hl:=h.l;have hd:=h.d;simp only[Xb7,Xce,jA]
 cases h1:((a.1.length:Int) != (b.1.length:Int)) with
 |true=>rfl
 |false=>
  cases h2:((a.2.1.length:Int) != (b.2.1.length:Int)) with
  |true=>rfl
  |false=>
   have e1:=Xax h1;have e2:=Xax h2
   have hh:=Xa2 a.1 Xb (f:=fun s=>Xfq.B a b s) (fun i x=>!Xfl x (b.1.getD i Xb)) false (fun i hi=>by
    simp only[Xfq.B,Yv6 hi,Yv9 hi,Yv9 (e1▸hi:i<b.1.length),Yv0,toNat_cast,getD_lt _ hi,Xur (h.s _ (jE hi)),jA,Yvf (by omega:i<4294967296)]) (by
    simp only[Xfq.B,Ywf (jB _),Yvy])
   have hh2:=Xa2 a.2.1 [] (f:=fun s=>Xdy.B a b s) (fun i x=>!(u8s x == u8s (b.2.1.getD i []))) false (fun i hi=>by
    simp only[Xdy.B,Yv6 hi,Yv9 hi,Yv9 (e2▸hi:i<b.2.1.length),Yv0,toNat_cast,getD_lt _ hi,jA,Yvf (by omega:i<4294967296),u8s]) (by
    simp only[Xdy.B,Ywf (jB _),Yvy])
   rw[show Xfq a b 0=_ from hh,show Xdy a b 0=_ from hh2];simp only[Yvy,jA];rw[show((List.range a.1.length).any fun i=>!Xfl (a.1.getD i Xb) (b.1.getD i Xb))=diI a.1 b.1 from rfl,show((List.range a.2.1.length).any fun i=>!(u8s (a.2.1.getD i []) == u8s (b.2.1.getD i [])))=diD a.2.1 b.2.1 from rfl]
   cases diI a.1 b.1<;>cases diD a.2.1 b.2.1<;>rfl
theorem Xul {a b:Fs_} (h:FsB a):Xf5 a b=some (Xce a b):=by
 have hl:=h.l;have hd:=h.d
 have e1:Xe0 a.1 b.1 ()=some (cond ((a.1.length:Int) != (b.1.length:Int)) false (!diI a.1 b.1)):=by
  simp only[Xe0]
  cases h1:((a.1.length:Int) != (b.1.length:Int)) with
  |true=>rfl
  |false=>
   have e1:=Xax h1
   have hh:=Xa2 a.1 Xb (f:=fun s=>Xfs.B b.1 () a.1 (a.1.length:Int) s) (fun i x=>!Xfl x (b.1.getD i Xb)) false (fun i hi=>by
    simp only[Xfs.B,Yv6 hi,Yv9 hi,Yv9 (e1▸hi:i<b.1.length),Yv0,toNat_cast,getD_lt _ hi,Xvo (h.s _ (jE hi)),jA,Yvf (by omega:i<4294967296)]) (by
    simp only[Xfs.B,Ywf (jB _),Yvy])
   rw[show Xfs b.1 () a.1 (a.1.length:Int) 0=_ from hh];simp only[Yvy,jA];rw[show((List.range a.1.length).any fun i=>!Xfl (a.1.getD i Xb) (b.1.getD i Xb))=diI a.1 b.1 from rfl]
   cases diI a.1 b.1<;>rfl
 have e2:Xf4 a.2.1 b.2.1 ()=some (cond ((a.2.1.length:Int) != (b.2.1.length:Int)) false (!diD a.2.1 b.2.1)):=by
  simp only[Xf4]
  cases h1:((a.2.1.length:Int) != (b.2.1.length:Int)) with
  |true=>rfl
  |false=>
   have e1:=Xax h1
   have hh:=Xa2 a.2.1 [] (f:=fun s=>Xep.B b.2.1 () a.2.1 (a.2.1.length:Int) s) (fun i x=>!(u8s x == u8s (b.2.1.getD i []))) false (fun i hi=>by
    simp only[Xep.B,Xhh,Yv6 hi,Yv9 hi,Yv9 (e1▸hi:i<b.2.1.length),Yv0,toNat_cast,getD_lt _ hi,jA,Yvf (by omega:i<4294967296),u8s]) (by
    simp only[Xep.B,Ywf (jB _),Yvy])
   rw[show Xep b.2.1 () a.2.1 (a.2.1.length:Int) 0=_ from hh];simp only[Yvy,jA];rw[show((List.range a.2.1.length).any fun i=>!(u8s (a.2.1.getD i []) == u8s (b.2.1.getD i [])))=diD a.2.1 b.2.1 from rfl]
   cases diD a.2.1 b.2.1<;>rfl
 simp only[Xf5,e1,e2,jA,Xce]
 cases ((a.1.length:Int) != (b.1.length:Int))<;>cases ((a.2.1.length:Int) != (b.2.1.length:Int))<;>cases diI a.1 b.1<;>cases diD a.2.1 b.2.1<;>rfl
def Xpe (w:X0) (n:Nat):Bool:=!(u8s (w.2.1.2.1.getD n []) == u8s (w.2.2.1.2.1.getD n []))
def Xdm (w:X0):Bool:=(Xah (Xw w.2.1.1)).any fun b=>cond ((Xah (Xw w.2.2.1.1)).contains b) (Xpe w b.toNat) false
theorem Xv0 {w:X0} (ha:Xau w.2.1.1) (hb:Xau w.2.2.1.1) (da:w.2.1.2.1.length=20) (db:w.2.2.1.2.1.length=20) (v4 v7:Bool) :
  Xcb w ((Xah (Xw w.2.1.1)).length:Int) (Xah (Xw w.2.1.1)) v4 () (Xah (Xw w.2.2.1.1)) v7 () 0=some (cond (Xdm w) (.inl 10) (.inr ())):=by
 have l1:(Xah (Xw w.2.1.1)).length≤40:=by rw[(Xaj _).length_eq];exact ha.all.1
 have l2:(Xah (Xw w.2.2.1.1)).length≤40:=by rw[(Xaj _).length_eq];exact hb.all.1
 exact Yu1 (Xah (Xw w.2.1.1)) (f:=fun s=>Xcb.B w ((Xah (Xw w.2.1.1)).length:Int) (Xah (Xw w.2.1.1)) v4 () (Xah (Xw w.2.2.1.1)) v7 () s) (fun b=>cond ((Xah (Xw w.2.2.1.1)).contains b) (Xpe w b.toNat) false) (10:Int) (fun i hi=>by
  have hr:=ha.all.2 _ ((Xaj _).mem_iff.1 (jE hi))
  simp only[Xcb.B,Yv6 hi,Yv9 hi,Yv0,toNat_cast,getD_lt _ hi,Xrh _ _ (by omega:(Xah (Xw w.2.2.1.1)).length≤2147483648),jA,Xhh,Yvf (by omega:i<4294967296)]
  rw[show inB (Xah (Xw w.2.1.1))[i] w.2.1.2.1.length=true from Yt7 hr.1 (by omega),show inB (Xah (Xw w.2.1.1))[i] w.2.2.1.2.1.length=true from Yt7 hr.1 (by omega)]
  simp only[Yv0,Xpe,u8s]
  cases (Xah (Xw w.2.2.1.1)).contains (Xah (Xw w.2.1.1))[i]<;>rfl) (by
  simp only[Xcb.B,Ywf (jB _),Yvy])
theorem Xtt {w:X0} (ha:Xau w.2.1.1) (hb:Xau w.2.2.1.1) (da:w.2.1.2.1.length=20) (db:w.2.2.1.2.1.length=20):Xea w=some (!Xdm w):=by
 have hh:=Yu1 (List.range 20) (f:=fun s=>Xgr.B w s) (fun n=>cond (decide ((((Xw w.2.1.1).count (n:Int):Nat):Int)>0)) (cond (decide ((((Xw w.2.2.1.1).count (n:Int):Nat):Int)>0)) (Xpe w n) false) false) false (fun i hi=>by
  have hi':i<20:=by simpa using hi
  rw[kA]
  simp only[Xgr.B,show decide ((i:Int)<20)=true by simp;omega,Yv0,toNat_cast,Xqi _ ha,Xqi _ hb,jA,Yv9 (by omega:i<w.2.1.2.1.length),Yv9 (by omega:i<w.2.2.1.2.1.length),Yvf (by omega:i<4294967296),Xpe,u8s]
  cases decide ((((Xw w.2.1.1).count (i:Int):Nat):Int)>0)<;>cases decide ((((Xw w.2.2.1.1).count (i:Int):Nat):Int)>0)<;>rfl) (by
  rw[kJ];rfl)
 simp only[Xea];rw[show Xgr w 0=_ from hh]
 have e:((List.range 20).any fun n=>cond (decide ((((Xw w.2.1.1).count (n:Int):Nat):Int)>0)) (cond (decide ((((Xw w.2.2.1.1).count (n:Int):Nat):Int)>0)) (Xpe w n) false) false)=Xdm w:=by
  have cp:∀ (l:List Int) (b:Int),decide (((l.count b:Nat):Int)>0)=(Xah l).contains b:=fun l b=>by
   rw[Bool.eq_iff_iff,jI,List.contains_iff_mem,(Xaj _).mem_iff,←List.count_pos_iff];omega
  unfold Xdm;rw[Bool.eq_iff_iff,List.any_eq_true,List.any_eq_true]
  constructor
  ·rintro⟨n,hn,h⟩
   rw[cp,cp] at h
   cases h1:(Xah (Xw w.2.1.1)).contains (n:Int) with
   |false=>rw[h1] at h;cases h
   |true=>rw[h1] at h;exact⟨(n:Int),List.contains_iff_mem.1 h1,h⟩
  ·rintro⟨b,hb1,h⟩
   have hr:=ha.all.2 _ ((Xaj _).mem_iff.1 hb1)
   have ec:((b.toNat:Nat):Int)=b:=by omega
   refine⟨b.toNat,List.mem_range.2 (by omega),?_⟩
   rw[cp,cp,ec,List.contains_iff_mem.2 hb1];exact h
 rw[e]
 cases Xdm w<;>rfl
theorem Xpd (w:X0) (ba:Bd Xk w.2.1) (bb:Bd Xk w.2.2.1):∃ r,Xjz w=some r∧Xgd w=some r∧(r=0→(Xam w.1).2=0∧fsF w.2.1=0∧fsF w.2.2.1=0∧w.1.2.1=[]∧Xdm w=false∧∃ g,Xa9 w.1=some (0,g,())∧Xce g w.2.2.1=true):=by
 have nb:∀ x:Int,(x != 0) = !(x == 0):=fun _=>rfl;simp only[Xjz,Xgd,Xq5,Xqx,Xps _ ba,Xps _ bb,Xqb _ ba,Xqb _ bb,jA,nb]
 cases h0:((Xam w.1).2 == 0) with
 |false=>exact⟨_,rfl,rfl,fun e=>absurd e (by simpa using h0)⟩
 |true=>
  have hs0:(Xam w.1).2=0:=by simpa using h0
  simp only[jK,Yvy,Yv0]
  cases h1:(fsF w.2.1 == 0) with
  |false=>exact⟨_,rfl,rfl,fun e=>absurd e (by simpa using h1)⟩
  |true=>
   simp only[jK,Yvy,Yv0]
   cases h2:(fsF w.2.2.1 == 0) with
   |false=>exact⟨_,rfl,rfl,fun e=>absurd e (by simpa using h2)⟩
   |true=>
    simp only[jK,Yvy,Yv0]
    cases h3:decide ((w.1.2.1.length:Int)>0) with
    |true=>exact⟨_,rfl,rfl,fun e=>absurd e (by decide)⟩
    |false=>
     obtain⟨hok,h47⟩:=Xj9 hs0
     obtain⟨c,f,g,l1,l2,l3,_⟩:=Xnm (d:=w.1) ⟨hok,by omega⟩ (Xog hs0)
     have ta:=(Xhv.of (show fsF w.2.1=0 by simpa using h1)).tree
     have tb:=(Xhv.of (show fsF w.2.2.1=0 by simpa using h2)).tree
     have ia:=Xau.of ta.inod;have ib:=Xau.of tb.inod;simp only[Yvy,l1,l2,jA]
     cases hc:(c == 0) with
     |false=>exact⟨_,rfl,rfl,fun e=>absurd e (by first | decide | simpa using hc)⟩
     |true=>
      obtain⟨rfl,hfb,_⟩:=l3 (by simpa using hc)
      simp only[jK,Yvy];rw[show Xb7 (g.1,g.2.1,g.2.2) w.2.2.1=_ from Xug hfb,show Xf5 (g.1,g.2.1,g.2.2) w.2.2.1=_ from Xul hfb];simp only[jA]
      cases hsm:Xce g w.2.2.1 with
      |false=>exact⟨_,rfl,rfl,fun e=>absurd e (by decide)⟩
      |true=>
       simp only[jK,Yvy,Xpx _ ia,Xpx _ ib,jA,Xtt ia ib ta.dat tb.dat];rw[Xv0 ia ib ta.dat tb.dat];cases hhb:Xdm w
       ·exact⟨0,rfl,rfl,fun _=>⟨hs0,by simpa using h1,by simpa using h2,by simpa using h3,rfl,g,by rw[show c=0 by simpa using hc],hsm⟩⟩
       ·exact⟨10,rfl,rfl,fun e=>absurd e (by decide)⟩
def Xn1 (l:List Xj) (k:Nat):Xr:=(false,(2:Int)+(k:Int),(l.getD k Xv).2.1,())
def Xn5 (l:List Xj):List Xr:=(List.range l.length).map (Xn1 l)
theorem Xpf {β:Type} (l:List Xj) (g:Xj→β):(List.range l.length).map (fun k=>g (l.getD k Xv))=l.map g:=by
 apply List.ext_getElem (by simp)
 intro i h1 h2
 have hi:i<l.length:=by simpa using h2
 simp only[kR,kA,getD_lt _ hi]
theorem Xnk {α β γ:Type} (g:α→β) (h:α→γ):∀ (l:List α) (t:List β×List γ),l.foldl (fun t x=>(t.1++[g x],t.2++[h x])) t=(t.1++l.map g,t.2++l.map h)
 |[],t=>by simp
 |x::l,t=>by simp[Xnk g h l]
theorem Xvq (seq n:Int) {ips:List Xj} (out:List Xr) (hl:ips.length≤60) (t:List Int) (ht:t.length=3):Xe1 seq n ips out (0,t)=some (t++ips.map fun p=>p.1):=
 Yuv ips (f:=fun s=>Xe1.B seq n ips out s.1 s.2) (fun p=>p.1) (fun t=>t) 3 (fun i hi t ht=>by
  simp only[Xe1.B,Yv6 hi,Yv9 hi,Yv0,toNat_cast,getD_lt _ hi,Yvf (by omega:i<4294967296)]
  rw[Xav (by simp;omega)];rfl) (fun t ht=>by
  simp only[Xe1.B,Ywf (jB _),Yvy]) t ht
theorem Xuw (seq n:Int) {ips:List Xj} (hl:ips.length≤60) (hw:∀ p∈ips,p.2.1.length≤64) (t:List Xr) (ht:t.length≤100):Xfn seq n ips (0,t)=some (t++Xn5 ips):=
 Yuv (List.range ips.length) (f:=fun s=>Xfn.B seq n ips s.1 s.2) (Xn1 ips) (fun t=>t) t.length (fun i hi u hu=>by
  have hi':i<ips.length:=by simpa using hi
  have h64:=hw _ (jE hi');rw[kA]
  simp only[Xfn.B,Yv6 hi',Yv9 hi',Yv0,toNat_cast,getD_lt _ hi',Xas,jO,jZ (by omega:ips[i].2.1.length≤2147483648),jA,Yr5 (x:=2+(i:Int)) (by omega) (by omega),Yvf (by omega:i<4294967296),Xn1]
  rw[Xav (by simp;omega)];rfl) (fun u hu=>by
  rw[kJ]
  simp only[Xfn.B,Ywf (jB _),Yvy]) t rfl
theorem Xtw (d:Xd) (f:Fs_) (seq:Int) {ips:List Xj} (a:Bool) (b:Int) (c:Unit) (hl:ips.length≤60) (hw:∀ p∈ips,p.2.1.length≤64) (t:List Int) (ht:t.length=3) :
  Xdh d f seq (ips.length:Int) ips a b c (0,t,[])=some (t++ips.map fun p=>p.1,Xn5 ips):=by
 have h:=Yoo (List.range ips.length) (f:=fun s=>Xdh.B d f seq (ips.length:Int) ips a b c s.1 s.2.1 s.2.2) (fun(t:List Int×List Xr) k=>(t.1++[(ips.getD k Xv).1],t.2++[Xn1 ips k])) (fun t=>t) (fun i t=>t.1.length=3+i∧t.2.length=i) (fun i hi u hu=>by
  have hi':i<ips.length:=by simpa using hi
  have h64:=hw _ (jE hi');obtain⟨u1,u2⟩:=hu;rw[kA]
  refine⟨?_,by simp;omega⟩
  simp only[Xdh.B,Yv6 hi',Yv9 hi',Yv0,toNat_cast,getD_lt _ hi',Xak,Ylo,jZ (by omega:ips[i].2.1.length≤2147483648),jA,Yr5 (x:=2+(i:Int)) (by omega) (by omega),Yvf (by omega:i<4294967296),Xn1]
  rw[Xav (by simp;omega),Yv0,Xav (by simp;omega)];rfl) (fun u hu=>by
  rw[kJ]
  simp only[Xdh.B,Ywf (jB _),Yvy]) (t,[]) ⟨by simp[ht],rfl⟩
 have e:Xdh d f seq (ips.length:Int) ips a b c (0,t,[])=_:=h;rw[e,Xnk,jO,Xpf ips fun p=>p.1];rfl
def Xig (seq:Int) (ips dps:List Xj):List Xr:=
 dps.map toStep++([(true,0,[],()),(false,1,[1,seq,(ips.length:Int)]++ips.map fun p=>p.1,())]++(Xn5 ips++([(true,0,[],()),(false,(2:Int)+(ips.length:Int),[2,seq,(ips.length:Int)],()),(true,0,[],())]++(ips.map toStep++[(true,0,[],()),(false,0,[7,seq+1],()),(true,0,[],())]))))
def Xay (d:Xd) (f:Fs_) (seq:Int):List Xr:=cond (((Xq d (Xo f.1)).length:Int) == 0) [] (Xig seq (Xq d (Xo f.1)) (Xq d (Xy f)))
structure Xov (n:Nat) (B:Nat) (l:List Xj):Prop where
 len:l.length≤n
 wrd:∀ p∈l,p.2.1.length≤B
 plc:∀ p∈l,0≤p.1∧p.1<47
theorem Xov.changed {n B:Nat} {l:List Xj} (h:Xov n B l) (d:Xd):Xov n B (Xq d l) where
 len:=jU (List.length_filter_le _ _) h.len
 wrd p hp:=h.wrd p (List.mem_filter.1 hp).1
 plc p hp:=h.plc p (List.mem_filter.1 hp).1
theorem Xdd {l:List Xa} (h:X8 l=0):Xov 10 44 (Xo l) where
 len:=by simp[Xo]
 wrd:=Xks h
 plc p hp:=by
  obtain⟨i,hi,rfl⟩:=List.mem_map.1 hp;have:=List.mem_range.1 hi;simp only;omega
theorem Xit {f:Fs_} (ht:Xad f):Xov 20 8 (Xy f) where
 len:=by simp only[Xy,kP];exact Xk6 f.1
 wrd p hp:=by
  obtain⟨b,hb,rfl⟩:=List.mem_map.1 hp;have h1:=Xbp hb;have hd:=ht.dat;simp only[Xa3]
  rw[getD_lt _ (by omega:b.toNat<f.2.1.length)]
  exact ht.dl _ (jE _)
 plc p hp:=by
  obtain⟨b,hb,rfl⟩:=List.mem_map.1 hp;have h1:=Xbp hb;simp only[Xa3];omega
theorem Xp5 {d:Xd} {f:Fs_} (ht:Xad f) (seq:Int):(Xay d f seq).length≤58∧∀ p∈Xay d f seq,p.2.2.1.length≤64:=by
 have hi:=(Xdd ht.inod).changed d;have hp:=(Xit ht).changed d;unfold Xay;generalize Xq d (Xo f.1)=ips at hi ⊢;generalize Xq d (Xy f)=dps at hp ⊢;have l1:=hi.len;have l2:=hp.len
 cases ((ips.length:Int) == 0) with
 |true=>exact⟨kE _,fun p h=>by cases h⟩
 |false=>
  refine⟨by simp[Xig,Xn5];omega,fun p hp'=>?_⟩
  simp only[Yvy,Xig,List.mem_append,kS,List.mem_cons,List.not_mem_nil,or_false] at hp';rcases hp' with ⟨q,hq,rfl⟩ | (rfl | rfl) | hin | (rfl | rfl | rfl) | ⟨q,hq,rfl⟩ | (rfl | rfl | rfl)
  ·have:=hp.wrd q hq
   simp only[toStep];omega
  ·simp
  ·simp;omega
  ·obtain⟨k,hk,rfl⟩:=List.mem_map.1 hin
   have hk:=List.mem_range.1 hk;have:=hi.wrd _ (jE hk);simp only[Xn1,getD_lt _ hk];omega
  ·simp
  ·simp
  ·simp
  ·have:=hi.wrd q hq
   simp only[toStep];omega
  ·simp
  ·simp
  ·simp
theorem Xnl {d:Xd} {f:Fs_} (hok:Xae d) (h47:(d.1.length:Int)=47) (ht:Xad f) (hby:Xbb f) {seq:Int} (hs:1≤seq∧seq≤60000) :
  Xck d f seq=some (Xay d f seq)∧((Xey d)=some (seq,0)→seq≠60000→Xcq d f=some (Xay d f seq,0)):=by
 have hi0:=Xdd ht.inod;have hp0:=Xit ht;have hi:=hi0.changed d;have hp:=hp0.changed d
 have e1:=Xr9 hok (jU hi0.len (by omega)) (fun p h=>by have:=hi0.plc p h;omega) (fun p h=>jU (hi0.wrd p h) (by omega))
 have e2:=Xsj hok (jU hi0.len (by omega)) (fun p h=>by have:=hi0.plc p h;omega) (fun p h=>jU (hi0.wrd p h) (by omega))
 have e3:=Xr9 hok (jU hp0.len (by omega)) (fun p h=>by have:=hp0.plc p h;omega) (fun p h=>jU (hp0.wrd p h) (by omega))
 have e4:=Xsj hok (jU hp0.len (by omega)) (fun p h=>by have:=hp0.plc p h;omega) (fun p h=>jU (hp0.wrd p h) (by omega))
 unfold Xay;refine⟨?_,fun hq hne=>?_⟩
 ·simp only[Xck,Xux f ht.inod,jA,e1,Xus f ht hby,e3]
  generalize Xq d (Xo f.1)=ips at hi ⊢;generalize Xq d (Xy f)=dps at hp ⊢;have l1:=hi.len;have l2:=hp.len
  cases ((ips.length:Int) == 0) with
  |true=>rfl
  |false=>
   simp only[Yvy,Xsg (l:=dps) (by omega) (fun p h=>jU (hp.wrd p h) (by omega)),Xsg (l:=ips) (by omega) (fun p h=>jU (hi.wrd p h) (by omega)),jA]
   rw[Xav (by simp;omega)]
   simp only[Yv0,Xvq seq _ _ (by omega:ips.length≤60) [1,seq,(ips.length:Int)] rfl,jA]
   rw[Xav (by simp;omega)]
   simp only[Yv0]
   rw[Xuw seq _ (by omega:ips.length≤60) (fun p h=>jU (hi.wrd p h) (by omega)) _ (by simp;omega)]
   simp only[jA,Yr5 (x:=2+(ips.length:Int)) (by omega) (by omega)]
   rw[Xav (by simp[Xn5];omega)]
   simp only[Yv0]
   rw[Xav (by simp[Xn5];omega)]
   simp only[Yv0,Xld,Xgn (by omega : -9223372036854775808≤seq+1) (by omega),jA]
   rw[Xav (by simp[Xn5];omega)]
   simp only[Yv0,Xig,kO,jQ,jO]
 ·simp only[Xcq,hq,Xty f ht.inod,jA,e2,Xs1 f ht hby,e4,beq_eq_false_iff_ne.2 hne,Yvy,Xin,Xlh]
  generalize Xq d (Xo f.1)=ips at hi ⊢;generalize Xq d (Xy f)=dps at hp ⊢;have l1:=hi.len;have l2:=hp.len
  cases ((ips.length:Int) == 0) with
  |true=>rfl
  |false=>
   simp only[Yvy,Xtw d f seq _ _ _ (by omega:ips.length≤60) (fun p h=>jU (hi.wrd p h) (by omega)) [1,seq,(ips.length:Int)] rfl,jA,Xha,Xi9 (l:=dps) (by omega) (fun p h=>jU (hp.wrd p h) (by omega)),Xi9 (l:=ips) (by omega) (fun p h=>jU (hi.wrd p h) (by omega)),Yr5 (x:=2+(ips.length:Int)) (by omega) (by omega),Xgn (by omega : -9223372036854775808≤seq+1) (by omega),Xmk,Yhr,List.flatten_cons,List.flatten_nil,qC]
   rw[show ∀ (l:List (List Xr)) (k:List Xr),l.length≤1048576→k.length≤1048576→(decide (l.length≤1048576)&&decide (k.length≤1048576))=true from fun l k h1 h2=>by simp[h1,h2]]
   ·simp only[Yv0,jA,Xig]
   ·simp
   ·simp[Xn5];omega
theorem Xua (d:Xd) (f:Fs_) (hb:Bd Xk f) (hby:Xbb f):Xj8 d f=some (cond ((Xam d).2 != 0) ((Xam d).2,[],()) (cond (fsF f != 0) (fsF f,[],()) (cond ((Xam d).1 == 60000) (8,[],()) (0,Xay d f (Xam d).1,())))):=by
 simp only[Xj8,Xq5,Xps f hb,jA]
 cases h:((Xam d).2 != 0) with
 |true=>rfl
 |false=>
  have h0:(Xam d).2=0:=by simpa using h
  obtain⟨hok,h47⟩:=Xj9 h0;have hr:=Xjf h0;simp only[Yvy]
  cases h1:(fsF f != 0) with
  |true=>rfl
  |false=>
   have ht:=(Xhv.of (by simpa using h1:fsF f=0)).tree
   have e60:decide ((Xam d).1≥60000)=((Xam d).1 == 60000):=by
    by_cases e:(Xam d).1=60000
    ·rw[e];rfl
    ·rw[beq_eq_false_iff_ne.2 e];simp;omega
   simp only[Yvy,e60,(Xnl hok h47 ht hby hr).1,jA]
   cases ((Xam d).1 == 60000)<;>rfl
theorem Xtu {d:Xd} {f:Fs_} (h0:(Xam d).2=0) (ht:Xad f) (hby:Xbb f):Xcq d f=some (cond ((Xam d).1 == 60000) ([],8) (Xay d f (Xam d).1,0)):=by
 obtain⟨hok,h47⟩:=Xj9 h0;have hr:=Xjf h0
 cases h:((Xam d).1 == 60000) with
 |true=>simp only[Xcq,Xqx,jA,h,Yv0]
 |false=>
  exact(Xnl hok h47 ht hby hr).2 (by rw[Xqx];exact congrArg some (Prod.ext rfl h0)) (by simpa using h)
def W16 (w:List Int):Prop:=∀ x∈w,0≤x∧x≤65535
theorem Xrj {y:Xa} (h:Xih y=0):(0≤y.2.1∧y.2.1≤65535)∧0≤y.2.2.1∧y.2.2.1≤65535:=by
 unfold Xih at h
 cases h1:inR y.2.1 1 60 with
 |false=>rw[h1] at h;cases h
 |true=>
  rw[h1] at h
  cases h2:inR y.2.2.1 0 32 with
  |false=>rw[h2] at h;cases h
  |true=>
   have a:=X9.1 h1;have b:=X9.1 h2;omega
theorem Xqy {y:Xa} (h:Xx y=0):W16 (Xab y):=by
 have hs:=Xaf.of h;have hf:=Xa0 h;have hd:=Xbe h
 have hent:∀ v∈y.2.2.2.2.1.flatMap Xal,0≤v∧v≤65535:=fun v hv=>by
  obtain⟨e,he,hv⟩:=List.mem_flatMap.1 hv;have h1:=(hd.2.2.2.2.2 e he).2;have h2:=hs.nam e he;simp only[Xal,List.mem_append,List.mem_cons,List.not_mem_nil,or_false,kS] at hv;rcases hv with (rfl | rfl) | ⟨b,_,rfl⟩
  ·omega
  ·omega
  ·have:=b.toNat_lt;omega
 have hhd:(0≤y.2.1∧y.2.1≤65535)∧0≤y.2.2.1∧y.2.2.1≤65535:=by
  by_cases h1:y.1=1
  ·have hz:=hf.2.2.2 h1
   exact Xrj hz
  ·obtain⟨e1,e2⟩:=hd.2.2.2.2.1 h1
   rw[e1,e2];omega
 have hbase:∀ v∈[y.1,y.2.1,y.2.2.1]++y.2.2.2.1,0≤v∧v≤65535:=fun v hv=>by
  simp only[List.mem_append,List.mem_cons,List.not_mem_nil,or_false] at hv;rcases hv with (rfl | rfl | rfl) | hv
  ·omega
  ·exact hhd.1
  ·exact hhd.2
  ·have:=hf.2.1 v hv;omega
 intro v hv;unfold Xab at hv
 cases hc:(y.1 != 2) with
 |true=>rw[hc,Yv0] at hv;exact hbase v hv
 |false=>
  rw[hc,Yvy] at hv;rcases List.mem_append.1 hv with hv | hv
  ·rcases List.mem_append.1 hv with hv | hv
   ·exact hbase v hv
   ·simp only[List.mem_singleton] at hv
    have:=hs.ent;omega
  ·exact hent v hv
theorem Xp6 {l:List Xa} (h:X8 l=0):∀ p∈Xo l,W16 p.2.1:=by
 intro p hp;obtain⟨i,hi,rfl⟩:=List.mem_map.1 hp;simp only
 by_cases h2:i<l.length
 ·rw[show decide (i<l.length)=true by simp[h2],getD_lt _ h2]
  exact Xqy ((X4 h).2 _ (jE h2))
 ·rw[show decide (i<l.length)=false by simp;omega]
  intro x hx;cases hx
theorem Xq7 {f:Fs_} (ht:Xad f) (hby:Xbb f):∀ p∈Xy f,W16 p.2.1:=by
 intro p hp;obtain⟨b,hb,rfl⟩:=List.mem_map.1 hp;have h1:=Xbp hb;have hd:=ht.dat;simp only[Xa3]
 rw[getD_lt _ (by omega:b.toNat<f.2.1.length)]
 intro x hx;have:=hby _ (jE _) x hx;omega
theorem Xon {p:Xj} (h0:0≤p.1∧p.1<47) (h1:p.2.1.length≤64) (h2:W16 p.2.1):Xbg (toStep p)=0:=by
 unfold Xbg toStep;simp only[Yvy]
 rw[X9.2 (by omega:(0:Int)≤p.1∧p.1≤46)]
 exact Xlt h1 h2
theorem step_ok {a:Int} {w:List Int} (h0:0≤a∧a<47) (h1:w.length≤64) (h2:W16 w):Xbg (false,a,w,())=0:=by
 unfold Xbg;simp only[Yvy]
 rw[X9.2 (by omega:(0:Int)≤a∧a≤46)]
 exact Xlt h1 h2
theorem Xmr {d:Xd} {f:Fs_} (ht:Xad f) (hby:Xbb f) {seq:Int} (hs:1≤seq∧seq≤60000):∀ x∈Xay d f seq,Xbg x=0:=by
 have hi:=(Xdd ht.inod).changed d;have hp:=(Xit ht).changed d;have wi:∀ p∈Xq d (Xo f.1),W16 p.2.1:=fun p hp=>Xp6 ht.inod p (List.mem_filter.1 hp).1;have wp:∀ p∈Xq d (Xy f),W16 p.2.1:=fun p hp=>Xq7 ht hby p (List.mem_filter.1 hp).1;unfold Xay;generalize Xq d (Xo f.1)=ips at hi wi ⊢;generalize Xq d (Xy f)=dps at hp wp ⊢;have l1:=hi.len;have l2:=hp.len
 have hflush:Xbg (true,0,[],())=0:=by decide
 cases ((ips.length:Int) == 0) with
 |true=>intro x h;cases h
 |false=>
  intro x hx;simp only[Yvy,Xig,List.mem_append,kS,List.mem_cons,List.not_mem_nil,or_false] at hx;rcases hx with ⟨q,hq,rfl⟩ | (rfl | rfl) | hin | (rfl | rfl | rfl) | ⟨q,hq,rfl⟩ | (rfl | rfl | rfl)
  ·exact Xon (hp.plc q hq) (jU (hp.wrd q hq) (by omega)) (wp q hq)
  ·exact hflush
  ·refine step_ok (by omega) (by simp;omega) fun y hy=>?_
   simp only[List.mem_append,List.mem_cons,List.not_mem_nil,or_false,kS] at hy;rcases hy with (rfl | rfl | rfl) | ⟨q,hq,rfl⟩
   ·omega
   ·omega
   ·omega
   ·have:=hi.plc q hq;omega
  ·obtain⟨k,hk,rfl⟩:=List.mem_map.1 hin
   have hk:=List.mem_range.1 hk;simp only[Xn1,getD_lt _ hk]
   exact step_ok (by omega) (jU (hi.wrd _ (jE hk)) (by omega)) (wi _ (jE hk))
  ·exact hflush
  ·refine step_ok (by omega) (by simp) fun y hy=>?_
   simp only[List.mem_cons,List.not_mem_nil,or_false] at hy
   rcases hy with rfl | rfl | rfl<;>omega
  ·exact hflush
  ·exact Xon (hi.plc q hq) (jU (hi.wrd q hq) (by omega)) (wi q hq)
  ·exact hflush
  ·refine step_ok (by omega) (by simp) fun y hy=>?_
   simp only[List.mem_cons,List.not_mem_nil,or_false] at hy
   rcases hy with rfl | rfl<;>omega
  ·exact hflush
theorem Xoy {bs:List (List Int)} {ps:List Xj} {a:Nat} (hb:a<bs.length) (hp:∀ p∈ps,0≤p.1):∀ k,k≤ps.length→(Yb0 bs ps (fun _=>true) k).getD a []=match Yfj ps (a:Int) k with | some j=>(ps.getD j (0,[],())).2.1 | none=>bs.getD a []
 |0,_=>rfl
 |k+1,hk=>by
  have hg:ps.getD k (0,[],())=ps[k]:=by simp[List.getD,show k<ps.length by omega]
  have h0:=hp _ (jE (show k<ps.length by omega))
  simp only[Yb0,if_true,Yfj,hg]
  by_cases e:ps[k].1=(a:Int)
  ·rw[jL e,e]
   have:a<(Yb0 bs ps (fun _=>true) k).length:=by rw[Xbs];exact hb
   simp only[List.getD,hg,kY];rw[List.getElem?_set_self this]
   simp[show k<ps.length by omega]
  ·rw[jM e,←Xoy hb hp k (by omega)]
   simp only[List.getD]
   rw[List.getElem?_set_ne (by omega)]
theorem X5.Xrk {d:Xd} (h:X5 d) {a:Nat} (ha:a<47):Xn (Xbr d) (a:Int)=Xn d (a:Int):=by
 have:=Xoy (bs:=d.1) (ps:=d.2.1) (a:=a) (by have:=h.l;omega) (fun p hp=>(h.ok.w2 p hp).1.1) d.2.1.length (jB _)
 show(Yb0 d.1 d.2.1 (fun _=>true) d.2.1.length).getD (a:Int).toNat []=Xn d (a:Int)
 rw[kY,this];unfold Xn;rw[kY]<;>rfl
theorem Xsq (d:Xd) (x:Xr) (a:Int):Xn (Xnz d x) a=if x.2.1=a then x.2.2.1 else Xn d a:=by
 unfold Xn Xnz
 have hl:(d.2.1++[((x.2.1,x.2.2.1,()):Xj)]).length=d.2.1.length+1:=by simp
 have hg:(d.2.1++[((x.2.1,x.2.2.1,()):Xj)]).getD d.2.1.length (0,[],())=(x.2.1,x.2.2.1,()):=by simp[List.getD]
 simp only[hl,Yfj,hg]
 by_cases e:x.2.1=a
 ·rw[jL e,jL e];simp only[hg]
 ·rw[jM e,jM e,Xiz _ _ _ _ (jB _)]
  cases h:Yfj d.2.1 a d.2.1.length with
  |none=>rfl
  |some j=>
   have:=Xiw h;simp only[List.getD];rw[List.getElem?_append_left this]
def blk (a:Int):List Xr→List Int→List Int
 |[],w=>w
 |x::l,w=>blk a l (if x.1=false∧x.2.1=a then x.2.2.1 else w)
theorem Xh6 (a:Int):∀ (l k:List Xr) (w:List Int),blk a (l++k) w=blk a k (blk a l w)
 |[],k,w=>rfl
 |x::l,k,w=>by simp only[jQ,blk];exact Xh6 a l k _
theorem Xmg:∀ {l:List Xr} {d d':Xd},X5 d→(∀ x∈l,Xbg x=0)→Xhm l d=some d'→∀ {a:Nat},a<47→Xn d' (a:Int)=blk a l (Xn d (a:Int))
 |[],d,d',h,_,e,a,ha=>by cases e;rfl
 |x::l,d,d',h,hl,e,a,ha=>by
  simp only[Xhm] at e;have hl':=fun y hy=>hl y (jG x hy)
  cases hx:x.1 with
  |true=>
   rw[hx,Yv0] at e;rw[Xmg h.flush hl' e ha,h.Xrk ha];simp only[blk,hx]
   rfl
  |false=>
   rw[hx,Yvy] at e
   cases hn:((d.2.1.length:Int) == 200) with
   |true=>rw[hn] at e;cases e
   |false=>
    rw[hn,Yvy] at e
    rw[Xmg (h.put (hl x jF) hx (fun e'=>by rw[e'] at hn;cases hn)) hl' e ha,Xsq]
    simp only[blk,hx,true_and]
theorem Xh4 (a:Int):∀ (l:List Xr) (w:List Int),(∀ x∈l,x.1=false→x.2.1≠a)→blk a l w=w
 |[],w,_=>rfl
 |x::l,w,h=>by
  simp only[blk];rw[jM (fun e=>h x jF e.1 e.2)];exact Xh4 a l w fun y hy=>h y (jG x hy)
theorem Xow (a:Int) (v:List Int):∀ (l:List Xj) (w:List Int),(∀ p∈l,p.1=a→p.2.1=v)→(w=v∨∃ p∈l,p.1=a)→blk a (l.map toStep) w=v
 |[],w,_,h=>by
  rcases h with h | ⟨p,hp,_⟩
  ·exact h
  ·cases hp
 |x::l,w,h,h1=>by
  simp only[jS,blk,toStep];refine Xow a v l _ (fun p hp=>h p (jG x hp)) ?_
  by_cases e:x.1=a
  ·rw[jL ⟨trivial,e⟩]
   exact .inl (h x jF e)
  ·rw[jM (fun e'=>e e'.2)]
   rcases h1 with h1 | ⟨p,hp,he⟩
   ·exact .inl h1
   ·rcases List.mem_cons.1 hp with rfl | hp
    ·exact absurd he e
    ·exact .inr ⟨p,hp,he⟩
def Xop (d:Xd) (l:List Xa):Prop:=∀ i:Nat,i<10→Xn d ((17+i:Nat):Int)=cond (decide (i<l.length)) (Xab (l.getD i Xb)) []
theorem Xrx (y:Xa):Xab y≠[]:=by
 unfold Xab
 cases (y.1 != 2)<;>simp
theorem Xm3 {d:Xd} {l:List Xa} (h:Xop d l) (hl:l.length≤10) (hin:∀ y∈l,Xx y=0):∀ (n k:Nat) (t:List Xa×Int),k+n=10→t.1=(l++List.replicate 10 Xb).take k→t.2=(min k l.length:Nat)→
  Xi3 (Xm6 d) (List.range' k n) t=some ((l++List.replicate 10 Xb).take 10,(l.length:Int))
 |0,k,t,hk,h1,h2=>by
  have:k=10:=by omega
  subst this;simp only[List.range'_zero,Xi3]
  rw[show t=(t.1,t.2) from rfl,h1,h2,Nat.min_eq_right hl]
 |n+1,k,t,hk,h1,h2=>by
  rw[List.range'_succ];simp only[Xi3,Xm6]
  have hb:=h k (by omega)
  rw[hb]
  have hkl:k<(l++List.replicate 10 Xb).length:=by simp;omega
  by_cases hlt:k<l.length
  ·rw[show decide (k<l.length)=true by simp[hlt],Yv0,getD_lt _ hlt]
   have hne:=Xrx l[k];rw[(Xfa hne).2 ⟨hin _ (jE hlt),rfl⟩];simp only
   refine Xm3 h hl hin n (k+1) _ (by omega) ?_ ?_
   ·simp only[h1]
    rw[List.take_succ_eq_append_getElem hkl,kW hlt]
   ·simp only
    rw[show decide (((Xab l[k]).length:Int)>0)=true by have:=List.length_pos_iff.2 hne;simp;omega,Yv0]
    congr 1;omega
  ·rw[show decide (k<l.length)=false by simp;omega,Yvy]
   rw[show Xbi []=some Xb by unfold Xbi;rw[jL rfl]]
   simp only
   refine Xm3 h hl hin n (k+1) _ (by omega) ?_ ?_
   ·simp only[h1]
    rw[List.take_succ_eq_append_getElem hkl,kX (by omega),List.getElem_replicate]
   ·simp only[kD]
    rw[show decide (((0:Nat):Int)>0)=false by decide,Yvy,h2]
    congr 1;omega
theorem Xrq {d:Xd} {l:List Xa} (h:Xop d l) (hl:l.length≤10) (hin:∀ y∈l,Xx y=0):∃ t,Xpc d=some t∧t.1.take t.2.toNat=l:=by
 refine⟨_,by unfold Xpc;rw[List.range_eq_range'];exact Xm3 h hl hin 10 0 ([],0) rfl (by simp) (by simp),?_⟩
 simp only[kY];rw[List.take_take,Nat.min_eq_left hl];simp
theorem Xn3 {d:Xd} (hd:X5 d) (hs:Xly d) {l:List Xa} (h:Xop d l) (hl:l.length≤10) (hin:∀ y∈l,Xx y=0):∃ c f,Xa9 d=some (c,f,())∧(c=0→f=(l,Xa6 d (X3 l),())):=by
 obtain⟨c,f,g,l1,l2,l3,_⟩:=Xnm hd hs;refine⟨c,f,l1,fun hc=>?_⟩;obtain⟨_,_,_,t,ht,hf⟩:=l3 hc;obtain⟨t',ht',e⟩:=Xrq h hl hin;rw[ht] at ht';cases ht';rw[hf,e]
theorem Xss {d:Xd} {f:Fs_} (hf:Xhv f) (hby:Xbb f) (h:∀ b:Nat,b<20→(b:Int)∈Xw f.1→Xn d (27+(b:Int))=f.2.1.getD b []):Xa6 d (X3 f.1)=f.2.1:=by
 have hd:=hf.tree.dat
 have hsz:∀ v:Nat,v<20→((f.2.1.getD v []).length:Int)=(X3 f.1).getD v 0:=fun v hv=>by
  have:=List.any_eq_false.1 hf.siz v (List.mem_range.2 hv)
  simpa using this
 apply List.ext_getElem (by simp[Xa6,hd])
 intro v h1 h2
 have hv:v<20:=by rw[hd] at h2;exact h2
 simp only[Xa6,kR,kA,Xgt];rw[←hsz v hv,kY,getD_lt _ h2]
 by_cases hm:(v:Int)∈Xw f.1
 ·rw[h v hv hm,getD_lt _ h2,List.take_length]
  have:=hby _ (jE h2);have e:=List.map_congr_left (f:=IntKind.u8.wrap) (g:=id) (l:=f.2.1[v]) (fun x hx=>Xr3 (this x hx).1 (this x hx).2);rw[e,List.map_id]
 ·have hz:(X3 f.1).getD v 0=0:=by
   unfold X3
   rw[Xj2,Xh3 _ _ _ (fun p hp e=>hm (by
    have hok:=Xau.of hf.tree.inod
    have hmem:p.1∈Xw f.1:=by rw[←Xf2];exact List.mem_map.2 ⟨p,hp,rfl⟩
    have:=hok.all.2 _ hmem
    rw[show(v:Int)=p.1 by omega];exact hmem))]
   rw[kT,List.getElem?_replicate];split<;>rfl
  have:=hsz v hv;rw[hz,getD_lt _ h2] at this
  have hn:f.2.1[v].length=0:=by omega
  rw[hn,List.take_zero,qB];exact(kL hn).symm
theorem Xll (d:Xd) {L:List Xj} {a:Int} {v:List Int} (h:∀ p∈L,p.1=a→p.2.1=v) (h1:∃ p∈L,p.1=a):blk a ((Xq d L).map toStep) (Xn d a)=v:=by
 obtain⟨p,hp,he⟩:=h1;refine Xow a v _ _ (fun q hq=>h q (List.mem_filter.1 hq).1) ?_
 cases hc:chg d p with
 |true=>exact .inr ⟨p,List.mem_filter.2 ⟨hp,hc⟩,he⟩
 |false=>
  left
  have:p.2.1=Xn d p.1:=by simpa [chg] using hc
  rw[←he,←this];exact h p hp he
theorem Xoz (a:Int) (l:List Xj) (w:List Int) (h:∀ p∈l,p.1≠a):blk a (l.map toStep) w=w:=
 Xh4 a _ w fun x hx _=>by
  obtain⟨p,hp,rfl⟩:=List.mem_map.1 hx;exact h p hp
theorem Xnf {l:List Xa}:∀ p∈Xo l,17≤p.1∧p.1≤26:=fun p hp=>by
 obtain⟨i,hi,rfl⟩:=List.mem_map.1 hp;have:=List.mem_range.1 hi;simp only;omega
theorem Xou {f:Fs_}:∀ p∈Xy f,27≤p.1∧p.1≤46:=fun p hp=>by
 obtain⟨b,hb,rfl⟩:=List.mem_map.1 hp;have:=Xbp hb;simp only[Xa3];omega
theorem Xoh (seq:Int) (ips dps:List Xj) (hl:ips.length≤10) {a:Int} (ha:17≤a) (w:List Int):blk a (Xig seq ips dps) w=blk a (ips.map toStep) (blk a (dps.map toStep) w):=by
 unfold Xig;rw[Xh6,Xh6,Xh6,Xh6,Xh6]
 rw[Xh4 a [(true,0,[],()),(false,0,[7,seq+1],()),(true,0,[],())] _ (fun x hx e=>by
  simp only[List.mem_cons,List.not_mem_nil,or_false] at hx
  rcases hx with rfl | rfl | rfl<;>simp only<;>omega)]
 rw[Xh4 a [(true,0,[],()),(false,(2:Int)+(ips.length:Int),[2,seq,(ips.length:Int)],()),(true,0,[],())] _ (fun x hx e=>by
  simp only[List.mem_cons,List.not_mem_nil,or_false] at hx
  rcases hx with rfl | rfl | rfl<;>simp only<;>omega)]
 rw[Xh4 a (Xn5 ips) _ (fun x hx e=>by
  obtain⟨k,hk,rfl⟩:=List.mem_map.1 hx;have:=List.mem_range.1 hk
  simp only[Xn1];omega)]
 rw[Xh4 a [(true,0,[],()),(false,1,[1,seq,(ips.length:Int)]++ips.map fun p=>p.1,())] _ (fun x hx e=>by
  simp only[List.mem_cons,List.not_mem_nil,or_false] at hx
  rcases hx with rfl | rfl<;>simp only<;>omega)]
theorem Xru {d d':Xd} {f:Fs_} (hd:X5 d) (hf:Xhv f) (hby:Xbb f) {seq:Int} (hs:1≤seq∧seq≤60000) (hch:(Xq d (Xo f.1)).length≠0) (hrun:Xhm (Xay d f seq) d=some d') :
  Xop d' f.1∧∀ b:Nat,b<20→(b:Int)∈Xw f.1→Xn d' (27+(b:Int))=f.2.1.getD b []:=by
 have hst:=Xmr (d:=d) hf.tree hby hs;have hi:=((Xdd hf.tree.inod).changed d).len
 have e:Xay d f seq=Xig seq (Xq d (Xo f.1)) (Xq d (Xy f)):=by
  unfold Xay
  rw[show(((Xq d (Xo f.1)).length:Int) == 0)=false by rw[beq_eq_false_iff_ne];omega,Yvy]
 constructor
 ·intro i hi'
  rw[Xmg hd hst hrun (by omega:17+i<47),e,Xoh _ _ _ hi (by omega)]
  rw[Xoz _ (Xq d (Xy f)) _ (fun p hp=>by have:=Xou p (List.mem_filter.1 hp).1;omega)]
  refine Xll d (fun p hp he=>?_) ⟨_,List.mem_map.2 ⟨i,List.mem_range.2 hi',rfl⟩,by simp⟩
  obtain⟨j,hj,rfl⟩:=List.mem_map.1 hp;simp only at he ⊢
  have:j=i:=by omega
  subst this;rfl
 ·intro b hb hm
  have hc:(27+(b:Int))=((27+b:Nat):Int):=by omega
  rw[hc,Xmg hd hst hrun (by omega:27+b<47),e,Xoh _ _ _ hi (by omega)]
  rw[Xoz _ (Xq d (Xo f.1)) _ (fun p hp=>by have:=Xnf p (List.mem_filter.1 hp).1;omega)]
  refine Xll d (fun p hp he=>?_) ⟨Xa3 f b,List.mem_map.2 ⟨b,?_,rfl⟩,by simp only[Xa3];omega⟩
  ·obtain⟨c,hc',rfl⟩:=List.mem_map.1 hp
   have hcb:=Xbp hc';simp only[Xa3] at he ⊢
   have:c=(b:Int):=by omega
   rw[this,kY]
  ·unfold Xa4
   exact List.mem_filter.2 ⟨(Xmh _).2 (by omega),List.contains_iff_mem.2 hm⟩
theorem Xri {x y:Xa} (h:Xfl x y=true):x.2.2.2.1=y.2.2.2.1:=by
 unfold Xfl at h
 cases h1:(cond (cond (x.1 == y.1) (x.2.1 == y.2.1) false) (x.2.2.1 == y.2.2.1) false) with
 |false=>rw[h1] at h;cases h
 |true=>
  rw[h1,Yv0] at h
  cases h2:(x.2.2.2.1 == y.2.2.2.1) with
  |false=>rw[h2] at h;cases h
  |true=>simpa using h2
theorem Xst {a b:List Int} (ha:∀ x∈a,0≤x∧x≤255) (hb:∀ x∈b,0≤x∧x≤255) (h:u8s a=u8s b):a=b:=by
 have hl:a.length=b.length:=by have:=congrArg List.length h;simpa [u8s] using this
 apply List.ext_getElem hl;intro i h1 h2
 have e:(u8s a)[i]'(by simpa [u8s] using h1)=(u8s b)[i]'(by simpa [u8s] using h2):=by simp only[h]
 simp only[u8s,kR] at e;have x1:=ha _ (jE h1);have x2:=hb _ (jE h2);have e2:=congrArg UInt8.toNat e;rw[UInt8.toNat_ofNat',UInt8.toNat_ofNat'] at e2;omega
theorem Xro {a b:Fs_} (h:Xce a b=true):a.1.length=b.1.length∧a.2.1.length=b.2.1.length∧(∀ i,i<a.1.length→Xfl (a.1.getD i Xb) (b.1.getD i Xb)=true)∧∀ i,i<a.2.1.length→u8s (a.2.1.getD i [])=u8s (b.2.1.getD i []):=by
 unfold Xce at h
 cases h1:(cond ((a.1.length:Int) != (b.1.length:Int)) true ((a.2.1.length:Int) != (b.2.1.length:Int))) with
 |true=>rw[h1] at h;cases h
 |false=>
  rw[h1,Yvy] at h
  cases h2:diI a.1 b.1 with
  |true=>rw[h2] at h;cases h
  |false=>
   rw[h2,Yvy] at h
   have h3:diD a.2.1 b.2.1=false:=by simpa using h
   have h4:((a.1.length:Int) != (b.1.length:Int))=false:=by
    cases hx:((a.1.length:Int) != (b.1.length:Int)) with
    |true=>rw[hx] at h1;cases h1
    |false=>rfl
   rw[h4,Yvy] at h1;refine⟨Xax h4,Xax h1,fun i hi=>?_,fun i hi=>?_⟩
   ·have:=List.any_eq_false.1 h2 i (List.mem_range.2 hi);simpa using this
   ·have:=List.any_eq_false.1 h3 i (List.mem_range.2 hi);simpa using this
theorem Xnn {d:Xd} {l:List Xa} (h:(Xq d (Xo l)).length=0):Xop d l:=by
 intro i hi;have hn:Xq d (Xo l)=[]:=kL h;have hm:((17:Int)+(i:Int),cond (decide (i<l.length)) (Xab (l.getD i Xb)) [],())∈Xo l:=List.mem_map.2 ⟨i,List.mem_range.2 hi,rfl⟩;have hc:=List.filter_eq_nil_iff.1 hn _ hm
 have:cond (decide (i<l.length)) (Xab (l.getD i Xb)) []=Xn d ((17:Int)+(i:Int)):=by simpa [chg] using hc
 rw[this];rfl
theorem Xp3 {a b:List Xa} (hl:a.length=b.length) (h:∀ i,i<a.length→Xfl (a.getD i Xb) (b.getD i Xb)=true):Xw a=Xw b:=by
 have:a.map (fun x=>x.2.2.2.1)=b.map (fun x=>x.2.2.2.1):=by
  apply List.ext_getElem (by simp[hl])
  intro i h1 h2
  have hi:i<a.length:=by simpa using h1
  have hi2:i<b.length:=by simpa using h2
  have:=Xri (h i hi);rw[getD_lt _ hi,getD_lt _ hi2] at this
  simpa using this
 unfold Xw;rw[List.flatMap_def,List.flatMap_def,this]
theorem Xp0 {w:X0} (hd:X5 w.1) (s0:(Xam w.1).2=0) (hf:Xhv w.2.1) (hk:Xhv w.2.2.1) (hby:Xbb w.2.1) (hbk:Xbb w.2.2.1) (hh:Xdm w=false) {g:Fs_} (hg:Xa9 w.1=some (0,g,())) (hs:Xce g w.2.2.1=true)
  (hch:(Xq w.1 (Xo w.2.1.1)).length=0):Xa6 w.1 (X3 w.2.1.1)=w.2.1.2.1:=by
 obtain⟨c,f,l1,l2⟩:=Xn3 hd (Xog s0) (Xnn hch) (Xau.of hf.tree.inod).len (X4 hf.tree.inod).2;rw[hg] at l1;cases l1;have l2:=l2 rfl;subst l2;obtain⟨q1,q2,q3,q4⟩:=Xro hs;have hall:Xw w.2.1.1=Xw w.2.2.1.1:=Xp3 q1 q3;have hd20:=hf.tree.dat;have hk20:=hk.tree.dat
 have hsz:∀ v:Nat,v<20→((w.2.1.2.1.getD v []).length:Int)=(X3 w.2.1.1).getD v 0:=fun v hv=>by
  have:=List.any_eq_false.1 hf.siz v (List.mem_range.2 hv)
  simpa using this
 have hwl:(Xa6 w.1 (X3 w.2.1.1)).length=20:=by simp[Xa6]
 apply List.ext_getElem (by rw[hwl,hd20])
 intro v h1 h2
 have hv:v<20:=by rw[hd20] at h2;exact h2
 by_cases hm:(v:Int)∈Xw w.2.1.1
 ·have e1:=q4 v (by rw[hwl];exact hv)
  simp only at e1;rw[getD_lt _ h1] at e1;have e2:=List.any_eq_false.1 hh (v:Int) ((Xaj _).mem_iff.2 hm);rw[List.contains_iff_mem.2 ((Xaj _).mem_iff.2 (hall▸hm)),Yv0,kY] at e2
  have e3:u8s (w.2.1.2.1.getD v [])=u8s (w.2.2.1.2.1.getD v []):=by simpa [Xpe] using e2
  rw[getD_lt _ h2] at e3;refine Xst (fun x hx=>?_) (fun x hx=>hby _ (jE h2) x hx) (e1.trans e3.symm);simp only[Xa6,kR,Xgt] at hx;obtain⟨y,hy,rfl⟩:=List.mem_map.1 hx;have:=Xmw hd.ok _ y (List.mem_of_mem_take hy);simp[IntKind.wrap,IntKind.bits,IntKind.signed];omega
 ·have hz:(X3 w.2.1.1).getD v 0=0:=by
   unfold X3
   rw[Xj2,Xh3 _ _ _ (fun p hp e=>hm (by
    have hok:=Xau.of hf.tree.inod
    have hmem:p.1∈Xw w.2.1.1:=by rw[←Xf2];exact List.mem_map.2 ⟨p,hp,rfl⟩
    have:=hok.all.2 _ hmem
    rw[show(v:Int)=p.1 by omega];exact hmem))]
   rw[kT,List.getElem?_replicate];split<;>rfl
  have:=hsz v hv;rw[hz,getD_lt _ h2] at this
  have hn:w.2.1.2.1[v].length=0:=by omega
  simp only[Xa6,kR,kA,Xgt];rw[hz,Int.toNat_zero,List.take_zero,qB];exact(kL hn).symm
theorem Xqd {d:Xd} {f:Fs_} (ht:Xad f) {seq:Int} (hs:1≤seq∧seq≤60000) (hne:seq≠60000):∀ x∈Xay d f seq,Xpm x:=by
 have wi:∀ p∈Xq d (Xo f.1),p.1≠0:=fun p hp=>by have:=Xnf p (List.mem_filter.1 hp).1;omega
 have wp:∀ p∈Xq d (Xy f),p.1≠0:=fun p hp=>by have:=Xou p (List.mem_filter.1 hp).1;omega
 unfold Xay;generalize Xq d (Xo f.1)=ips at wi ⊢;generalize Xq d (Xy f)=dps at wp ⊢
 cases ((ips.length:Int) == 0) with
 |true=>intro x h;cases h
 |false=>
  intro x hx;simp only[Yvy,Xig,List.mem_append,kS,List.mem_cons,List.not_mem_nil,or_false] at hx;rcases hx with ⟨q,hq,rfl⟩ | (rfl | rfl) | hin | (rfl | rfl | rfl) | ⟨q,hq,rfl⟩ | (rfl | rfl | rfl)
  ·exact .inr (.inl (wp q hq))
  ·exact .inl rfl
  ·exact .inr (.inl (by simp only;omega))
  ·obtain⟨k,hk,rfl⟩:=List.mem_map.1 hin
   exact .inr (.inl (by simp only[Xn1];omega))
  ·exact .inl rfl
  ·exact .inr (.inl (by simp only;omega))
  ·exact .inl rfl
  ·exact .inr (.inl (wi q hq))
  ·exact .inl rfl
  ·exact .inr (.inr ⟨seq+1,by omega,rfl⟩)
  ·exact .inl rfl
theorem SyncWorld.main (w:X0) (hf:Fit Xp w) (hw:wt Xp w≤1048576):∃ r,Xic w=some r∧Xhr w=some r∧wt Xt r≤2147483648:=by
 have small:∀ c:Int,wt Xt (c,(0,0,0,[],[],([],[],()),()),(([],[],()),([],[],()),([],[],()),()),())≤2147483648:=fun c=>by simp only[Yrd,Ykt,Yt2,Ys1];simp
 have hwt:wt Xp w=wt Xh w.1+(wt Xk w.2.1+(wt Xk w.2.2.1+0)):=rfl
 have ba:Bd Xk w.2.1:=Yo5 rfl (by omega)
 have bb:Bd Xk w.2.2.1:=Yo5 rfl (by omega)
 have hby:Xbb w.2.1:=Xnj hf.2.1;have hbk:Xbb w.2.2.1:=Xnj hf.2.2.1;obtain⟨r,h1,h2,h3⟩:=Xpd w ba bb;simp only[Xic,Xhr,h1,h2,jA]
 cases hr:(r != 0) with
 |true=>exact⟨_,rfl,rfl,small _⟩
 |false=>
  obtain⟨s0,f0,k0,p0,hh,g,hg,hsm⟩:=h3 (by simpa using hr)
  obtain⟨hok,h47⟩:=Xj9 s0
  have hd:X5 w.1:=⟨hok,by omega⟩
  have hsr:=Xjf s0;have hfo:=Xhv.of f0;have ht:=hfo.tree;simp only[Yvy,Xua w.1 w.2.1 ba hby,Xtu s0 ht hby,s0,f0,show((0:Int) != 0)=false from rfl,jA]
  cases h60:((Xam w.1).1 == 60000) with
  |true=>exact⟨_,rfl,rfl,small _⟩
  |false=>
   simp only[Yvy,show((0:Int) != 0)=false from rfl,Xvi hok,jA];have hl:=(Xp5 (d:=w.1) ht (Xam w.1).1).1;have hst:=Xmr (d:=w.1) ht hby hsr
   have e2:=Xrd (by omega) hst (Xay w.1 w.2.1 (Xam w.1).1).length 0 w.1 (by omega) hd
   rw[List.drop_zero] at e2
   rw[Xt2 hd (by omega) hst]
   simp only[Xhe,jA]
   cases hrun:Xhm (Xay w.1 w.2.1 (Xam w.1).1) w.1 with
   |none=>
    rw[hrun] at e2;obtain⟨dx,e2⟩:=e2;rw[show Xa8 (Xay w.1 w.2.1 (Xam w.1).1) ((Xay w.1 w.2.1 (Xam w.1).1).length:Int) (0,(w.1.1,w.1.2.1,w.1.2.2))=_ from e2]
    exact⟨_,rfl,rfl,small 2⟩
   |some d'=>
    rw[hrun] at e2;rw[show Xa8 (Xay w.1 w.2.1 (Xam w.1).1) ((Xay w.1 w.2.1 (Xam w.1).1).length:Int) (0,(w.1.1,w.1.2.1,w.1.2.2))=_ from e2];have h':=Xnw hd hst hrun
    have hsup:=Xm7 hd hst (Xqd (d:=w.1) ht hsr (by simpa using h60)) (Xog s0) hrun
    have hb1:FsB w.2.1:=⟨(Xau.of ht.inod).len,fun x hx=>Xaf.of ((X4 ht.inod).2 x hx),ht.dat,fun b hb=>jU (ht.dl b hb) (by omega)⟩
    have hload:∃ c f,Xa9 d'=some (c,f,())∧(c=0→f=w.2.1):=by
     by_cases hch:(Xq w.1 (Xo w.2.1.1)).length=0
     ·have e0:d'=w.1:=by
       have:Xay w.1 w.2.1 (Xam w.1).1=[]:=by unfold Xay;rw[hch];rfl
       rw[this] at hrun;exact(jN hrun).symm
      obtain⟨c,f,l1,l2⟩:=Xn3 hd (Xog s0) (Xnn hch) (Xau.of ht.inod).len (X4 ht.inod).2
      exact⟨c,f,e0▸l1,fun hc=>by rw[l2 hc,Xp0 hd s0 hfo (Xhv.of k0) hby hbk hh hg hsm hch]⟩
     ·obtain⟨a1,a2⟩:=Xru hd hfo hby hsr hch hrun
      obtain⟨c,f,l1,l2⟩:=Xn3 h' hsup a1 (Xau.of ht.inod).len (X4 ht.inod).2
      exact⟨c,f,l1,fun hc=>by rw[l2 hc,Xss hfo hby a2]⟩
    obtain⟨c,f,l1,l2⟩:=hload;simp only[jA,sel,show((0:Int) != 0)=false from rfl,Yvy,Xvc hb1,Xun _ ba,Xlj];rw[show Xa9 (d'.1,d'.2.1,d'.2.2)=_ from l1];have hwd:=Xrt h'.ok;have hwf:=hb1.wt;refine⟨(0,(0,0,0,[],[],([],[],()),()),(d',w.2.1,w.2.1,()),()),?_,rfl,?_⟩
    ·simp only[jA]
     cases hc:(c != 0) with
     |true=>rfl
     |false=>rw[l2 (by simpa using hc)];rfl
    ·simp only[Ykt,Yrd,Yt2,Ys1,qB,List.sum_nil] at hwd hwf ⊢
     omega
theorem SyncWorld.law (x:PT.Els (shs [Xp])) (hf:Yn1 [Xp] x) (hw:Ypc [Xp] x≤1048576):Xlw x.1=some true:=by
 simp only[Ypc] at hw;have hf0:Fit Xp x.1:=hf.1
 have hw0:wt Xp x.1≤1048576:=by omega
 clear hw hf;generalize x.1=a0 at hf0 hw0 ⊢;obtain⟨r,hr1,hr2,hr3⟩:=SyncWorld.main a0 hf0 hw0;obtain⟨r_0,⟨r_1_0,r_1_1,r_1_2,r_1_3,r_1_4,⟨r_1_5_0,r_1_5_1,⟨⟩⟩,⟨⟩⟩,⟨⟨r_2_0_0,r_2_0_1,⟨⟩⟩,⟨r_2_1_0,r_2_1_1,⟨⟩⟩,⟨r_2_2_0,r_2_2_1,⟨⟩⟩,⟨⟩⟩,⟨⟩⟩:=r;replace hr3:wt Xt (r_0,(r_1_0,r_1_1,r_1_2,r_1_3,r_1_4,(r_1_5_0,r_1_5_1,()),()),((r_2_0_0,r_2_0_1,()),(r_2_1_0,r_2_1_1,()),(r_2_2_0,r_2_2_1,()),()),())≤2147483648:=hr3;replace hr1:Xic a0=some (r_0,(r_1_0,r_1_1,r_1_2,r_1_3,r_1_4,(r_1_5_0,r_1_5_1,()),()),((r_2_0_0,r_2_0_1,()),(r_2_1_0,r_2_1_1,()),(r_2_2_0,r_2_2_1,()),()),()):=hr1;replace hr2:Xhr a0=some (r_0,(r_1_0,r_1_1,r_1_2,r_1_3,r_1_4,(r_1_5_0,r_1_5_1,()),()),((r_2_0_0,r_2_0_1,()),(r_2_1_0,r_2_1_1,()),(r_2_2_0,r_2_2_1,()),()),()):=hr2;have er:=Xuf (r_0,(r_1_0,r_1_1,r_1_2,r_1_3,r_1_4,(r_1_5_0,r_1_5_1,()),()),((r_2_0_0,r_2_0_1,()),(r_2_1_0,r_2_1_1,()),(r_2_2_0,r_2_2_1,()),()),()) hr3
 obtain⟨kr,y0,y1,y2,y3,y4,y5,y6,y7,y8,y9,l1,l2,hm,hh⟩:=Xtd r_0 r_1_0 r_1_1 r_1_2 r_1_3 r_1_4 r_1_5_0 r_1_5_1 r_2_0_0 r_2_0_1 r_2_1_0 r_2_1_1 r_2_2_0 r_2_2_1 1 (by omega) (by omega) hr3
 have to0:=Xuq a0 (by omega)
 have eq0:=Xsn a0 (by omega)
 obtain⟨k0,z0_0,z0_1,z0_2,z0_3,z0_4,z0_5,l0,u0,m0,_⟩:=Xtq a0.1.1 a0.1.2.1 a0.2.1.1 a0.2.1.2.1 a0.2.2.1.1 a0.2.2.1.2.1 1 (by omega) (by show _+((wt Xp a0:Nat):Int)≤_;omega) (by show wt Xp a0≤_;omega)
 have u0:k0≤1+((wt Xp a0:Nat):Int):=u0
 try simp only[Ywj] at m0
 have hsz:∀ g:Option Bool,g=some true→∀ b:Bool,cond b (some true) g=some true:=fun g h b=>by cases b<;>first | rfl | exact h
 simp only[Xlw]
 repeat' (first | with_reducible refine hsz _ ?_ _ | (rw[jA]) | (obtain⟨q,hq⟩:=Xvr a0 _ (by omega);rw[hq,jA];clear hq))
 simp only[er,hm,hh,to0,eq0,m0,hr1,hr2,Ywj,jA,jK,Yvy,Yv0,Yu2,Yuu,Yux,Yvv (by omega:0≤kr),Yvv (by omega:0≤k0)]
end Mf
