import Derived.Test.YthaonimonnheeaaGreatPlanSyncA
noncomputable section
namespace Mf
open Go
set_option linter.unusedVariables false
set_option linter.unusedSimpArgs false
set_option maxRecDepth 100000
theorem Xkt (a:(List Int)) (n:Int) (hw:wt (.sl (.int .i64)) a≤2147483648):∃ r,Zq0 a n=some r:=by
 simp only[Zq0]
 repeat' (first | with_reducible exact Ywn _ | with_reducible refine Yww (Ywn _) fun _=>?_ | with_reducible apply Yw3)
theorem Xm2 (a:(List (List Int))) (n:Int) (hw:wt (.sl (.sl (.int .i64))) a≤2147483648):∃ r,Zq2 a n=some r:=by
 have hw2:=hw;simp only[Yug,Yo6,Yw6,Yw0,Yrb,Ywr] at hw2
 have hl:a.length≤2147483648:=by have:=Yli (wt (.sl (.int .i64))) (fun x=>by simp only[Yug,Yo6,Yw6,Yw0,Yrb,Ywr];omega) a;omega
 have lp:∀ k,∃ r,Zq1 a (k,0)=some r:=fun k=>by
  refine Ys9 (f:=fun s=>Zq1.B a s.1 s.2) (fun(i:Nat) (k:Int)=>(k,(i:Int))) a.length (fun i k hi=>?_) (fun k=>?_) a.length 0 k (by omega)
  ·have hm:=Ys6 (wt (.sl (.int .i64))) a i hi
   have hb:inB (i:Int) a.length=true:=Yu7 (by omega) (by omega)
   simp only[Zq1.B,Yxm hi,hb,Yw4,toNat_cast,getD_lt _ hi,Yvo (by omega:i<4294967296)]
   repeat' (first | with_reducible exact Yxa _ | (with_reducible refine .inl ⟨_,rfl,?_⟩;exact⟨_,rfl⟩) | with_reducible refine Yvt (Xkt _ _ (by first | omega | (simp only[Yug,Yo6,Yw6,Yw0,Yrb,Ywr] at hm ⊢;omega))) fun _=>?_ | with_reducible refine Yvt (Ywn _) fun _=>?_ | with_reducible apply Yv2)
  ·refine⟨.inr k,?_⟩;simp only[Zq1.B,Yxe (Nat.le_refl _),Ywx]
 simp only[Zq2]
 repeat' (first | with_reducible exact Ywn _ | with_reducible refine Yww (lp _) fun o=>?_ | with_reducible refine Yww (Ywn _) fun _=>?_ | with_reducible apply Yw3 | (cases o<;>exact⟨_,rfl⟩))
theorem Xn1 (a:Xg) (n:Int) (hw:wt Xi a≤2147483648):∃ r,Zq3 a n=some r:=by
 simp only[Zq3]
 repeat' (first | with_reducible exact Ywn _ | with_reducible refine Yww (Xkt _ _ (by first | omega | (simp only[Yug,Yo6,Yw6,Yw0,Yrb,Ywr] at hw ⊢;omega))) fun _=>?_ | with_reducible refine Yww (Ywn _) fun _=>?_ | with_reducible apply Yw3)
theorem Xmt (a:(List Xg)) (n:Int) (hw:wt (.sl Xi) a≤2147483648):∃ r,Zq5 a n=some r:=by
 have hw2:=hw;simp only[Yug,Yo6,Yw6,Yw0,Yrb,Ywr] at hw2
 have hl:a.length≤2147483648:=by have:=Yli (wt Xi) (fun x=>by simp only[Yug,Yo6,Yw6,Yw0,Yrb,Ywr];omega) a;omega
 have lp:∀ k,∃ r,Zq4 a (k,0)=some r:=fun k=>by
  refine Ys9 (f:=fun s=>Zq4.B a s.1 s.2) (fun(i:Nat) (k:Int)=>(k,(i:Int))) a.length (fun i k hi=>?_) (fun k=>?_) a.length 0 k (by omega)
  ·have hm:=Ys6 (wt Xi) a i hi
   have hb:inB (i:Int) a.length=true:=Yu7 (by omega) (by omega)
   simp only[Zq4.B,Yxm hi,hb,Yw4,toNat_cast,getD_lt _ hi,Yvo (by omega:i<4294967296)]
   repeat' (first | with_reducible exact Yxa _ | (with_reducible refine .inl ⟨_,rfl,?_⟩;exact⟨_,rfl⟩) | with_reducible refine Yvt (Xn1 _ _ (by first | omega | (simp only[Yug,Yo6,Yw6,Yw0,Yrb,Ywr] at hm ⊢;omega))) fun _=>?_ | with_reducible refine Yvt (Ywn _) fun _=>?_ | with_reducible apply Yv2)
  ·refine⟨.inr k,?_⟩;simp only[Zq4.B,Yxe (Nat.le_refl _),Ywx]
 simp only[Zq5]
 repeat' (first | with_reducible exact Ywn _ | with_reducible refine Yww (lp _) fun o=>?_ | with_reducible refine Yww (Ywn _) fun _=>?_ | with_reducible apply Yw3 | (cases o<;>exact⟨_,rfl⟩))
theorem Xmc (a:Xk) (n:Int) (hw:wt Xj a≤2147483648):∃ r,Zq6 a n=some r:=by
 simp only[Zq6]
 repeat' (first | with_reducible exact Ywn _ | with_reducible refine Yww (Xm2 _ _ (by first | omega | (simp only[Yug,Yo6,Yw6,Yw0,Yrb,Ywr] at hw ⊢;omega))) fun _=>?_ | with_reducible refine Yww (Xmt _ _ (by first | omega | (simp only[Yug,Yo6,Yw6,Yw0,Yrb,Ywr] at hw ⊢;omega))) fun _=>?_ | with_reducible refine Yww (Ywn _) fun _=>?_ | with_reducible apply Yw3)
theorem Xmx (a:Xf) (n:Int) (hw:wt Xh a≤2147483648):∃ r,Zq7 a n=some r:=by
 simp only[Zq7]
 repeat' (first | with_reducible exact Ywn _ | with_reducible refine Yww (Ywn _) fun _=>?_ | with_reducible apply Yw3)
theorem Xnr (a:(List Xf)) (n:Int) (hw:wt (.sl Xh) a≤2147483648):∃ r,Zq9 a n=some r:=by
 have hw2:=hw;simp only[Yug,Yo6,Yw6,Yw0,Yrb,Ywr] at hw2
 have hl:a.length≤2147483648:=by have:=Yli (wt Xh) (fun x=>by simp only[Yug,Yo6,Yw6,Yw0,Yrb,Ywr];omega) a;omega
 have lp:∀ k,∃ r,Zq8 a (k,0)=some r:=fun k=>by
  refine Ys9 (f:=fun s=>Zq8.B a s.1 s.2) (fun(i:Nat) (k:Int)=>(k,(i:Int))) a.length (fun i k hi=>?_) (fun k=>?_) a.length 0 k (by omega)
  ·have hm:=Ys6 (wt Xh) a i hi
   have hb:inB (i:Int) a.length=true:=Yu7 (by omega) (by omega)
   simp only[Zq8.B,Yxm hi,hb,Yw4,toNat_cast,getD_lt _ hi,Yvo (by omega:i<4294967296)]
   repeat' (first | with_reducible exact Yxa _ | (with_reducible refine .inl ⟨_,rfl,?_⟩;exact⟨_,rfl⟩) | with_reducible refine Yvt (Xmx _ _ (by first | omega | (simp only[Yug,Yo6,Yw6,Yw0,Yrb,Ywr] at hm ⊢;omega))) fun _=>?_ | with_reducible refine Yvt (Ywn _) fun _=>?_ | with_reducible apply Yv2)
  ·refine⟨.inr k,?_⟩;simp only[Zq8.B,Yxe (Nat.le_refl _),Ywx]
 simp only[Zq9]
 repeat' (first | with_reducible exact Ywn _ | with_reducible refine Yww (lp _) fun o=>?_ | with_reducible refine Yww (Ywn _) fun _=>?_ | with_reducible apply Yw3 | (cases o<;>exact⟨_,rfl⟩))
theorem Xlt (a:Xa) (n:Int) (hw:wt Xc a≤2147483648):∃ r,Xiv a n=some r:=by
 simp only[Xiv]
 repeat' (first | with_reducible exact Ywn _ | with_reducible refine Yww (Xkt _ _ (by first | omega | (simp only[Yug,Yo6,Yw6,Yw0,Yrb,Ywr] at hw ⊢;omega))) fun _=>?_ | with_reducible refine Yww (Xnr _ _ (by first | omega | (simp only[Yug,Yo6,Yw6,Yw0,Yrb,Ywr] at hw ⊢;omega))) fun _=>?_ | with_reducible refine Yww (Ywn _) fun _=>?_ | with_reducible apply Yw3)
theorem Xlu (a:(List Xa)) (n:Int) (hw:wt (.sl Xc) a≤2147483648):∃ r,Xgf a n=some r:=by
 have hw2:=hw;simp only[Yug,Yo6,Yw6,Yw0,Yrb,Ywr] at hw2
 have hl:a.length≤2147483648:=by have:=Yli (wt Xc) (fun x=>by simp only[Yug,Yo6,Yw6,Yw0,Yrb,Ywr];omega) a;omega
 have lp:∀ k,∃ r,Xf9 a (k,0)=some r:=fun k=>by
  refine Ys9 (f:=fun s=>Xf9.B a s.1 s.2) (fun(i:Nat) (k:Int)=>(k,(i:Int))) a.length (fun i k hi=>?_) (fun k=>?_) a.length 0 k (by omega)
  ·have hm:=Ys6 (wt Xc) a i hi
   have hb:inB (i:Int) a.length=true:=Yu7 (by omega) (by omega)
   simp only[Xf9.B,Yxm hi,hb,Yw4,toNat_cast,getD_lt _ hi,Yvo (by omega:i<4294967296)]
   repeat' (first | with_reducible exact Yxa _ | (with_reducible refine .inl ⟨_,rfl,?_⟩;exact⟨_,rfl⟩) | with_reducible refine Yvt (Xlt _ _ (by first | omega | (simp only[Yug,Yo6,Yw6,Yw0,Yrb,Ywr] at hm ⊢;omega))) fun _=>?_ | with_reducible refine Yvt (Ywn _) fun _=>?_ | with_reducible apply Yv2)
  ·refine⟨.inr k,?_⟩;simp only[Xf9.B,Yxe (Nat.le_refl _),Ywx]
 simp only[Xgf]
 repeat' (first | with_reducible exact Ywn _ | with_reducible refine Yww (lp _) fun o=>?_ | with_reducible refine Yww (Ywn _) fun _=>?_ | with_reducible apply Yw3 | (cases o<;>exact⟨_,rfl⟩))
theorem Xmb (a:(List Int)) (n:Int) (hw:wt (.sl (.int .u8)) a≤2147483648):∃ r,Xi9 a n=some r:=by
 simp only[Xi9]
 repeat' (first | with_reducible exact Ywn _ | with_reducible refine Yww (Ywn _) fun _=>?_ | with_reducible apply Yw3)
theorem Xmm (a:(List (List Int))) (n:Int) (hw:wt (.sl (.sl (.int .u8))) a≤2147483648):∃ r,Xgn a n=some r:=by
 have hw2:=hw;simp only[Yug,Yo6,Yw6,Yw0,Yrb,Ywr] at hw2
 have hl:a.length≤2147483648:=by have:=Yli (wt (.sl (.int .u8))) (fun x=>by simp only[Yug,Yo6,Yw6,Yw0,Yrb,Ywr];omega) a;omega
 have lp:∀ k,∃ r,Xg5 a (k,0)=some r:=fun k=>by
  refine Ys9 (f:=fun s=>Xg5.B a s.1 s.2) (fun(i:Nat) (k:Int)=>(k,(i:Int))) a.length (fun i k hi=>?_) (fun k=>?_) a.length 0 k (by omega)
  ·have hm:=Ys6 (wt (.sl (.int .u8))) a i hi
   have hb:inB (i:Int) a.length=true:=Yu7 (by omega) (by omega)
   simp only[Xg5.B,Yxm hi,hb,Yw4,toNat_cast,getD_lt _ hi,Yvo (by omega:i<4294967296)]
   repeat' (first | with_reducible exact Yxa _ | (with_reducible refine .inl ⟨_,rfl,?_⟩;exact⟨_,rfl⟩) | with_reducible refine Yvt (Xmb _ _ (by first | omega | (simp only[Yug,Yo6,Yw6,Yw0,Yrb,Ywr] at hm ⊢;omega))) fun _=>?_ | with_reducible refine Yvt (Ywn _) fun _=>?_ | with_reducible apply Yv2)
  ·refine⟨.inr k,?_⟩;simp only[Xg5.B,Yxe (Nat.le_refl _),Ywx]
 simp only[Xgn]
 repeat' (first | with_reducible exact Ywn _ | with_reducible refine Yww (lp _) fun o=>?_ | with_reducible refine Yww (Ywn _) fun _=>?_ | with_reducible apply Yw3 | (cases o<;>exact⟨_,rfl⟩))
theorem Xnq (a:Fs_) (n:Int) (hw:wt Xn a≤2147483648):∃ r,Xje a n=some r:=by
 simp only[Xje]
 repeat' (first | with_reducible exact Ywn _ | with_reducible refine Yww (Xlu _ _ (by first | omega | (simp only[Yug,Yo6,Yw6,Yw0,Yrb,Ywr] at hw ⊢;omega))) fun _=>?_ | with_reducible refine Yww (Xmm _ _ (by first | omega | (simp only[Yug,Yo6,Yw6,Yw0,Yrb,Ywr] at hw ⊢;omega))) fun _=>?_ | with_reducible refine Yww (Ywn _) fun _=>?_ | with_reducible apply Yw3)
theorem Xk1 (a:(List Int)) (hw:wt (.sl (.int .i64)) a≤2147483648):Xev a=some a:=by
 have hw2:=hw;simp only[Yug,Yo6,Yw6,Yw0,Yrb,Ywr] at hw2
 have hl:a.length≤2147483648:=by have:=Yli (wt (.int .i64)) (fun x=>by simp only[Yug,Yo6,Yw6,Yw0,Yrb,Ywr];omega) a;omega
 have lp:Xgh a (0,List.replicate (a.length:Int).toNat 0)=some a:=by
  refine Yvy a (fun s=>Xgh.B a s.1 s.2) 0 (fun i hi out ho=>?_) (fun out ho=>?_)
  ·have hm:=Ys6 (wt (.int .i64)) a i hi
   have hb:inB (i:Int) a.length=true:=Yu7 (by omega) (by omega)
   have hc:inB (i:Int) out.length=true:=Yu7 (by omega) (by omega)
   simp only[Xgh.B,Yxm hi,hb,hc,Yw4,toNat_cast,getD_lt _ hi,Option.bind_some,Yxr,Yvo (by omega:i<4294967296)]
  ·simp only[Xgh.B];rw[show decide ((a.length:Int)<(a.length:Int))=false by simp];rfl
 simp only[Xev]
 rw[show(decide ((0:Int)≤(a.length:Int))&&(decide ((a.length:Int)≤(a.length:Int))&&decide ((a.length:Int)≤2147483648)))=true by simp;omega]
 simp only[Yw4,Option.bind_some,lp]
theorem Xn4 (a:(List (List Int))) (hw:wt (.sl (.sl (.int .i64))) a≤2147483648):Xf4 a=some a:=by
 have hw2:=hw;simp only[Yug,Yo6,Yw6,Yw0,Yrb,Ywr] at hw2
 have hl:a.length≤2147483648:=by have:=Yli (wt (.sl (.int .i64))) (fun x=>by simp only[Yug,Yo6,Yw6,Yw0,Yrb,Ywr];omega) a;omega
 have lp:Xgy a (0,List.replicate (a.length:Int).toNat ([]:List Int))=some a:=by
  refine Yvy a (fun s=>Xgy.B a s.1 s.2) [] (fun i hi out ho=>?_) (fun out ho=>?_)
  ·have hm:=Ys6 (wt (.sl (.int .i64))) a i hi
   have hb:inB (i:Int) a.length=true:=Yu7 (by omega) (by omega)
   have hc:inB (i:Int) out.length=true:=Yu7 (by omega) (by omega)
   have h0:=Xk1 a[i] (by omega)
   simp only[Xgy.B,Yxm hi,hb,hc,Yw4,toNat_cast,getD_lt _ hi,h0,Option.bind_some,Yxr,Yvo (by omega:i<4294967296)]
  ·simp only[Xgy.B];rw[show decide ((a.length:Int)<(a.length:Int))=false by simp];rfl
 simp only[Xf4]
 rw[show(decide ((0:Int)≤(a.length:Int))&&(decide ((a.length:Int)≤(a.length:Int))&&decide ((a.length:Int)≤2147483648)))=true by simp;omega]
 simp only[Yw4,Option.bind_some,lp]
theorem Xn9 (a:Xg) (hw:wt Xi a≤2147483648):Xiy a=some a:=by
 obtain⟨x0,x1,⟨⟩⟩:=a;simp only[Yug,Yo6,Yw6,Yw0,Yrb,Ywr] at hw
 have h_x1_0:=Xk1 x1 (by simp only[Yug,Yo6,Yw6,Yw0,Yrb,Ywr];omega)
 simp only[Xiy,h_x1_0,Option.bind_some,Yxr]
theorem Xl6 (a:(List Xg)) (hw:wt (.sl Xi) a≤2147483648):Xgc a=some a:=by
 have hw2:=hw;simp only[Yug,Yo6,Yw6,Yw0,Yrb,Ywr] at hw2
 have hl:a.length≤2147483648:=by have:=Yli (wt Xi) (fun x=>by simp only[Yug,Yo6,Yw6,Yw0,Yrb,Ywr];omega) a;omega
 have lp:Xgx a (0,List.replicate (a.length:Int).toNat Xq)=some a:=by
  refine Yvy a (fun s=>Xgx.B a s.1 s.2) Xq (fun i hi out ho=>?_) (fun out ho=>?_)
  ·have hm:=Ys6 (wt Xi) a i hi
   have hb:inB (i:Int) a.length=true:=Yu7 (by omega) (by omega)
   have hc:inB (i:Int) out.length=true:=Yu7 (by omega) (by omega)
   have h0:=Xn9 a[i] (by omega)
   simp only[Xgx.B,Yxm hi,hb,hc,Yw4,toNat_cast,getD_lt _ hi,h0,Option.bind_some,Yxr,Yvo (by omega:i<4294967296)]
  ·simp only[Xgx.B];rw[show decide ((a.length:Int)<(a.length:Int))=false by simp];rfl
 simp only[Xgc]
 rw[show(decide ((0:Int)≤(a.length:Int))&&(decide ((a.length:Int)≤(a.length:Int))&&decide ((a.length:Int)≤2147483648)))=true by simp;omega]
 simp only[Yw4,Option.bind_some,lp]
theorem Xon (a:Xk) (hw:wt Xj a≤2147483648):Xhy a=some a:=by
 obtain⟨x0,x1,⟨⟩⟩:=a;simp only[Yug,Yo6,Yw6,Yw0,Yrb,Ywr] at hw
 have h_x0_0:=Xn4 x0 (by simp only[Yug,Yo6,Yw6,Yw0,Yrb,Ywr];omega)
 have h_x1_1:=Xl6 x1 (by simp only[Yug,Yo6,Yw6,Yw0,Yrb,Ywr];omega)
 simp only[Xhy,h_x0_0,h_x1_1,Option.bind_some,Yxr]
theorem Xny (a:Xf) (hw:wt Xh a≤2147483648):Xjg a=some a:=by
 obtain⟨x0,x1,⟨⟩⟩:=a;simp only[Yug,Yo6,Yw6,Yw0,Yrb,Ywr] at hw;simp only[Xjg,Option.bind_some,Yxr]
theorem Xoe (a:(List Xf)) (hw:wt (.sl Xh) a≤2147483648):Xg1 a=some a:=by
 have hw2:=hw;simp only[Yug,Yo6,Yw6,Yw0,Yrb,Ywr] at hw2
 have hl:a.length≤2147483648:=by have:=Yli (wt Xh) (fun x=>by simp only[Yug,Yo6,Yw6,Yw0,Yrb,Ywr];omega) a;omega
 have lp:Xgs a (0,List.replicate (a.length:Int).toNat Xo)=some a:=by
  refine Yvy a (fun s=>Xgs.B a s.1 s.2) Xo (fun i hi out ho=>?_) (fun out ho=>?_)
  ·have hm:=Ys6 (wt Xh) a i hi
   have hb:inB (i:Int) a.length=true:=Yu7 (by omega) (by omega)
   have hc:inB (i:Int) out.length=true:=Yu7 (by omega) (by omega)
   have h0:=Xny a[i] (by omega)
   simp only[Xgs.B,Yxm hi,hb,hc,Yw4,toNat_cast,getD_lt _ hi,h0,Option.bind_some,Yxr,Yvo (by omega:i<4294967296)]
  ·simp only[Xgs.B];rw[show decide ((a.length:Int)<(a.length:Int))=false by simp];rfl
 simp only[Xg1]
 rw[show(decide ((0:Int)≤(a.length:Int))&&(decide ((a.length:Int)≤(a.length:Int))&&decide ((a.length:Int)≤2147483648)))=true by simp;omega]
 simp only[Yw4,Option.bind_some,lp]
theorem Xly (a:Xa) (hw:wt Xc a≤2147483648):Xjc a=some a:=by
 obtain⟨x0,x1,x2,x3,x4,⟨⟩⟩:=a;simp only[Yug,Yo6,Yw6,Yw0,Yrb,Ywr] at hw
 have h_x3_0:=Xk1 x3 (by simp only[Yug,Yo6,Yw6,Yw0,Yrb,Ywr];omega)
 have h_x4_1:=Xoe x4 (by simp only[Yug,Yo6,Yw6,Yw0,Yrb,Ywr];omega)
 simp only[Xjc,h_x3_0,h_x4_1,Option.bind_some,Yxr]
theorem Xnz (a:(List Xa)) (hw:wt (.sl Xc) a≤2147483648):Xgz a=some a:=by
 have hw2:=hw;simp only[Yug,Yo6,Yw6,Yw0,Yrb,Ywr] at hw2
 have hl:a.length≤2147483648:=by have:=Yli (wt Xc) (fun x=>by simp only[Yug,Yo6,Yw6,Yw0,Yrb,Ywr];omega) a;omega
 have lp:Xf6 a (0,List.replicate (a.length:Int).toNat Xb)=some a:=by
  refine Yvy a (fun s=>Xf6.B a s.1 s.2) Xb (fun i hi out ho=>?_) (fun out ho=>?_)
  ·have hm:=Ys6 (wt Xc) a i hi
   have hb:inB (i:Int) a.length=true:=Yu7 (by omega) (by omega)
   have hc:inB (i:Int) out.length=true:=Yu7 (by omega) (by omega)
   have h0:=Xly a[i] (by omega)
   simp only[Xf6.B,Yxm hi,hb,hc,Yw4,toNat_cast,getD_lt _ hi,h0,Option.bind_some,Yxr,Yvo (by omega:i<4294967296)]
  ·simp only[Xf6.B];rw[show decide ((a.length:Int)<(a.length:Int))=false by simp];rfl
 simp only[Xgz]
 rw[show(decide ((0:Int)≤(a.length:Int))&&(decide ((a.length:Int)≤(a.length:Int))&&decide ((a.length:Int)≤2147483648)))=true by simp;omega]
 simp only[Yw4,Option.bind_some,lp]
theorem Xm0 (a:(List Int)) (hw:wt (.sl (.int .u8)) a≤2147483648):Xiu a=some a:=by
 have hw2:=hw;simp only[Yug,Yo6,Yw6,Yw0,Yrb,Ywr] at hw2
 have hl:a.length≤2147483648:=by have:=Yli (wt (.int .u8)) (fun x=>by simp only[Yug,Yo6,Yw6,Yw0,Yrb,Ywr];omega) a;omega
 have lp:Xga a (0,List.replicate (a.length:Int).toNat 0)=some a:=by
  refine Yvy a (fun s=>Xga.B a s.1 s.2) 0 (fun i hi out ho=>?_) (fun out ho=>?_)
  ·have hm:=Ys6 (wt (.int .u8)) a i hi
   have hb:inB (i:Int) a.length=true:=Yu7 (by omega) (by omega)
   have hc:inB (i:Int) out.length=true:=Yu7 (by omega) (by omega)
   simp only[Xga.B,Yxm hi,hb,hc,Yw4,toNat_cast,getD_lt _ hi,Option.bind_some,Yxr,Yvo (by omega:i<4294967296)]
  ·simp only[Xga.B];rw[show decide ((a.length:Int)<(a.length:Int))=false by simp];rfl
 simp only[Xiu]
 rw[show(decide ((0:Int)≤(a.length:Int))&&(decide ((a.length:Int)≤(a.length:Int))&&decide ((a.length:Int)≤2147483648)))=true by simp;omega]
 simp only[Yw4,Option.bind_some,lp]
theorem Xlw (a:(List (List Int))) (hw:wt (.sl (.sl (.int .u8))) a≤2147483648):Xf5 a=some a:=by
 have hw2:=hw;simp only[Yug,Yo6,Yw6,Yw0,Yrb,Ywr] at hw2
 have hl:a.length≤2147483648:=by have:=Yli (wt (.sl (.int .u8))) (fun x=>by simp only[Yug,Yo6,Yw6,Yw0,Yrb,Ywr];omega) a;omega
 have lp:Xgw a (0,List.replicate (a.length:Int).toNat ([]:List Int))=some a:=by
  refine Yvy a (fun s=>Xgw.B a s.1 s.2) [] (fun i hi out ho=>?_) (fun out ho=>?_)
  ·have hm:=Ys6 (wt (.sl (.int .u8))) a i hi
   have hb:inB (i:Int) a.length=true:=Yu7 (by omega) (by omega)
   have hc:inB (i:Int) out.length=true:=Yu7 (by omega) (by omega)
   have h0:=Xm0 a[i] (by omega)
   simp only[Xgw.B,Yxm hi,hb,hc,Yw4,toNat_cast,getD_lt _ hi,h0,Option.bind_some,Yxr,Yvo (by omega:i<4294967296)]
  ·simp only[Xgw.B];rw[show decide ((a.length:Int)<(a.length:Int))=false by simp];rfl
 simp only[Xf5]
 rw[show(decide ((0:Int)≤(a.length:Int))&&(decide ((a.length:Int)≤(a.length:Int))&&decide ((a.length:Int)≤2147483648)))=true by simp;omega]
 simp only[Yw4,Option.bind_some,lp]
theorem Xn6 (a:Fs_) (hw:wt Xn a≤2147483648):Xhu a=some a:=by
 obtain⟨x0,x1,⟨⟩⟩:=a;simp only[Yug,Yo6,Yw6,Yw0,Yrb,Ywr] at hw
 have h_x0_0:=Xnz x0 (by simp only[Yug,Yo6,Yw6,Yw0,Yrb,Ywr];omega)
 have h_x1_1:=Xlw x1 (by simp only[Yug,Yo6,Yw6,Yw0,Yrb,Ywr];omega)
 simp only[Xhu,h_x0_0,h_x1_1,Option.bind_some,Yxr]
theorem Xka (a:(List Int)) (hw:wt (.sl (.int .i64)) a≤2147483648):Xag a a=some true:=by
 have hw2:=hw;simp only[Yug,Yo6,Yw6,Yw0,Yrb,Ywr] at hw2
 have hl:a.length≤2147483648:=by have:=Yli (wt (.int .i64)) (fun x=>by simp only[Yug,Yo6,Yw6,Yw0,Yrb,Ywr];omega) a;omega
 have lp:Xco a a 0=some (.inr ()):=by
  refine Ywf (n:=a.length) (fun s=>Xco.B a a s) (fun i hi=>?_) ?_
  ·have hm:=Ys6 (wt (.int .i64)) a i hi
   have hb:inB (i:Int) a.length=true:=Yu7 (by omega) (by omega)
   simp only[Xco.B,Yxm hi,hb,Yw4,Ywx,toNat_cast,getD_lt _ hi,Option.bind_some,Bool.not_true,Yvn,Yvi,Yvk,Yvo (by omega:i<4294967296)]
  ·simp only[Xco.B,Yxe (Nat.le_refl _),Ywx]
 simp only[Xag,Yvn,Ywx,lp,Option.bind_some,sel]
theorem Xlv (a:Xl) (hw:wt Xp a≤2147483648):Xe1 a a=some true:=by
 obtain⟨x0,x1,x2,⟨⟩⟩:=a;simp only[Yug,Yo6,Yw6,Yw0,Yrb,Ywr] at hw
 have h_x2_0:=Xka x2 (by simp only[Yug,Yo6,Yw6,Yw0,Yrb,Ywr];omega)
 simp only[Xe1,h_x2_0,Option.bind_some,Bool.not_true,Yvn,Yvi,Yvk,Ywx,Yw4]
theorem Xnv (a:(List Xl)) (hw:wt (.sl Xp) a≤2147483648):Xb5 a a=some true:=by
 have hw2:=hw;simp only[Yug,Yo6,Yw6,Yw0,Yrb,Ywr] at hw2
 have hl:a.length≤2147483648:=by have:=Yli (wt Xp) (fun x=>by simp only[Yug,Yo6,Yw6,Yw0,Yrb,Ywr];omega) a;omega
 have lp:Xby a a 0=some (.inr ()):=by
  refine Ywf (n:=a.length) (fun s=>Xby.B a a s) (fun i hi=>?_) ?_
  ·have hm:=Ys6 (wt Xp) a i hi
   have hb:inB (i:Int) a.length=true:=Yu7 (by omega) (by omega)
   have h0:=Xlv a[i] (by omega)
   simp only[Xby.B,Yxm hi,hb,Yw4,Ywx,toNat_cast,getD_lt _ hi,h0,Option.bind_some,Bool.not_true,Yvn,Yvi,Yvk,Yvo (by omega:i<4294967296)]
  ·simp only[Xby.B,Yxe (Nat.le_refl _),Ywx]
 simp only[Xb5,Yvn,Ywx,lp,Option.bind_some,sel]
theorem Xnm (a:Xv) (hw:wt Xm a≤2147483648):Xdv a a=some true:=by
 obtain⟨x0,x1,⟨⟩⟩:=a;simp only[Yug,Yo6,Yw6,Yw0,Yrb,Ywr] at hw
 have h_x1_0:=Xnv x1 (by simp only[Yug,Yo6,Yw6,Yw0,Yrb,Ywr];omega)
 simp only[Xdv,h_x1_0,Option.bind_some,Bool.not_true,Yvn,Yvi,Yvk,Ywx,Yw4]
theorem Xnx (a:(List (List Int))) (hw:wt (.sl (.sl (.int .i64))) a≤2147483648):Xcs a a=some true:=by
 have hw2:=hw;simp only[Yug,Yo6,Yw6,Yw0,Yrb,Ywr] at hw2
 have hl:a.length≤2147483648:=by have:=Yli (wt (.sl (.int .i64))) (fun x=>by simp only[Yug,Yo6,Yw6,Yw0,Yrb,Ywr];omega) a;omega
 have lp:Xbv a a 0=some (.inr ()):=by
  refine Ywf (n:=a.length) (fun s=>Xbv.B a a s) (fun i hi=>?_) ?_
  ·have hm:=Ys6 (wt (.sl (.int .i64))) a i hi
   have hb:inB (i:Int) a.length=true:=Yu7 (by omega) (by omega)
   have h0:=Xka a[i] (by omega)
   simp only[Xbv.B,Yxm hi,hb,Yw4,Ywx,toNat_cast,getD_lt _ hi,h0,Option.bind_some,Bool.not_true,Yvn,Yvi,Yvk,Yvo (by omega:i<4294967296)]
  ·simp only[Xbv.B,Yxe (Nat.le_refl _),Ywx]
 simp only[Xcs,Yvn,Ywx,lp,Option.bind_some,sel]
theorem Xod (a:Xg) (hw:wt Xi a≤2147483648):Xfl a a=some true:=by
 obtain⟨x0,x1,⟨⟩⟩:=a;simp only[Yug,Yo6,Yw6,Yw0,Yrb,Ywr] at hw
 have h_x1_0:=Xka x1 (by simp only[Yug,Yo6,Yw6,Yw0,Yrb,Ywr];omega)
 simp only[Xfl,h_x1_0,Option.bind_some,Bool.not_true,Yvn,Yvi,Yvk,Ywx,Yw4]
theorem Xnj (a:(List Xg)) (hw:wt (.sl Xi) a≤2147483648):Xcd a a=some true:=by
 have hw2:=hw;simp only[Yug,Yo6,Yw6,Yw0,Yrb,Ywr] at hw2
 have hl:a.length≤2147483648:=by have:=Yli (wt Xi) (fun x=>by simp only[Yug,Yo6,Yw6,Yw0,Yrb,Ywr];omega) a;omega
 have lp:Xc3 a a 0=some (.inr ()):=by
  refine Ywf (n:=a.length) (fun s=>Xc3.B a a s) (fun i hi=>?_) ?_
  ·have hm:=Ys6 (wt Xi) a i hi
   have hb:inB (i:Int) a.length=true:=Yu7 (by omega) (by omega)
   have h0:=Xod a[i] (by omega)
   simp only[Xc3.B,Yxm hi,hb,Yw4,Ywx,toNat_cast,getD_lt _ hi,h0,Option.bind_some,Bool.not_true,Yvn,Yvi,Yvk,Yvo (by omega:i<4294967296)]
  ·simp only[Xc3.B,Yxe (Nat.le_refl _),Ywx]
 simp only[Xcd,Yvn,Ywx,lp,Option.bind_some,sel]
theorem Xm4 (a:Xk) (hw:wt Xj a≤2147483648):Xfc a a=some true:=by
 obtain⟨x0,x1,⟨⟩⟩:=a;simp only[Yug,Yo6,Yw6,Yw0,Yrb,Ywr] at hw
 have h_x0_0:=Xnx x0 (by simp only[Yug,Yo6,Yw6,Yw0,Yrb,Ywr];omega)
 have h_x1_1:=Xnj x1 (by simp only[Yug,Yo6,Yw6,Yw0,Yrb,Ywr];omega)
 simp only[Xfc,h_x0_0,h_x1_1,Option.bind_some,Bool.not_true,Yvn,Yvi,Yvk,Ywx,Yw4]
theorem Xm5 (a:Xf) (hw:wt Xh a≤2147483648):Xfk a a=some true:=by
 obtain⟨x0,x1,⟨⟩⟩:=a;simp only[Yug,Yo6,Yw6,Yw0,Yrb,Ywr] at hw;simp only[Xfk,Option.bind_some,Bool.not_true,Yvn,Yvi,Yvk,Ywx,Yw4]
theorem Xm3 (a:(List Xf)) (hw:wt (.sl Xh) a≤2147483648):Xb2 a a=some true:=by
 have hw2:=hw;simp only[Yug,Yo6,Yw6,Yw0,Yrb,Ywr] at hw2
 have hl:a.length≤2147483648:=by have:=Yli (wt Xh) (fun x=>by simp only[Yug,Yo6,Yw6,Yw0,Yrb,Ywr];omega) a;omega
 have lp:Xb4 a a 0=some (.inr ()):=by
  refine Ywf (n:=a.length) (fun s=>Xb4.B a a s) (fun i hi=>?_) ?_
  ·have hm:=Ys6 (wt Xh) a i hi
   have hb:inB (i:Int) a.length=true:=Yu7 (by omega) (by omega)
   have h0:=Xm5 a[i] (by omega)
   simp only[Xb4.B,Yxm hi,hb,Yw4,Ywx,toNat_cast,getD_lt _ hi,h0,Option.bind_some,Bool.not_true,Yvn,Yvi,Yvk,Yvo (by omega:i<4294967296)]
  ·simp only[Xb4.B,Yxe (Nat.le_refl _),Ywx]
 simp only[Xb2,Yvn,Ywx,lp,Option.bind_some,sel]
theorem Xoa (a:Xa) (hw:wt Xc a≤2147483648):Xf1 a a=some true:=by
 obtain⟨x0,x1,x2,x3,x4,⟨⟩⟩:=a;simp only[Yug,Yo6,Yw6,Yw0,Yrb,Ywr] at hw
 have h_x3_0:=Xka x3 (by simp only[Yug,Yo6,Yw6,Yw0,Yrb,Ywr];omega)
 have h_x4_1:=Xm3 x4 (by simp only[Yug,Yo6,Yw6,Yw0,Yrb,Ywr];omega)
 simp only[Xf1,h_x3_0,h_x4_1,Option.bind_some,Bool.not_true,Yvn,Yvi,Yvk,Ywx,Yw4]
theorem Xnk (a:(List Xa)) (hw:wt (.sl Xc) a≤2147483648):Xcv a a=some true:=by
 have hw2:=hw;simp only[Yug,Yo6,Yw6,Yw0,Yrb,Ywr] at hw2
 have hl:a.length≤2147483648:=by have:=Yli (wt Xc) (fun x=>by simp only[Yug,Yo6,Yw6,Yw0,Yrb,Ywr];omega) a;omega
 have lp:Xbu a a 0=some (.inr ()):=by
  refine Ywf (n:=a.length) (fun s=>Xbu.B a a s) (fun i hi=>?_) ?_
  ·have hm:=Ys6 (wt Xc) a i hi
   have hb:inB (i:Int) a.length=true:=Yu7 (by omega) (by omega)
   have h0:=Xoa a[i] (by omega)
   simp only[Xbu.B,Yxm hi,hb,Yw4,Ywx,toNat_cast,getD_lt _ hi,h0,Option.bind_some,Bool.not_true,Yvn,Yvi,Yvk,Yvo (by omega:i<4294967296)]
  ·simp only[Xbu.B,Yxe (Nat.le_refl _),Ywx]
 simp only[Xcv,Yvn,Ywx,lp,Option.bind_some,sel]
theorem Xm6 (a:(List Int)) (hw:wt (.sl (.int .u8)) a≤2147483648):Xe9 a a=some true:=by
 have hw2:=hw;simp only[Yug,Yo6,Yw6,Yw0,Yrb,Ywr] at hw2
 have hl:a.length≤2147483648:=by have:=Yli (wt (.int .u8)) (fun x=>by simp only[Yug,Yo6,Yw6,Yw0,Yrb,Ywr];omega) a;omega
 have lp:Xb6 a a 0=some (.inr ()):=by
  refine Ywf (n:=a.length) (fun s=>Xb6.B a a s) (fun i hi=>?_) ?_
  ·have hm:=Ys6 (wt (.int .u8)) a i hi
   have hb:inB (i:Int) a.length=true:=Yu7 (by omega) (by omega)
   simp only[Xb6.B,Yxm hi,hb,Yw4,Ywx,toNat_cast,getD_lt _ hi,Option.bind_some,Bool.not_true,Yvn,Yvi,Yvk,Yvo (by omega:i<4294967296)]
  ·simp only[Xb6.B,Yxe (Nat.le_refl _),Ywx]
 simp only[Xe9,Yvn,Ywx,lp,Option.bind_some,sel]
theorem Xmy (a:(List (List Int))) (hw:wt (.sl (.sl (.int .u8))) a≤2147483648):Xb3 a a=some true:=by
 have hw2:=hw;simp only[Yug,Yo6,Yw6,Yw0,Yrb,Ywr] at hw2
 have hl:a.length≤2147483648:=by have:=Yli (wt (.sl (.int .u8))) (fun x=>by simp only[Yug,Yo6,Yw6,Yw0,Yrb,Ywr];omega) a;omega
 have lp:Xcz a a 0=some (.inr ()):=by
  refine Ywf (n:=a.length) (fun s=>Xcz.B a a s) (fun i hi=>?_) ?_
  ·have hm:=Ys6 (wt (.sl (.int .u8))) a i hi
   have hb:inB (i:Int) a.length=true:=Yu7 (by omega) (by omega)
   have h0:=Xm6 a[i] (by omega)
   simp only[Xcz.B,Yxm hi,hb,Yw4,Ywx,toNat_cast,getD_lt _ hi,h0,Option.bind_some,Bool.not_true,Yvn,Yvi,Yvk,Yvo (by omega:i<4294967296)]
  ·simp only[Xcz.B,Yxe (Nat.le_refl _),Ywx]
 simp only[Xb3,Yvn,Ywx,lp,Option.bind_some,sel]
theorem Xl8 (a:Fs_) (hw:wt Xn a≤2147483648):Xfx a a=some true:=by
 obtain⟨x0,x1,⟨⟩⟩:=a;simp only[Yug,Yo6,Yw6,Yw0,Yrb,Ywr] at hw
 have h_x0_0:=Xnk x0 (by simp only[Yug,Yo6,Yw6,Yw0,Yrb,Ywr];omega)
 have h_x1_1:=Xmy x1 (by simp only[Yug,Yo6,Yw6,Yw0,Yrb,Ywr];omega)
 simp only[Xfx,h_x0_0,h_x1_1,Option.bind_some,Bool.not_true,Yvn,Yvi,Yvk,Ywx,Yw4]
theorem Xj5 (a:(List Int)) (k:Int) (hk:0≤k) (hw:k+wt (.sl (.int .i64)) a≤4611686018427387904) (hz:wt (.sl (.int .i64)) a≤2147483648):MH Xaf Xfi (wt (.sl (.int .i64)) a) a k:=by
 simp only[Yug,Yo6,Yw6,Yw0,Yrb,Ywr] at hw hz
 have hl:a.length≤2147483648:=by have:=Yli (wt (.int .i64)) (fun x=>by simp only[Yug,Yo6,Yw6,Yw0,Yrb,Ywr];omega) a;omega
 have hs:∀ (k:Int) (i:Nat) (a:(List Int)) (h:i<a.length),a.length≤2147483648→0≤k→k+wt (.int .i64) a[i]≤4611686018427387904→wt (.int .i64) a[i]≤2147483648→∃ k2 x2,k≤k2∧k2≤k+wt (.int .i64) a[i]∧Xa8.B k (i:Int) a=some (.inl (k2,((i+1:Nat):Int),a.set i x2))∧∀ b:(List Int),b.length=a.length→b[i]? = some x2→Xbm.B b k (i:Int)=some (.inl (k2,((i+1:Nat):Int))):=by
  clear hw hz hl hk k a;intro k i a hi hl hk hw hz
  have hb:inB (i:Int) a.length=true:=Yu7 (by omega) (by omega)
  simp only[Yug,Yo6,Yw6,Yw0,Yrb,Ywr] at hw hz
  have w1:w64 (k+1)=k+1:=Yxt (by omega) (by omega)
  refine⟨k+1,k,by omega,by simp only[Yug,Yo6,Yw6,Yw0,Yrb,Ywr];omega,?_,fun b hlb hx=>?_⟩
  ·simp only[Xa8.B,Yxm hi,hb,Yw4,toNat_cast,getD_lt _ hi,Option.bind_some,w1,Yvo (by omega:i<4294967296),List.set_set,List.length_set,Ywb _ _ hi,show(!((3:Int) == 0))=true from rfl]
  ·have hc:inB (i:Int) b.length=true:=Yu7 (by omega) (by omega)
   have hd:decide ((i:Int)<(b.length:Int))=true:=Yxm (by omega)
   simp only[Xbm.B,hd,hc,Yw4,Ywx,toNat_cast,Ywv _ hx,Option.bind_some,Yvn,Yvi,Yvk,Bool.not_true,w1,Yvo (by omega:i<4294967296),List.set_set,List.length_set,Ywb _ _ hi,show(!((3:Int) == 0))=true from rfl]
 obtain⟨k2,a2,e1,e2,e3,e4⟩:=Yuv (wt (.int .i64)) 4611686018427387904 (fun s=>Xa8.B s.1 s.2.1 s.2.2) (fun b s=>Xbm.B b s.1 s.2) (fun k a=>by simp only[Xa8.B,Yxe (Nat.le_refl _),Ywx]) (fun k a=>by simp only[Xbm.B,Yxe (Nat.le_refl _),Ywx]) hs k a hl hk (by omega) (by omega)
 refine⟨k2,a2,e1,by simp only[Yug,Yo6,Yw6,Yw0,Yrb,Ywr];omega,?_,?_⟩
 ·have:Xa8 (k,0,a)=some (k2,a2):=e3
  simp only[Xaf,this,Option.bind_some]
 ·have:Xbm a2 (k,0)=some (.inr k2):=e4
  simp only[Xfi,this,Option.bind_some,sel]
theorem Xme (a:(List (List Int))) (k:Int) (hk:0≤k) (hw:k+wt (.sl (.sl (.int .i64))) a≤4611686018427387904) (hz:wt (.sl (.sl (.int .i64))) a≤2147483648):MK Xcf (wt (.sl (.sl (.int .i64))) a) a k:=by
 simp only[Yug,Yo6,Yw6,Yw0,Yrb,Ywr] at hw hz
 have hl:a.length≤2147483648:=by have:=Yli (wt (.sl (.int .i64))) (fun x=>by simp only[Yug,Yo6,Yw6,Yw0,Yrb,Ywr];omega) a;omega
 have hs:∀ (k:Int) (i:Nat) (a:(List (List Int))) (h:i<a.length),a.length≤2147483648→0≤k→k+wt (.sl (.int .i64)) a[i]≤4611686018427387904→wt (.sl (.int .i64)) a[i]≤2147483648→∃ k2 x2,k≤k2∧k2≤k+wt (.sl (.int .i64)) a[i]∧Xbd.B k (i:Int) a=some (.inl (k2,((i+1:Nat):Int),a.set i x2)):=by
  clear hw hz hl hk k a;intro k i a hi hl hk hw hz
  have hb:inB (i:Int) a.length=true:=Yu7 (by omega) (by omega)
  simp only[Yug,Yo6,Yw6,Yw0,Yrb,Ywr] at hw hz
  obtain⟨k1,y1,l1,u1,w1⟩:=MH.mk (Xj5 a[i] (k) (by omega) (by simp only[Yug,Yo6,Yw6,Yw0,Yrb,Ywr];omega) (by simp only[Yug,Yo6,Yw6,Yw0,Yrb,Ywr];omega))
  simp only[Yug,Yo6,Yw6,Yw0,Yrb,Ywr] at u1
  refine⟨k1,y1,by omega,by simp only[Yug,Yo6,Yw6,Yw0,Yrb,Ywr];omega,?_⟩
  simp only[Xbd.B,Yxm hi,hb,Yw4,toNat_cast,getD_lt _ hi,Option.bind_some,w1,Yvo (by omega:i<4294967296),List.set_set,List.length_set,Ywb _ _ hi,show(!((3:Int) == 0))=true from rfl]
 obtain⟨k2,a2,e1,e2,e3⟩:=Yva (wt (.sl (.int .i64))) 4611686018427387904 (fun s=>Xbd.B s.1 s.2.1 s.2.2) (fun k a=>by simp only[Xbd.B,Yxe (Nat.le_refl _),Ywx]) hs k a hl hk (by omega) (by omega)
 refine⟨k2,a2,e1,by simp only[Yug,Yo6,Yw6,Yw0,Yrb,Ywr];omega,?_⟩
 have:Xbd (k,0,a)=some (k2,a2):=e3;simp only[Xcf,this,Option.bind_some]
theorem Xn2 (a:(List Xg)) (k:Int) (hk:0≤k) (hw:k+wt (.sl Xi) a≤4611686018427387904) (hz:wt (.sl Xi) a≤2147483648):MK Xb1 (wt (.sl Xi) a) a k:=by
 simp only[Yug,Yo6,Yw6,Yw0,Yrb,Ywr] at hw hz
 have hl:a.length≤2147483648:=by have:=Yli (wt Xi) (fun x=>by simp only[Yug,Yo6,Yw6,Yw0,Yrb,Ywr];omega) a;omega
 have hs:∀ (k:Int) (i:Nat) (a:(List Xg)) (h:i<a.length),a.length≤2147483648→0≤k→k+wt Xi a[i]≤4611686018427387904→wt Xi a[i]≤2147483648→∃ k2 x2,k≤k2∧k2≤k+wt Xi a[i]∧Xbn.B k (i:Int) a=some (.inl (k2,((i+1:Nat):Int),a.set i x2)):=by
  clear hw hz hl hk k a;intro k i a hi hl hk hw hz
  have hb:inB (i:Int) a.length=true:=Yu7 (by omega) (by omega)
  simp only[Yug,Yo6,Yw6,Yw0,Yrb,Ywr] at hw hz
  have w1:w64 (k+1)=k+1:=Yxt (by omega) (by omega)
  obtain⟨k2,y2,l2,u2,w2⟩:=MH.mk (Xj5 a[i].2.1 (k+1) (by omega) (by simp only[Yug,Yo6,Yw6,Yw0,Yrb,Ywr];omega) (by simp only[Yug,Yo6,Yw6,Yw0,Yrb,Ywr];omega))
  simp only[Yug,Yo6,Yw6,Yw0,Yrb,Ywr] at u2
  refine⟨k2,(k,y2,()),by omega,by simp only[Yug,Yo6,Yw6,Yw0,Yrb,Ywr];omega,?_⟩
  simp only[Xbn.B,Yxm hi,hb,Yw4,toNat_cast,getD_lt _ hi,Option.bind_some,w1,w2,Yvo (by omega:i<4294967296),List.set_set,List.length_set,Ywb _ _ hi,show(!((3:Int) == 0))=true from rfl]
 obtain⟨k2,a2,e1,e2,e3⟩:=Yva (wt Xi) 4611686018427387904 (fun s=>Xbn.B s.1 s.2.1 s.2.2) (fun k a=>by simp only[Xbn.B,Yxe (Nat.le_refl _),Ywx]) hs k a hl hk (by omega) (by omega)
 refine⟨k2,a2,e1,by simp only[Yug,Yo6,Yw6,Yw0,Yrb,Ywr];omega,?_⟩
 have:Xbn (k,0,a)=some (k2,a2):=e3;simp only[Xb1,this,Option.bind_some]
theorem Xmu (x_0:List (List Int)) (x_1:List Xg) (k:Int) (hk:0≤k) (hw:k+wt Xj (x_0,x_1,())≤4611686018427387904) (hz:wt Xj (x_0,x_1,())≤2147483648):∃ k2 y0 y1,k≤k2∧k2≤k+wt Xj (x_0,x_1,())∧Xfg (x_0,x_1,()) k=some (k2,(y0,y1,())):=by
 simp only[Yug,Yo6,Yw6,Yw0,Yrb,Ywr] at hw hz
 obtain⟨k0,y0,l0,u0,w0⟩:=id (Xme x_0 k (by omega) (by simp only[Yug,Yo6,Yw6,Yw0,Yrb,Ywr];omega) (by simp only[Yug,Yo6,Yw6,Yw0,Yrb,Ywr];omega))
 simp only[Yug,Yo6,Yw6,Yw0,Yrb,Ywr] at u0
 obtain⟨k1,y1,l1,u1,w1⟩:=id (Xn2 x_1 k0 (by omega) (by simp only[Yug,Yo6,Yw6,Yw0,Yrb,Ywr];omega) (by simp only[Yug,Yo6,Yw6,Yw0,Yrb,Ywr];omega))
 simp only[Yug,Yo6,Yw6,Yw0,Yrb,Ywr] at u1
 refine⟨k1,y0,y1,by omega,by simp only[Yug,Yo6,Yw6,Yw0,Yrb,Ywr];omega,?_⟩
 simp only[Xfg,w0,w1,Option.bind_some,Yxr]
theorem Xlf:∀ (n:Nat) (k:Int) (out:List UInt8),0≤k→k<10 ^ n→out.length+n≤2147483648→k≤4611686018427387904→∃ s,Xce (k,out)=some s∧s.length≤out.length+n
 |0,k,out,h0,h1,h2,h3=>by
  have:k=0:=by simp at h1;omega
  subst this
  exact⟨out,Y5 (by simp only[Xce.B];rfl),by omega⟩
 |n+1,k,out,h0,h1,h2,h3=>by
  by_cases hk:k=0
  ·subst hk;exact⟨out,Y5 (by simp only[Xce.B];rfl),by omega⟩
  ·have hd:k.tdiv 10=k / 10:=Int.tdiv_eq_ediv_of_nonneg h0
   have hq:w64 (k / 10)=k / 10:=Yq5 (by omega) (by omega)
   have hp:k / 10<10 ^ n:=by rw[Int.pow_succ] at h1;omega
   obtain⟨s,hs,hl⟩:=Xlf n (k / 10) ((([IntKind.u8.wrap (w64 ((48:Int)+(k.tmod 10)))]).map fun n=>UInt8.ofNat n.toNat)++out) (by omega) hp (by simp;omega) (by omega)
   refine⟨s,?_,by simp at hl;omega⟩
   rw[←hs];refine Yaq (s':=(k / 10,_)) ?_
   simp only[Xce.B,show decide (k>0)=true by simp;omega,Yw4,show(!((10:Int) == 0))=true from rfl,Option.bind_some,hd,hq]
   rw[show decide ((([IntKind.u8.wrap (w64 ((48:Int)+(k.tmod 10)))]).map fun n=>UInt8.ofNat n.toNat).length+out.length≤2147483648)=true by simp;omega]
   rfl
theorem Xn7 (k:Int) (h:0≤k) (hk:k≤4611686018427387904):∃ s,Xf0 k=some s:=by
 obtain⟨s,hs,hl⟩:=Xlf 19 k [] h (by omega) (by simp) hk
 simp only[Xf0];cases decide (k≤0)
 ·simp only[Ywx,hs,Option.bind_some]
  rw[show decide (([109]:List UInt8).length+s.length≤2147483648)=true by simp at hl ⊢;omega]
  exact⟨_,rfl⟩
 ·exact⟨_,rfl⟩
theorem Xn0 (a:(List Xf)) (k:Int) (hk:0≤k) (hw:k+wt (.sl Xh) a≤4611686018427387904) (hz:wt (.sl Xh) a≤2147483648):MK Xcc (wt (.sl Xh) a) a k:=by
 simp only[Yug,Yo6,Yw6,Yw0,Yrb,Ywr] at hw hz
 have hl:a.length≤2147483648:=by have:=Yli (wt Xh) (fun x=>by simp only[Yug,Yo6,Yw6,Yw0,Yrb,Ywr];omega) a;omega
 have hs:∀ (k:Int) (i:Nat) (a:(List Xf)) (h:i<a.length),a.length≤2147483648→0≤k→k+wt Xh a[i]≤4611686018427387904→wt Xh a[i]≤2147483648→∃ k2 x2,k≤k2∧k2≤k+wt Xh a[i]∧Xa9.B k (i:Int) a=some (.inl (k2,((i+1:Nat):Int),a.set i x2)):=by
  clear hw hz hl hk k a;intro k i a hi hl hk hw hz
  have hb:inB (i:Int) a.length=true:=Yu7 (by omega) (by omega)
  simp only[Yug,Yo6,Yw6,Yw0,Yrb,Ywr] at hw hz
  obtain⟨s1,w1⟩:=Xn7 (k) (by omega) (by omega)
  have w2:w64 (k+1)=k+1:=Yxt (by omega) (by omega)
  have w3:w64 (k+1+1)=k+1+1:=Yxt (by omega) (by omega)
  refine⟨k+1+1,(s1,k+1,()),by omega,by simp only[Yug,Yo6,Yw6,Yw0,Yrb,Ywr];omega,?_⟩
  simp only[Xa9.B,Yxm hi,hb,Yw4,toNat_cast,getD_lt _ hi,Option.bind_some,w1,w2,w3,Yvo (by omega:i<4294967296),List.set_set,List.length_set,Ywb _ _ hi,show(!((3:Int) == 0))=true from rfl]
 obtain⟨k2,a2,e1,e2,e3⟩:=Yva (wt Xh) 4611686018427387904 (fun s=>Xa9.B s.1 s.2.1 s.2.2) (fun k a=>by simp only[Xa9.B,Yxe (Nat.le_refl _),Ywx]) hs k a hl hk (by omega) (by omega)
 refine⟨k2,a2,e1,by simp only[Yug,Yo6,Yw6,Yw0,Yrb,Ywr];omega,?_⟩
 have:Xa9 (k,0,a)=some (k2,a2):=e3;simp only[Xcc,this,Option.bind_some]
theorem Xok (a:(List Xa)) (k:Int) (hk:0≤k) (hw:k+wt (.sl Xc) a≤4611686018427387904) (hz:wt (.sl Xc) a≤2147483648):MK Xc1 (wt (.sl Xc) a) a k:=by
 simp only[Yug,Yo6,Yw6,Yw0,Yrb,Ywr] at hw hz
 have hl:a.length≤2147483648:=by have:=Yli (wt Xc) (fun x=>by simp only[Yug,Yo6,Yw6,Yw0,Yrb,Ywr];omega) a;omega
 have hs:∀ (k:Int) (i:Nat) (a:(List Xa)) (h:i<a.length),a.length≤2147483648→0≤k→k+wt Xc a[i]≤4611686018427387904→wt Xc a[i]≤2147483648→∃ k2 x2,k≤k2∧k2≤k+wt Xc a[i]∧Xbi.B k (i:Int) a=some (.inl (k2,((i+1:Nat):Int),a.set i x2)):=by
  clear hw hz hl hk k a;intro k i a hi hl hk hw hz
  have hb:inB (i:Int) a.length=true:=Yu7 (by omega) (by omega)
  simp only[Yug,Yo6,Yw6,Yw0,Yrb,Ywr] at hw hz
  have w1:w64 (k+1)=k+1:=Yxt (by omega) (by omega)
  have w2:w64 (k+1+1)=k+1+1:=Yxt (by omega) (by omega)
  have w3:w64 (k+1+1+1)=k+1+1+1:=Yxt (by omega) (by omega)
  obtain⟨k4,y4,l4,u4,w4⟩:=MH.mk (Xj5 a[i].2.2.2.1 (k+1+1+1) (by omega) (by simp only[Yug,Yo6,Yw6,Yw0,Yrb,Ywr];omega) (by simp only[Yug,Yo6,Yw6,Yw0,Yrb,Ywr];omega))
  simp only[Yug,Yo6,Yw6,Yw0,Yrb,Ywr] at u4
  obtain⟨k5,y5,l5,u5,w5⟩:=id (Xn0 a[i].2.2.2.2.1 (k4) (by omega) (by simp only[Yug,Yo6,Yw6,Yw0,Yrb,Ywr];omega) (by simp only[Yug,Yo6,Yw6,Yw0,Yrb,Ywr];omega))
  simp only[Yug,Yo6,Yw6,Yw0,Yrb,Ywr] at u5
  refine⟨k5,(k,k+1,k+1+1,y4,y5,()),by omega,by simp only[Yug,Yo6,Yw6,Yw0,Yrb,Ywr];omega,?_⟩
  simp only[Xbi.B,Yxm hi,hb,Yw4,toNat_cast,getD_lt _ hi,Option.bind_some,w1,w2,w3,w4,w5,Yvo (by omega:i<4294967296),List.set_set,List.length_set,Ywb _ _ hi,show(!((3:Int) == 0))=true from rfl]
 obtain⟨k2,a2,e1,e2,e3⟩:=Yva (wt Xc) 4611686018427387904 (fun s=>Xbi.B s.1 s.2.1 s.2.2) (fun k a=>by simp only[Xbi.B,Yxe (Nat.le_refl _),Ywx]) hs k a hl hk (by omega) (by omega)
 refine⟨k2,a2,e1,by simp only[Yug,Yo6,Yw6,Yw0,Yrb,Ywr];omega,?_⟩
 have:Xbi (k,0,a)=some (k2,a2):=e3;simp only[Xc1,this,Option.bind_some]
theorem Xmp (a:(List Int)) (k:Int) (hk:0≤k) (hw:k+wt (.sl (.int .u8)) a≤4611686018427387904) (hz:wt (.sl (.int .u8)) a≤2147483648):MK Xfw (wt (.sl (.int .u8)) a) a k:=by
 simp only[Yug,Yo6,Yw6,Yw0,Yrb,Ywr] at hw hz
 have hl:a.length≤2147483648:=by have:=Yli (wt (.int .u8)) (fun x=>by simp only[Yug,Yo6,Yw6,Yw0,Yrb,Ywr];omega) a;omega
 have hs:∀ (k:Int) (i:Nat) (a:(List Int)) (h:i<a.length),a.length≤2147483648→0≤k→k+wt (.int .u8) a[i]≤4611686018427387904→wt (.int .u8) a[i]≤2147483648→∃ k2 x2,k≤k2∧k2≤k+wt (.int .u8) a[i]∧Xbf.B k (i:Int) a=some (.inl (k2,((i+1:Nat):Int),a.set i x2)):=by
  clear hw hz hl hk k a;intro k i a hi hl hk hw hz
  have hb:inB (i:Int) a.length=true:=Yu7 (by omega) (by omega)
  simp only[Yug,Yo6,Yw6,Yw0,Yrb,Ywr] at hw hz
  have w1:w64 (k+1)=k+1:=Yxt (by omega) (by omega)
  refine⟨k+1,(IntKind.u8.wrap (k)),by omega,by simp only[Yug,Yo6,Yw6,Yw0,Yrb,Ywr];omega,?_⟩
  simp only[Xbf.B,Yxm hi,hb,Yw4,toNat_cast,getD_lt _ hi,Option.bind_some,w1,Yvo (by omega:i<4294967296),List.set_set,List.length_set,Ywb _ _ hi,show(!((3:Int) == 0))=true from rfl]
 obtain⟨k2,a2,e1,e2,e3⟩:=Yva (wt (.int .u8)) 4611686018427387904 (fun s=>Xbf.B s.1 s.2.1 s.2.2) (fun k a=>by simp only[Xbf.B,Yxe (Nat.le_refl _),Ywx]) hs k a hl hk (by omega) (by omega)
 refine⟨k2,a2,e1,by simp only[Yug,Yo6,Yw6,Yw0,Yrb,Ywr];omega,?_⟩
 have:Xbf (k,0,a)=some (k2,a2):=e3;simp only[Xfw,this,Option.bind_some]
theorem Xl3 (a:(List (List Int))) (k:Int) (hk:0≤k) (hw:k+wt (.sl (.sl (.int .u8))) a≤4611686018427387904) (hz:wt (.sl (.sl (.int .u8))) a≤2147483648):MK Xcm (wt (.sl (.sl (.int .u8))) a) a k:=by
 simp only[Yug,Yo6,Yw6,Yw0,Yrb,Ywr] at hw hz
 have hl:a.length≤2147483648:=by have:=Yli (wt (.sl (.int .u8))) (fun x=>by simp only[Yug,Yo6,Yw6,Yw0,Yrb,Ywr];omega) a;omega
 have hs:∀ (k:Int) (i:Nat) (a:(List (List Int))) (h:i<a.length),a.length≤2147483648→0≤k→k+wt (.sl (.int .u8)) a[i]≤4611686018427387904→wt (.sl (.int .u8)) a[i]≤2147483648→∃ k2 x2,k≤k2∧k2≤k+wt (.sl (.int .u8)) a[i]∧Xa3.B k (i:Int) a=some (.inl (k2,((i+1:Nat):Int),a.set i x2)):=by
  clear hw hz hl hk k a;intro k i a hi hl hk hw hz
  have hb:inB (i:Int) a.length=true:=Yu7 (by omega) (by omega)
  simp only[Yug,Yo6,Yw6,Yw0,Yrb,Ywr] at hw hz
  obtain⟨k1,y1,l1,u1,w1⟩:=id (Xmp a[i] (k) (by omega) (by simp only[Yug,Yo6,Yw6,Yw0,Yrb,Ywr];omega) (by simp only[Yug,Yo6,Yw6,Yw0,Yrb,Ywr];omega))
  simp only[Yug,Yo6,Yw6,Yw0,Yrb,Ywr] at u1
  refine⟨k1,y1,by omega,by simp only[Yug,Yo6,Yw6,Yw0,Yrb,Ywr];omega,?_⟩
  simp only[Xa3.B,Yxm hi,hb,Yw4,toNat_cast,getD_lt _ hi,Option.bind_some,w1,Yvo (by omega:i<4294967296),List.set_set,List.length_set,Ywb _ _ hi,show(!((3:Int) == 0))=true from rfl]
 obtain⟨k2,a2,e1,e2,e3⟩:=Yva (wt (.sl (.int .u8))) 4611686018427387904 (fun s=>Xa3.B s.1 s.2.1 s.2.2) (fun k a=>by simp only[Xa3.B,Yxe (Nat.le_refl _),Ywx]) hs k a hl hk (by omega) (by omega)
 refine⟨k2,a2,e1,by simp only[Yug,Yo6,Yw6,Yw0,Yrb,Ywr];omega,?_⟩
 have:Xa3 (k,0,a)=some (k2,a2):=e3;simp only[Xcm,this,Option.bind_some]
theorem Xlx (x_0:List Xa) (x_1:List (List Int)) (k:Int) (hk:0≤k) (hw:k+wt Xn (x_0,x_1,())≤4611686018427387904) (hz:wt Xn (x_0,x_1,())≤2147483648):∃ k2 y0 y1,k≤k2∧k2≤k+wt Xn (x_0,x_1,())∧Xfz (x_0,x_1,()) k=some (k2,(y0,y1,())):=by
 simp only[Yug,Yo6,Yw6,Yw0,Yrb,Ywr] at hw hz
 obtain⟨k0,y0,l0,u0,w0⟩:=id (Xok x_0 k (by omega) (by simp only[Yug,Yo6,Yw6,Yw0,Yrb,Ywr];omega) (by simp only[Yug,Yo6,Yw6,Yw0,Yrb,Ywr];omega))
 simp only[Yug,Yo6,Yw6,Yw0,Yrb,Ywr] at u0
 obtain⟨k1,y1,l1,u1,w1⟩:=id (Xl3 x_1 k0 (by omega) (by simp only[Yug,Yo6,Yw6,Yw0,Yrb,Ywr];omega) (by simp only[Yug,Yo6,Yw6,Yw0,Yrb,Ywr];omega))
 simp only[Yug,Yo6,Yw6,Yw0,Yrb,Ywr] at u1
 refine⟨k1,y0,y1,by omega,by simp only[Yug,Yo6,Yw6,Yw0,Yrb,Ywr];omega,?_⟩
 simp only[Xfz,w0,w1,Option.bind_some,Yxr]
theorem Xnf (a:(List Xl)) (k:Int) (hk:0≤k) (hw:k+wt (.sl Xp) a≤4611686018427387904) (hz:wt (.sl Xp) a≤2147483648):MH Xcp Xbw (wt (.sl Xp) a) a k:=by
 simp only[Yug,Yo6,Yw6,Yw0,Yrb,Ywr] at hw hz
 have hl:a.length≤2147483648:=by have:=Yli (wt Xp) (fun x=>by simp only[Yug,Yo6,Yw6,Yw0,Yrb,Ywr];omega) a;omega
 have hs:∀ (k:Int) (i:Nat) (a:(List Xl)) (h:i<a.length),a.length≤2147483648→0≤k→k+wt Xp a[i]≤4611686018427387904→wt Xp a[i]≤2147483648→∃ k2 x2,k≤k2∧k2≤k+wt Xp a[i]∧Xbb.B k (i:Int) a=some (.inl (k2,((i+1:Nat):Int),a.set i x2))∧∀ b:(List Xl),b.length=a.length→b[i]? = some x2→Xbe.B b k (i:Int)=some (.inl (k2,((i+1:Nat):Int))):=by
  clear hw hz hl hk k a;intro k i a hi hl hk hw hz
  have hb:inB (i:Int) a.length=true:=Yu7 (by omega) (by omega)
  simp only[Yug,Yo6,Yw6,Yw0,Yrb,Ywr] at hw hz
  have w1:w64 (k+1)=k+1:=Yxt (by omega) (by omega)
  have w2:w64 (k+1+1)=k+1+1:=Yxt (by omega) (by omega)
  obtain⟨k3,y3,l3,u3,w3,v3⟩:=Xj5 a[i].2.2.1 (k+1+1) (by omega) (by simp only[Yug,Yo6,Yw6,Yw0,Yrb,Ywr];omega) (by simp only[Yug,Yo6,Yw6,Yw0,Yrb,Ywr];omega)
  simp only[Yug,Yo6,Yw6,Yw0,Yrb,Ywr] at u3
  refine⟨k3,(((k).tmod 3 == 0),k+1,y3,()),by omega,by simp only[Yug,Yo6,Yw6,Yw0,Yrb,Ywr];omega,?_,fun b hlb hx=>?_⟩
  ·simp only[Xbb.B,Yxm hi,hb,Yw4,toNat_cast,getD_lt _ hi,Option.bind_some,w1,w2,v3,w3,Yvo (by omega:i<4294967296),List.set_set,List.length_set,Ywb _ _ hi,show(!((3:Int) == 0))=true from rfl]
  ·have hc:inB (i:Int) b.length=true:=Yu7 (by omega) (by omega)
   have hd:decide ((i:Int)<(b.length:Int))=true:=Yxm (by omega)
   simp only[Xbe.B,hd,hc,Yw4,Ywx,toNat_cast,Ywv _ hx,Option.bind_some,Yvn,Yvi,Yvk,Bool.not_true,w1,w2,v3,w3,Ywq (by omega:0≤k3),Yvo (by omega:i<4294967296),List.set_set,List.length_set,Ywb _ _ hi,show(!((3:Int) == 0))=true from rfl]
 obtain⟨k2,a2,e1,e2,e3,e4⟩:=Yuv (wt Xp) 4611686018427387904 (fun s=>Xbb.B s.1 s.2.1 s.2.2) (fun b s=>Xbe.B b s.1 s.2) (fun k a=>by simp only[Xbb.B,Yxe (Nat.le_refl _),Ywx]) (fun k a=>by simp only[Xbe.B,Yxe (Nat.le_refl _),Ywx]) hs k a hl hk (by omega) (by omega)
 refine⟨k2,a2,e1,by simp only[Yug,Yo6,Yw6,Yw0,Yrb,Ywr];omega,?_,?_⟩
 ·have:Xbb (k,0,a)=some (k2,a2):=e3
  simp only[Xcp,this,Option.bind_some]
 ·have:Xbe a2 (k,0)=some (.inr k2):=e4
  simp only[Xbw,this,Option.bind_some,sel]
theorem Xom (x_0:Int) (x_1:List Xl) (k:Int) (hk:0≤k) (hw:k+wt Xm (x_0,x_1,())≤4611686018427387904) (hz:wt Xm (x_0,x_1,())≤2147483648):∃ k2 y0,k≤k2∧k2≤k+wt Xm (x_0,x_1,())∧Xe2 (x_0,x_1,()) k=some (k2,(x_0,y0,()))∧Xeh (x_0,y0,()) k=some k2:=by
 simp only[Yug,Yo6,Yw6,Yw0,Yrb,Ywr] at hw hz
 obtain⟨k0,y0,l0,u0,w0,v0⟩:=Xnf x_1 k (by omega) (by simp only[Yug,Yo6,Yw6,Yw0,Yrb,Ywr];omega) (by simp only[Yug,Yo6,Yw6,Yw0,Yrb,Ywr];omega)
 simp only[Yug,Yo6,Yw6,Yw0,Yrb,Ywr] at u0
 refine⟨k0,y0,by omega,by simp only[Yug,Yo6,Yw6,Yw0,Yrb,Ywr];omega,?_,?_⟩
 ·simp only[Xe2,w0,Option.bind_some,Yxr]
 ·simp only[Xeh,v0,Option.bind_some,Ywx,Ywq (by omega:0≤k0)]
def inR (v lo hi:Int):Bool:=cond (decide (v≥lo)) (decide (v≤hi)) false
theorem Xc4 {v lo hi:Int}:inR v lo hi=true↔lo≤v∧v≤hi:=by
 unfold inR;by_cases h:v≥lo<;>simp[h]<;>omega
theorem Xig (v lo hi:Int):Xah v lo hi=some (inR v lo hi):=rfl
theorem Xid (v lo hi:Int):Xz v lo hi=some (inR v lo hi):=rfl
def Xad (w:List Int):Int:=cond (decide ((w.length:Int)>64)) 2 (cond (w.any fun x=>!inR x 0 65535) 3 0)
theorem Xln (w:List Int):Xe5 w=some (Xad w):=by
 simp only[Xe5,Xad]
 by_cases hl:w.length≤64
 ·have h:Xh3 w 0=_:=Ywl w (fun x=>!inR x 0 65535) (3:Int) (fun i hi=>by
   simp only[Xh3.B,Yxm hi,Yxb hi,Yw4,toNat_cast,getD_lt _ hi,Xig,Option.bind_some,Yvo (by omega:i<4294967296)]) (by
   simp only[Xh3.B,Yxe (Nat.le_refl _),Ywx])
  rw[h,show decide ((w.length:Int)>64)=false by simp;omega]
  cases w.any fun x=>!inR x 0 65535<;>rfl
 ·rw[show decide ((w.length:Int)>64)=true by simp;omega];rfl
theorem Xn5 (w:List Int) (hl:w.length≤2147483648):Xb8 w () (w.length:Int) 0=some (match Ylg (fun x=>!inR x 0 65535) 0 w with | some j=>.inl (j:Int) | none=>.inr ()):=
 Yvx w (f:=fun s=>Xb8.B w () (w.length:Int) s) (fun x=>!inR x 0 65535) (fun i hi=>by
  simp only[Xb8.B,Yxm hi,Yxb hi,Yw4,toNat_cast,getD_lt _ hi,Xha,Xid,Option.bind_some,Yvo (by omega:i<4294967296)]) (by
  simp only[Xb8.B,Yxe (Nat.le_refl _),Ywx]) 0 (Nat.zero_le _)
theorem Xfv {α:Type} (p:α→Bool) (l:List α):((some (match Ylg p 0 l with | some j=>.inl (j:Int) | none=>.inr ():Int⊕Unit)).bind fun o=>sel o (fun b=>some b) (fun c=>some (-1))).bind (fun r=>some (decide (r≥0)))=some (l.any p):=by
 cases h:Ylg p 0 l with
 |none=>rw[Yp7.1 h];rfl
 |some j=>
  have:l.any p=true:=by
   cases ha:l.any p with
   |true=>rfl
   |false=>rw[Yp7.2 ha] at h;cases h
  rw[this];simp[sel]
theorem Xlm (w:List Int):Xen w=some (Xad w):=by
 simp only[Xen,Xad,Xhg,Xdm]
 by_cases hl:w.length≤64
 ·rw[show decide ((w.length:Int)>64)=false by simp;omega,Xn5 w (by omega),Xfv]
  simp only[Ywx,Option.bind_some]
  cases w.any fun x=>!inR x 0 65535<;>rfl
 ·rw[show decide ((w.length:Int)>64)=true by simp;omega];rfl
theorem Xis {w:List Int} (h:Xad w=0):w.length≤64∧∀ x∈w,0≤x∧x≤65535:=by
 unfold Xad at h
 cases h1:decide ((w.length:Int)>64) with
 |true=>rw[h1] at h;cases h
 |false=>
  rw[h1] at h
  cases h2:(w.any fun x=>!inR x 0 65535) with
  |true=>rw[h2] at h;cases h
  |false=>
   refine⟨by simp at h1;omega,fun x hx=>?_⟩
   have:=List.any_eq_false.1 h2 x hx;simp only[Bool.not_eq_true,Bool.not_eq_false'] at this
   exact Xc4.1 (by simpa using this)
theorem Xab (n:Int) (g:Option Int):((some (cond (n != 0) (.inl n) (.inr ()):Int⊕Unit)).bind fun o=>sel o (fun b=>some b) (fun _=>g))=cond (n != 0) (some n) g:=by
 cases (n != 0)<;>rfl
theorem Xai (n:Int):cond (n != 0) (some n) (some 0)=some n:=by
 cases h:(n != 0)
 ·have:n=0:=by simpa using h
  rw[this];rfl
 ·rfl
theorem Xkj {α:Type} {xs:List α} (h:xs.length≤2147483648):Ymd xs=some xs:=by
 unfold Ymd;rw[show decide (xs.length≤2147483648)=true by simp;omega];rfl
theorem Xaa {n:Nat} (h:n≤2147483648):decide (n≤2147483648)=true:=by simp;omega
def Xix (b:UInt8):Bool:=cond (decide ((b.toNat:Int)<97)) true (decide ((b.toNat:Int)>122))
def Xcy (s:List UInt8):Int:=cond (s.any Xix) 5 (cond (s == []) 5 (cond (decide ((s.length:Int)>4)) 2 0))
theorem Xnp (s:List UInt8) (hl:s.length≤2147483648):Xjd s=some (Xcy s):=by
 have h:Xhq s 0=_:=Ywl s Xix (5:Int) (fun i hi=>by
  simp only[Xhq.B,Yxm hi,Yxb hi,Yw4,toNat_cast,getD_lt _ hi,Option.bind_some,Yvo (by omega:i<4294967296),Xix,Yvm]) (by
  simp only[Xhq.B,Yxe (Nat.le_refl _),Ywx])
 simp only[Xjd,h,Option.bind_some,Xcy];cases s.any Xix
 ·simp only[Ywx,Ywu,Yvh]
 ·rfl
theorem Xm1 (s:List UInt8) (hl:s.length≤2147483648):Xfs s=some (Xcy s):=by
 have h:Xdf s (s.length:Int) 0=_:=Ywl s Xix (5:Int) (fun i hi=>by
  simp only[Xdf.B,Yxm hi,Yxb hi,Yw4,toNat_cast,getD_lt _ hi,Option.bind_some,Yvo (by omega:i<4294967296),Xix,Yvm]) (by
  simp only[Xdf.B,Yxe (Nat.le_refl _),Ywx])
 simp only[Xfs,h,Option.bind_some,Xcy]
 cases s with
 |nil=>rfl
 |cons b s=>
  rw[show((b::s:List UInt8) == [])=false from rfl];simp only[Ywx];cases (b::s).any Xix
  ·simp only[Ywx,Ywu,Yvh]
  ·rfl
theorem Xk0 {s:List UInt8} (h:Xcy s=0):s≠[]∧s.length≤4∧s.any Xix=false:=by
 unfold Xcy at h
 cases h1:s.any Xix with
 |true=>rw[h1] at h;cases h
 |false=>
  rw[h1] at h
  cases h2:(s == []) with
  |true=>rw[h2] at h;cases h
  |false=>
   rw[h2] at h
   cases h3:decide ((s.length:Int)>4) with
   |true=>rw[h3] at h;cases h
   |false=>exact⟨(by intro e;subst e;cases h2),(by simp at h3;omega),rfl⟩
def Xit:List Int→List Int→Bool
 |_,[]=>false
 |a,x::l=>a.contains x || Xit (a++[x]) l
theorem Xbq {α:Type} (p:α→Bool) (l:List α) {o:Option (Int⊕Unit)} (h:o=some (match Ylg p 0 l with | some j=>.inl (j:Int) | none=>.inr ())):(o.bind fun o=>sel o (fun b=>some b) (fun c=>some (-1))).bind (fun r=>some (decide (r≥0)))=some (l.any p):=by
 rw[h];exact Xfv p l
theorem Xll (l:List Int) (v:Int) (hl:l.length≤2147483648):Xdg l v=some (l.contains v):=by
 have h:Xdd l v (l.length:Int) 0=_:=Yvx l (fun x=>v == x) (fun i hi=>by
  simp only[Xdd.B,Yxm hi,Yxb hi,Yw4,toNat_cast,getD_lt _ hi,Option.bind_some,Yvo (by omega:i<4294967296)]) (by
  simp only[Xdd.B,Yxe (Nat.le_refl _),Ywx]) 0 (Nat.zero_le _)
 simp only[Xdg,Xhj];rw[Xbq _ _ h,List.any_beq,List.drop_zero]
theorem Xmn (l:List Int) (v:Int) (hl:l.length≤2147483648):Xh7 l v=some (l.contains v):=by
 have h:Xht l v 0=_:=Ywl l (fun x=>x == v) true (fun i hi=>by
  simp only[Xht.B,Yxm hi,Yxb hi,Yw4,toNat_cast,getD_lt _ hi,Option.bind_some,Yvo (by omega:i<4294967296)]) (by
  simp only[Xht.B,Yxe (Nat.le_refl _),Ywx])
 simp only[Xh7,h,Option.bind_some];rw[←List.any_beq,show(fun x:Int=>x == v)=fun x=>v == x from funext fun x=>Bool.beq_comm]
 cases l.any fun x=>v == x<;>rfl
def Xkl (n:Int):Int:=w64 ((w64 ((w64 (n+8))-1)).tdiv 8)
def Xik (x:Xa):Int:=cond (!inR x.2.1 1 60) 3 (cond (!inR x.2.2.1 0 32) 3 (cond ((x.2.2.2.1.length:Int) != Xkl x.2.2.1) 1 (cond (x.2.2.2.1.any fun b=>!inR b 0 19) 3 (cond (Xit [] x.2.2.2.1) 7 0))))
theorem Xne (x:Xa) (hl:x.2.2.2.1.length≤2147483648) (n:Nat) (hn:n<x.2.2.2.1.length):Xfr x (n:Int) 0=some (cond ((x.2.2.2.1.take n).contains x.2.2.2.1[n]) (.inl 7) (.inr ())):=by
 have h:Xfr x (n:Int) 0=_:=Ywl (x.2.2.2.1.take n) (fun y=>y == x.2.2.2.1[n]) (7:Int) (fun i hi=>by
  have hi':i<n:=by simp at hi;omega
  simp only[Xfr.B,Yxm hi',Yxb (by omega:i<x.2.2.2.1.length),Yxb hn,Yw4,toNat_cast,getD_lt _ (by omega:i<x.2.2.2.1.length),getD_lt _ hn,Option.bind_some,Yvo (by omega:i<4294967296),List.getElem_take]) (by
  have:(x.2.2.2.1.take n).length=n:=by simp;omega
  rw[this]
  simp only[Xfr.B,Yxe (Nat.le_refl _),Ywx])
 rw[h,←List.any_beq,show(fun y:Int=>y == x.2.2.2.1[n])=fun y=>x.2.2.2.1[n] == y from funext fun y=>Bool.beq_comm]
theorem Xg4 (l:List Int):∀ (k n:Nat),n+k=l.length→Yba (τ:=Unit) (fun i y _=>cond ((l.take i).contains y) (.inr (.inl 7)) (.inl ())) (fun _=>(.inr ():Int⊕Unit)) n (l.drop n) ()=cond (Xit (l.take n) (l.drop n)) (.inl 7) (.inr ())
 |0,n,h=>by
  have:n=l.length:=by omega
  subst this
  simp[Yba,Xit]
 |k+1,n,h=>by
  have hn:n<l.length:=by omega
  rw[List.drop_eq_getElem_cons hn];simp only[Yba,Xit]
  have e:l.take n++[l[n]]=l.take (n+1):=by simp
  rw[e];cases (l.take n).contains l[n]
  ·simp only[Ywx,Yw2,Bool.false_or];exact Xg4 l k (n+1) (by omega)
  ·rfl
theorem Xnt (x:Xa) (hl:x.2.2.2.1.length≤2147483648):Xd4 x=some (Xik x):=by
 have h0:Xh2 x 0=_:=Ywl x.2.2.2.1 (fun b=>!inR b 0 19) (3:Int) (fun i hi=>by
  simp only[Xh2.B,Yxm hi,Yxb hi,Yw4,toNat_cast,getD_lt _ hi,Xig,Option.bind_some,Yvo (by omega:i<4294967296)]) (by
  simp only[Xh2.B,Yxe (Nat.le_refl _),Ywx])
 have h1:Xgb x 0=some (cond (Xit [] x.2.2.2.1) (.inl 7) (.inr ())):=by
  have:=Yfj (τ:=Unit) x.2.2.2.1 (f:=fun s=>Xgb.B x s) (fun i _=>(i:Int)) (fun i y _=>cond ((x.2.2.2.1.take i).contains y) (.inr (.inl 7)) (.inl ())) (fun _=>(.inr ():Int⊕Unit)) (fun i hi t=>by
   simp only[Xgb.B,Yxm hi,Yw4,Xne x hl i hi,Option.bind_some,Yvo (by omega:i<4294967296)]
   cases (x.2.2.2.1.take i).contains x.2.2.2.1[i]<;>rfl) (fun t=>by
   simp only[Xgb.B,Yxe (Nat.le_refl _),Ywx]) () (s:=0) rfl
  refine Eq.trans this ?_
  congr 1
  exact Xg4 x.2.2.2.1 x.2.2.2.1.length 0 (by omega)
 have h8:(!((8:Int) == 0))=true:=rfl;simp only[Xd4,Xjo,Xjp,Xig,Option.bind_some,h8,Yw4,h0,h1,Xik,Xkl,Yvh];cases inR x.2.1 1 60
 ·rfl
 ·cases inR x.2.2.1 0 32
  ·rfl
  ·simp only[Bool.not_true,Ywx]
   cases ((x.2.2.2.1.length:Int) != w64 ((w64 ((w64 (x.2.2.1+8))-1)).tdiv 8))
   ·simp only[Ywx]
    cases x.2.2.2.1.any fun b=>!inR b 0 19
    ·simp only[Ywx,Ywu]
     cases Xit [] x.2.2.2.1<;>rfl
    ·rfl
   ·rfl
theorem Xof (x:Xa) (hl:x.2.2.2.1.length≤2147483648):Xcg x=some (Xik x):=by
 have h0:Xfu x.2.2.2.1 ()=some (x.2.2.2.1.any fun b=>!inR b 0 19):=by
  have h:Xde x.2.2.2.1 () (x.2.2.2.1.length:Int) 0=_:=Yvx x.2.2.2.1 (fun b=>!inR b 0 19) (fun i hi=>by
   simp only[Xde.B,Yxm hi,Yxb hi,Yw4,toNat_cast,getD_lt _ hi,Xhl,Xid,Option.bind_some,Yvo (by omega:i<4294967296)]) (by
   simp only[Xde.B,Yxe (Nat.le_refl _),Ywx]) 0 (Nat.zero_le _)
  simp only[Xfu,Xdl];exact Xbq _ _ h
 have h1:Xcn x x.2.2.2.1 (x.2.2.2.1.length:Int) 0=some (cond (Xit [] x.2.2.2.1) (.inl 7) (.inr ())):=by
  have:=Yfj (τ:=Unit) x.2.2.2.1 (f:=fun s=>Xcn.B x x.2.2.2.1 (x.2.2.2.1.length:Int) s) (fun i _=>(i:Int)) (fun i y _=>cond ((x.2.2.2.1.take i).contains y) (.inr (.inl 7)) (.inl ())) (fun _=>(.inr ():Int⊕Unit)) (fun i hi t=>by
   have e1:(decide ((0:Int)≤(i:Int))&&decide ((i:Int)≤(x.2.2.2.1.length:Int)))=true:=by simp;omega
   have e2:=Xll (x.2.2.2.1.take i) x.2.2.2.1[i] (by simp;omega)
   simp only[Xcn.B,Yxm hi,Yxb hi,Yw4,toNat_cast,getD_lt _ hi,e1,List.drop_zero,e2,Option.bind_some,Yvo (by omega:i<4294967296)]
   cases (x.2.2.2.1.take i).contains x.2.2.2.1[i]<;>rfl) (fun t=>by
   simp only[Xcn.B,Yxe (Nat.le_refl _),Ywx]) () (s:=0) rfl
  refine Eq.trans this ?_
  congr 1
  exact Xg4 x.2.2.2.1 x.2.2.2.1.length 0 (by omega)
 have h8:(!((8:Int) == 0))=true:=rfl;simp only[Xcg,Xho,Xhi,Xid,Option.bind_some,h8,Yw4,h0,h1,Xik,Xkl,Yvh];cases inR x.2.1 1 60
 ·rfl
 ·cases inR x.2.2.1 0 32
  ·rfl
  ·simp only[Bool.not_true,Ywx]
   cases ((x.2.2.2.1.length:Int) != w64 ((w64 ((w64 (x.2.2.1+8))-1)).tdiv 8))
   ·simp only[Ywx]
    cases x.2.2.2.1.any fun b=>!inR b 0 19
    ·simp only[Ywx]
     cases Xit [] x.2.2.2.1<;>rfl
    ·rfl
   ·rfl
def Xeq (prev:Option (List UInt8)) (e:Xf):Int:=
 cond (Xcy e.1 != 0) (Xcy e.1) (cond (!inR e.2.1 0 9) 3 (match prev with | none=>0 | some p=>cond (leB p e.1) 0 1))
def Xcx:Option (List UInt8)→List Xf→Int
 |_,[]=>0
 |p,e::l=>cond (Xeq p e != 0) (Xeq p e) (Xcx (some e.1) l)
def Xi6 (x:Xa):Int:=cond (decide ((x.2.2.2.2.1.length:Int)>6)) 2 (Xcx none x.2.2.2.2.1)
theorem Xj4:∀ (a b:List UInt8),(leB a b || a == b) = !leB b a
 |[],[]=>rfl
 |[],_::_=>rfl
 |_::_,[]=>by simp[leB]
 |x::a,y::b=>by
  have ih:=Xj4 a b;simp only[leB]
  by_cases e:x=y
  ·subst e
   have h:¬ x<x:=UInt8.lt_irrefl x;simp only[h,decide_false,Bool.false_or,beq_self_eq_true,Bool.true_and]
   rw[←ih,show(x::a == x::b)=(a == b) by simp]
  ·have e':¬ y=x:=fun h=>e h.symm
   rw[show(x == y)=false by simp[e],show(y == x)=false by simp[e'],show(x::a == y::b)=false by simp[e]]
   simp only[Bool.false_and,Bool.or_false]
   by_cases h1:x<y
   ·have:¬ y<x:=fun h=>absurd (UInt8.lt_trans h1 h) (UInt8.lt_irrefl x)
    simp[h1,this]
   ·have:y<x:=by
     rw[UInt8.lt_iff_toNat_lt] at *;have:x.toNat≠y.toNat:=fun h=>e (UInt8.toNat_inj.1 h);omega
    simp[h1,this]
def Xcl (l:List Xf):Nat→Option (List UInt8)
 |0=>none
 |j+1=>(l[j]?).map (·.1)
theorem Xgi (l:List Xf):∀ (k n:Nat),n+k=l.length→Yba (τ:=Unit) (fun i e _=>cond (Xeq (Xcl l i) e != 0) (.inr (.inl (Xeq (Xcl l i) e))) (.inl ())) (fun _=>(.inr ():Int⊕Unit)) n (l.drop n) () =
  cond (Xcx (Xcl l n) (l.drop n) != 0) (.inl (Xcx (Xcl l n) (l.drop n))) (.inr ())
 |0,n,h=>by
  have:n=l.length:=by omega
  subst this
  simp[Yba,Xcx]
 |k+1,n,h=>by
  have hn:n<l.length:=by omega
  have hp:Xcl l (n+1)=some l[n].1:=by simp[Xcl,hn]
  have ih:=Xgi l k (n+1) (by omega)
  rw[hp] at ih;rw[List.drop_eq_getElem_cons hn];simp only[Yba,Xcx];generalize Xcl l n=p;cases hc:(Xeq p l[n] != 0)
  ·simp only[Ywx,Yw2];exact ih
  ·simp only[Yw4,Ywu,hc]
theorem Xmd (x:Xa) (hb:Bd Xc x):Xgj x=some (Xi6 x):=by
 simp only[Xgj,Xi6]
 cases hd:decide ((x.2.2.2.2.1.length:Int)>6) with
 |true=>rfl
 |false=>
  have hl:x.2.2.2.2.1.length≤6:=by simp at hd;omega
  have h:Xg0 x 0=some (cond (Xcx none x.2.2.2.2.1 != 0) (.inl (Xcx none x.2.2.2.2.1)) (.inr ())):=by
   have:=Yfj (τ:=Unit) x.2.2.2.2.1 (f:=fun s=>Xg0.B x s) (fun i _=>(i:Int)) (fun i e _=>cond (Xeq (Xcl x.2.2.2.2.1 i) e != 0) (.inr (.inl (Xeq (Xcl x.2.2.2.2.1 i) e))) (.inl ())) (fun _=>(.inr ():Int⊕Unit)) (fun i hi t=>by
    have hn:(x.2.2.2.2.1[i]).1.length≤2147483648:=(hb.2.2.2.2.1.2 _ (List.getElem_mem hi)).1
    simp only[Xg0.B,Yxm hi,Yxb hi,Yw4,toNat_cast,getD_lt _ hi,Xig,Xnp _ hn,Option.bind_some,Yvo (by omega:i<4294967296)]
    simp only[Xeq];cases hc:(Xcy (x.2.2.2.2.1[i]).1 != 0)
    ·simp only[Ywx]
     cases inR (x.2.2.2.2.1[i]).2.1 0 9
     ·rfl
     ·simp only[Bool.not_true,Ywx]
      cases i with
      |zero=>rfl
      |succ j=>
       have hj:j<x.2.2.2.2.1.length:=by omega
       have hw:w64 (((j+1:Nat):Int)-1)=(j:Int):=by rw[Yq5 (by omega) (by omega)];omega
       rw[show decide (((j+1:Nat):Int)>0)=true by simp]
       simp only[Yw4,hw,Yxb hj,toNat_cast,getD_lt _ hj,Xcl,List.getElem?_eq_getElem hj,Option.map_some,Xj4]
       cases leB (x.2.2.2.2.1[j]).1 (x.2.2.2.2.1[j+1]).1<;>rfl
    ·simp only[Yw4,hc];rfl) (fun t=>by
    simp only[Xg0.B,Yxe (Nat.le_refl _),Ywx]) () (s:=0) rfl
   refine Eq.trans this ?_
   congr 1
   exact Xgi x.2.2.2.2.1 x.2.2.2.2.1.length 0 (by omega)
  rw[h,Ywx,Ywx,Xab,Xai]
theorem Xmz (x:Xa) (hb:Bd Xc x):Xcr x=some (Xi6 x):=by
 simp only[Xcr,Xi6]
 cases hd:decide ((x.2.2.2.2.1.length:Int)>6) with
 |true=>rfl
 |false=>
  have hl:x.2.2.2.2.1.length≤6:=by simp at hd;omega
  have h:Xcq x x.2.2.2.2.1 (x.2.2.2.2.1.length:Int) 0=some (cond (Xcx none x.2.2.2.2.1 != 0) (.inl (Xcx none x.2.2.2.2.1)) (.inr ())):=by
   have:=Yfj (τ:=Unit) x.2.2.2.2.1 (f:=fun s=>Xcq.B x x.2.2.2.2.1 (x.2.2.2.2.1.length:Int) s) (fun i _=>(i:Int)) (fun i e _=>cond (Xeq (Xcl x.2.2.2.2.1 i) e != 0) (.inr (.inl (Xeq (Xcl x.2.2.2.2.1 i) e))) (.inl ())) (fun _=>(.inr ():Int⊕Unit)) (fun i hi t=>by
    have hn:(x.2.2.2.2.1[i]).1.length≤2147483648:=(hb.2.2.2.2.1.2 _ (List.getElem_mem hi)).1
    simp only[Xcq.B,Yxm hi,Yxb hi,Yw4,toNat_cast,getD_lt _ hi,Xid,Xm1 _ hn,Option.bind_some,Yvo (by omega:i<4294967296)]
    simp only[Xeq];cases hc:(Xcy (x.2.2.2.2.1[i]).1 != 0)
    ·simp only[Ywx]
     cases inR (x.2.2.2.2.1[i]).2.1 0 9
     ·rfl
     ·simp only[Bool.not_true,Ywx]
      cases i with
      |zero=>rfl
      |succ j=>
       have hj:j<x.2.2.2.2.1.length:=by omega
       have hw:w64 (((j+1:Nat):Int)-1)=(j:Int):=by rw[Yq5 (by omega) (by omega)];omega
       rw[show decide (((j+1:Nat):Int)>0)=true by simp]
       simp only[Yw4,hw,Yxb hj,toNat_cast,getD_lt _ hj,Xcl,List.getElem?_eq_getElem hj,Option.map_some]
       cases leB (x.2.2.2.2.1[j]).1 (x.2.2.2.2.1[j+1]).1<;>rfl
    ·simp only[Yw4,hc];rfl) (fun t=>by
    simp only[Xcq.B,Yxe (Nat.le_refl _),Ywx]) () (s:=0) rfl
   refine Eq.trans this ?_
   congr 1
   exact Xgi x.2.2.2.2.1 x.2.2.2.2.1.length 0 (by omega)
  rw[h,Ywx,Ywx,Xab,Xai]
def Xaj (x:Xa):Int:=
 cond (!inR x.1 0 2) 1 (cond (cond (cond (x.1 != 1) (cond (cond (x.2.1 != 0) true (x.2.2.1 != 0)) true (decide ((x.2.2.2.1.length:Int)>0))) false) true (cond (x.1 != 2) (decide ((x.2.2.2.2.1.length:Int)>0)) false)) 1
  (cond (x.1 == 1) (Xik x) (cond (x.1 == 2) (Xi6 x) 0)))
theorem Xm9 (x:Xa) (hb:Bd Xc x):Xi4 x=some (Xaj x):=by
 simp only[Xi4,Xaj,Xig,Xnt x hb.2.2.2.1.1,Xmd x hb,Option.bind_some];simp only[Yvh]
theorem Xj2 (n:Nat):decide ((n:Int)>0) = !((n:Int) == 0):=by
 rw[Bool.eq_iff_iff];simp only[decide_eq_true_eq,Bool.not_eq_true',beq_eq_false_iff_ne,ne_eq];omega
theorem not_bne (a b:Int):(a == b) = !(a != b):=(Bool.not_not _).symm
theorem Xol (x:Xa) (hb:Bd Xc x):Xft x=some (Xaj x):=by
 simp only[Xft,Xaj,Xid,Xof x hb.2.2.2.1.1,Xmz x hb,Option.bind_some];cases inR x.1 0 2
 ·rfl
 ·simp only[Bool.not_true,Ywx]
  have e1:(cond (cond (x.2.1 == 0) (x.2.2.1 == 0) false) ((x.2.2.2.1.length:Int) == 0) false) = !(cond (cond (x.2.1 != 0) true (x.2.2.1 != 0)) true (decide ((x.2.2.2.1.length:Int)>0))):=by
   rw[show(x.2.1 != 0) = !(x.2.1 == 0) from rfl,show(x.2.2.1 != 0) = !(x.2.2.1 == 0) from rfl,Xj2]
   cases (x.2.1 == 0)<;>cases (x.2.2.1 == 0)<;>cases ((x.2.2.2.1.length:Int) == 0)<;>rfl
  have e2:(!((x.2.2.2.2.1.length:Int) == 0))=decide ((x.2.2.2.2.1.length:Int)>0):=(Xj2 _).symm;rw[e1,e2,Bool.not_not]
  cases (cond (cond (x.2.1 != 0) true (x.2.2.1 != 0)) true (decide ((x.2.2.2.1.length:Int)>0)))<;>cases h1:(x.1 != 1)<;>cases h2:(x.1 != 2)<;>cases hd:decide ((x.2.2.2.2.1.length:Int)>0)<;>simp only[Yw4,Ywx]
  all_goals (rw[not_bne x.1 1,not_bne x.1 2,h1,h2])
  all_goals simp only[Bool.not_true,Bool.not_false,Yw4,Ywx]
  all_goals first | rfl | skip
  all_goals (
   have hz:x.2.2.2.2.1=[]:=by simp at hd;exact hd
   have:Xi6 x=0:=by simp[Xi6,hz,Xcx]
   rw[this])
def Xt (l:List Xa):Int:=cond (decide ((l.length:Int)>10)) 2 (Yeg Xaj l)
theorem Xmj (l:List Xa) (hb:Bd (.sl Xc) l):Xgu l=some (Xt l):=by
 simp only[Xgu,Xt]
 cases hd:decide ((l.length:Int)>10) with
 |true=>rfl
 |false=>
  have hl:l.length≤10:=by simp at hd;omega
  have h:Xhx l 0=_:=Yus l Xaj (fun i hi=>by
   simp only[Xhx.B,Yxm hi,Yxb hi,Yw4,toNat_cast,getD_lt _ hi,Xm9 _ (hb.2 _ (List.getElem_mem hi)),Option.bind_some,Yvo (by omega:i<4294967296)]) (by
   simp only[Xhx.B,Yxe (Nat.le_refl _),Ywx])
  rw[h,Ywx,Ywx,Xab,Xai]
theorem Xl7 (l:List Xa) (hb:Bd (.sl Xc) l):Xcj l=some (Xt l):=by
 simp only[Xcj,Xt]
 cases hd:decide ((l.length:Int)>10) with
 |true=>rfl
 |false=>
  have hl:l.length≤10:=by simp at hd;omega
  have h:Xdo l (l.length:Int) 0=_:=Yus l Xaj (fun i hi=>by
   simp only[Xdo.B,Yxm hi,Yxb hi,Yw4,toNat_cast,getD_lt _ hi,Xol _ (hb.2 _ (List.getElem_mem hi)),Option.bind_some,Yvo (by omega:i<4294967296)]) (by
   simp only[Xdo.B,Yxe (Nat.le_refl _),Ywx])
  rw[h,Ywx,Ywx,Xab,Xai]
def X6 (l:List Xa):List Int:=l.flatMap fun x=>x.2.2.2.1
theorem Xd3 {x:Xa} (h:Xaj x=0):x.2.2.2.1.length≤4∧(∀ b∈x.2.2.2.1,0≤b∧b≤19)∧(x.1≠1→x.2.2.2.1=[])∧(x.1=1→Xik x=0):=by
 unfold Xaj at h
 cases h1:inR x.1 0 2 with
 |false=>rw[h1] at h;cases h
 |true=>
  rw[h1] at h;simp only[Bool.not_true,Ywx] at h
  by_cases e:x.1=1
  ·rw[show(x.1 != 1)=false by simp[e]] at h
   cases h2:cond (cond false (cond (cond (x.2.1 != 0) true (x.2.2.1 != 0)) true (decide ((x.2.2.2.1.length:Int)>0))) false) true (cond (x.1 != 2) (decide ((x.2.2.2.2.1.length:Int)>0)) false) with
   |true=>rw[h2] at h;cases h
   |false=>
    rw[h2,show(x.1 == 1)=true by simp[e]] at h
    simp only[Ywx,Yw4] at h;have hf:=h;unfold Xik at h
    cases h3:inR x.2.1 1 60 with
    |false=>rw[h3] at h;cases h
    |true=>
     rw[h3] at h
     cases h4:inR x.2.2.1 0 32 with
     |false=>rw[h4] at h;cases h
     |true=>
      rw[h4] at h;simp only[Bool.not_true,Ywx] at h
      cases h5:((x.2.2.2.1.length:Int) != Xkl x.2.2.1) with
      |true=>rw[h5] at h;cases h
      |false=>
       rw[h5] at h;simp only[Ywx] at h
       cases h6:(x.2.2.2.1.any fun b=>!inR b 0 19) with
       |true=>rw[h6] at h;cases h
       |false=>
        refine⟨?_,fun b hb=>?_,fun h=>absurd e h,fun _=>hf⟩
        ·have hs:=Xc4.1 h4
         have:(x.2.2.2.1.length:Int)=Xkl x.2.2.1:=by simpa using h5
         unfold Xkl at this
         rw[Yq5 (x:=x.2.2.1+8) (by omega) (by omega),Yq5 (x:=x.2.2.1+8-1) (by omega) (by omega),Int.tdiv_eq_ediv_of_nonneg (by omega),Yq5 (by omega) (by omega)] at this
         omega
        ·have:=List.any_eq_false.1 h6 b hb
         exact Xc4.1 (by simpa using this)
  ·rw[show(x.1 != 1)=true by simp[e]] at h
   cases h2:decide ((x.2.2.2.1.length:Int)>0) with
   |true=>
    rw[h2] at h;simp only[Yw4,Yvm] at h
    cases h
   |false=>
    have hz:x.2.2.2.1=[]:=by simp at h2;exact h2
    exact⟨by simp[hz],by simp[hz],fun _=>hz,fun h=>absurd h e⟩
theorem Xa5 {α:Type} {c:α→Int}:∀ {l:List α},Yeg c l=0↔∀ x∈l,c x=0
 |[]=>by simp[Yeg]
 |x::l=>by
  simp only[Yeg,List.mem_cons,forall_eq_or_imp];cases h:(c x != 0)
  ·have:c x=0:=by simpa using h
   simp only[Ywx,this,true_and];exact Xa5
  ·have:c x≠0:=by simpa using h
   simp only[Yw4];exact⟨fun e=>absurd e this,fun e=>absurd e.1 this⟩
theorem X3 {l:List Xa} (h:Xt l=0):l.length≤10∧∀ x∈l,Xaj x=0:=by
 unfold Xt at h
 cases h1:decide ((l.length:Int)>10) with
 |true=>rw[h1] at h;cases h
 |false=>rw[h1] at h;exact⟨by simp at h1;omega,Xa5.1 h⟩
structure Xbr (l:List Xa):Prop where
 len:l.length≤10
 blk:∀ x∈l,x.2.2.2.1.length≤4∧∀ b∈x.2.2.2.1,0≤b∧b≤19
theorem Xbr.of {l:List Xa} (h:Xt l=0):Xbr l:=
 ⟨(X3 h).1,fun x hx=>⟨(Xd3 ((X3 h).2 x hx)).1,(Xd3 ((X3 h).2 x hx)).2.1⟩⟩
theorem Xjh:∀ {l:List Xa},(∀ x∈l,x.2.2.2.1.length≤4)→(X6 l).length≤4*l.length
 |[],h=>by simp[X6]
 |x::l,h=>by
  have h1:=h x (List.mem_cons_self ..);have:=Xjh (l:=l) fun y hy=>h y (List.mem_cons_of_mem _ hy);simp only[X6,List.flatMap_cons,List.length_append,List.length_cons] at *;omega
theorem Xbr.all {l:List Xa} (h:Xbr l):(X6 l).length≤40∧∀ b∈X6 l,0≤b∧b≤19:=by
 refine⟨by have:=Xjh (l:=l) fun x hx=>(h.blk x hx).1;have:=h.len;omega,fun b hb=>?_⟩
 obtain⟨x,hx,hb⟩:=List.mem_flatMap.1 hb;exact(h.blk x hx).2 b hb
theorem Xoi (l:List Xa) (at_:Int) (i:Nat) (hi:i<l.length) (n:Nat) (hb:l[i].2.2.2.1.length≤4) (hn:n≤1000):Xe8 l at_ (i:Int) ((n:Int),0)=some (((n+l[i].2.2.2.1.count at_:Nat):Int)):=by
 have h:=Ym3 (τ:=Nat) l[i].2.2.2.1 (f:=fun s=>Xe8.B l at_ (i:Int) s.1 s.2) (fun k m=>((m:Int),(k:Int))) (fun _ y m=>.inl (m+(if y == at_ then 1 else 0))) (fun m=>((m:Nat):Int)) (fun k m=>m≤n+k)
  (fun k hk m hm=>by
   simp only[Xe8.B,Yxb hi,Yw4,toNat_cast,getD_lt _ hi,Option.bind_some,Yxm hk,Yxb hk,getD_lt _ hk,Yvo (by omega:k<4294967296),Yvo (by omega:m<4294967296),sel]
   cases h:(l[i].2.2.2.1[k] == at_)<;>simp[h])
  (fun k hk m m' hm e=>by cases e;split<;>omega)
  (fun m hm=>by
   simp only[Xe8.B,Yxb hi,Yw4,toNat_cast,getD_lt _ hi,Option.bind_some,Yxe (Nat.le_refl _),Ywx]) n (by omega) (s:=((n:Int),0)) rfl
 refine Eq.trans h ?_;rw[Yfm]
 congr 2
 have:∀ (l:List Int) (m:Nat),l.foldl (fun t y=>t+(if y == at_ then 1 else 0)) m=m+l.count at_:=by
  intro l
  induction l with
  |nil=>intro m;simp
  |cons y l ih=>intro m;rw[List.foldl_cons,ih,List.count_cons];omega
 exact this _ _
theorem Xl1 (l:List Xa) (hok:Xbr l) (at_:Int):Xiz l at_=some ((((X6 l).count at_:Nat):Int)):=by
 have h:=Ym3 (τ:=Nat) l (f:=fun s=>Xg2.B l at_ s.1 s.2) (fun k m=>((m:Int),(k:Int))) (fun _ x m=>.inl (m+x.2.2.2.1.count at_)) (fun m=>((m:Nat):Int)) (fun k m=>m≤4*k)
  (fun k hk m hm=>by
   have hl:=hok.len
   simp only[Xg2.B,Yxm hk,Yw4,Xoi l at_ k hk m (hok.blk _ (List.getElem_mem hk)).1 (by omega),Option.bind_some,Yvo (by omega:k<4294967296),sel])
  (fun k hk m m' hm e=>by cases e;have:=(hok.blk _ (List.getElem_mem hk)).1;have:=List.count_le_length (a:=at_) (l:=l[k].2.2.2.1);omega)
  (fun m hm=>by simp only[Xg2.B,Yxe (Nat.le_refl _),Ywx]) 0 (by omega) (s:=(0,0)) rfl
 have h':Xg2 l at_ (0,0)=_:=h;simp only[Xiz,h',Option.bind_some];rw[Yfm]
 have:∀ (l:List Xa) (m:Nat),l.foldl (fun t x=>t+x.2.2.2.1.count at_) m=m+(X6 l).count at_:=by
  intro l
  induction l with
  |nil=>intro m;simp[X6]
  |cons y l ih=>intro m;rw[List.foldl_cons,ih];simp only[X6,List.flatMap_cons,List.count_append];omega
 rw[this,Nat.zero_add]
def r20:List Int:=(List.range 20).map Int.ofNat
theorem Xi2:r20.length=20:=by simp[r20]
theorem Xe0 (k:Nat) (h:k<r20.length):r20[k]=(k:Int):=by simp[r20]
theorem Xja (a:Int):a∈r20↔0≤a∧a≤19:=by
 simp only[r20,List.mem_map,List.mem_range]
 constructor
 ·rintro⟨k,h1,rfl⟩;simp;omega
 ·intro h;exact⟨a.toNat,by omega,by simp;omega⟩
def X8 (l:List Xa):List Int:=r20.filter fun b=>(X6 l).contains b
def Xaz (l:List Xa):Bool:=decide (X6 l).Nodup
theorem Xlh (l:List Xa) (hok:Xbr l):Xec l=some (X8 l,Xaz l):=by
 have h:=Ym3 (τ:=Bool×List Int) r20 (f:=fun s=>Xh1.B l s.1 s.2.1 s.2.2) (fun k t=>(t.1,((k:Int),t.2))) (fun _ b t=>.inl (t.1&&decide ((X6 l).count b≤1),cond ((X6 l).contains b) (t.2++[b]) t.2)) (fun t=>t) (fun k t=>t.2.length≤k)
  (fun k hk t ht=>by
   have hk':k<20:=by rw[Xi2] at hk;exact hk
   rw[Xe0 k hk]
   have h20:decide ((k:Int)<20)=true:=by simp;omega
   simp only[Xh1.B,h20,Yw4,Xl1 l hok,Option.bind_some,Yvo (by omega:k<4294967296),sel]
   have e1:decide ((((X6 l).count (k:Int):Nat):Int)>0)=(X6 l).contains (k:Int):=by
    rw[Bool.eq_iff_iff];simp only[decide_eq_true_eq,List.contains_iff_mem,←List.count_pos_iff];omega
   have e2:cond t.1 (decide ((((X6 l).count (k:Int):Nat):Int)≤1)) false=(t.1&&decide ((X6 l).count (k:Int)≤1)):=by
    cases t.1
    ·rfl
    ·simp only[Yw4,Bool.true_and];rw[Bool.eq_iff_iff];simp;omega
   rw[e1,e2,Xaa (by simp;omega)]
   cases (X6 l).contains (k:Int)<;>rfl)
  (fun k hk t t' ht e=>by cases e;simp only;cases (X6 l).contains _<;>simp<;>omega)
  (fun t ht=>by
   rw[Xi2];rfl) (true,[]) (by simp) (s:=(true,0,[])) rfl
 have h':Xh1 l (true,0,[])=_:=h;simp only[Xec,h',Option.bind_some];rw[Yfm]
 have hf:∀ (m:List Int) (t:Bool×List Int),m.foldl (fun t b=>(t.1&&decide ((X6 l).count b≤1),cond ((X6 l).contains b) (t.2++[b]) t.2)) t=(t.1&&m.all fun b=>decide ((X6 l).count b≤1),t.2++m.filter fun b=>(X6 l).contains b):=by
  intro m
  induction m with
  |nil=>intro t;simp
  |cons b m ih=>
   intro t;rw[List.foldl_cons,ih,List.all_cons,List.filter_cons]
   cases (X6 l).contains b<;>simp[Bool.and_assoc]
 rw[hf];simp only[Bool.true_and,List.nil_append]
 congr 2
 rw[Bool.eq_iff_iff];simp only[Xaz,List.all_eq_true,decide_eq_true_eq,List.nodup_iff_count]
 constructor
 ·intro h a
  by_cases ha:a∈X6 l
  ·have:=hok.all.2 a ha
   exact h a ((Xja a).2 this)
  ·rw[List.count_eq_zero.2 ha];omega
 ·intro h a _;exact h a
theorem Xic (s0:List Int) (k0:Nat) (h0:0<k0) (h1:k0<s0.length) (hl:s0.length≤2147483648):∀ (m j k:Nat) (s:List Int),j+m=s0.length-k0→0<j→s.length=s0.length→k<k0+j→∃ (k':Nat) (s':List Int),Xas k0 (s0.length-k0) ((k:Int),(j:Int),s)=some ((k':Int),s')∧s'.length=s0.length∧k'<s0.length
 |0,j,k,s,hj,h2,h3,h4=>by
  refine⟨k,s,Y5 ?_,h3,by omega⟩
  simp only[Xas.B,show decide ((j:Int)<((s0.length-k0:Nat):Int))=false by simp;omega,Ywx]
 |m+1,j,k,s,hj,h2,h3,h4=>by
  have hw:w64 ((j:Int)-1)=((j-1:Nat):Int):=by rw[Yq5 (by omega) (by omega)];omega
  have hst:∃ k' s',Xas.B k0 (s0.length-k0) (k:Int) (j:Int) s=some (.inl ((k':Nat),((j+1:Nat):Int),s'))∧s'.length=s0.length∧k'<k0+(j+1):=by
   simp only[Xas.B,show decide ((j:Int)<((s0.length-k0:Nat):Int))=true by simp;omega,Yxb (by omega:j<s0.length-k0),hw,Yxb (by omega:j-1<s0.length-k0),Yxb (by omega:k<s.length),Yw4,Option.bind_some,toNat_cast,Yvo (by omega:j<4294967296),Yvo (by omega:k<4294967296)]
   cases (s.getD (k0+j) 0 != s.getD (k0+(j-1)) 0)
   ·exact⟨k,s,rfl,h3,by omega⟩
   ·exact⟨k+1,_,rfl,by simpa using h3,by omega⟩
  obtain⟨k1,s1,e1,e2,e3⟩:=hst
  obtain⟨k',s',q1,q2,q3⟩:=Xic s0 k0 h0 h1 hl m (j+1) k1 s1 (by omega) (by omega) e2 (by omega)
  refine⟨k',s',?_,q2,q3⟩;unfold Xas;rw[Yaq (s':=((k1:Int),((j+1:Nat):Int),s1)) e1];exact q1
theorem Xif (s:List Int) (hl:s.length≤2147483648):∀ (m n:Nat),n+m=s.length→0<n→
  (Xac s (n:Int)=some (.inr ())∧∀ i,n≤i→(h:i<s.length)→s[i]≠s[i-1])∨(∃ (k:Nat) (s':List Int),Xac s (n:Int)=some (.inl (0,k-0,s'))∧s'.length=s.length∧k<s.length∧∃ i,n≤i∧∃ h:i<s.length,s[i]=s[i-1])
 |0,n,hn,h0=>by
  have:n=s.length:=by omega
  subst this
  refine .inl ⟨Y5 ?_,fun i h1 h2=>by omega⟩
  simp only[Xac.B,Yxe (Nat.le_refl _),Ywx]
 |m+1,n,hn,h0=>by
  have hlt:n<s.length:=by omega
  have hw:w64 ((n:Int)-1)=((n-1:Nat):Int):=by rw[Yq5 (by omega) (by omega)];omega
  by_cases he:s[n]=s[n-1]
  ·refine .inr ?_
   obtain⟨k',s',q1,q2,q3⟩:=Xic s n h0 hlt hl (s.length-n-1) 1 n s (by omega) (by omega) rfl (by omega)
   refine⟨k',splice s' k' (List.replicate (s'.length-k') 0),Y5 ?_,by simp[splice];omega,q3,n,Nat.le_refl _,hlt,he⟩
   have q1':Xas n (s.length-n) ((n:Int),1,s)=some ((k':Int),s'):=q1
   simp only[Xac.B,Yxm hlt,Yxb hlt,hw,Yxb (by omega:n-1<s.length),Yw4,Option.bind_some,toNat_cast,getD_lt _ hlt,getD_lt _ (by omega:n-1<s.length),he,beq_self_eq_true,q1']
   rw[show(decide ((0:Int)≤(n:Int))&&decide ((n:Int)≤(s.length:Int)))=true by simp;omega,show(decide ((0:Int)≤(k':Int))&&decide ((k':Int)≤(s'.length:Int)))=true by simp;omega,
    show(decide ((0:Int)≤(k':Int))&&decide ((k':Int)≤((splice s' k' (List.replicate (s'.length-k') 0)).length:Int)))=true by simp[splice];omega]
   rfl
  ·have hst:Xac.B s (n:Int)=some (.inl ((n+1:Nat):Int)):=by
    simp only[Xac.B,Yxm hlt,Yxb hlt,hw,Yxb (by omega:n-1<s.length),Yw4,Option.bind_some,toNat_cast,getD_lt _ hlt,getD_lt _ (by omega:n-1<s.length),Yvo (by omega:n<4294967296)]
    rw[show(s[n] == s[n-1])=false by simp[he]]
    rfl
   unfold Xac;rw[Yaq (f:=fun s_1=>Xac.B s s_1) hst]
   rcases Xif s hl m (n+1) (by omega) (by omega) with ⟨q1,q2⟩ | ⟨k,s',q1,q2,q3,i,q4,q5,q6⟩
   ·refine .inl ⟨q1,fun i h1 h2=>?_⟩
    by_cases e:i=n
    ·subst e;exact he
    ·exact q2 i (by omega) h2
   ·exact .inr ⟨k,s',q1,q2,q3,i,by omega,q5,q6⟩
theorem Xj1 (s:List Int) (hl:s.length≤2147483648) (hs:s.Pairwise fun a b=>a≤b):∃ r,Xfy s=some r∧((r.length:Int) == (s.length:Int))=decide s.Nodup:=by
 simp only[Xfy]
 by_cases h2:s.length<2
 ·rw[show decide ((s.length:Int)<2)=true by simp;omega]
  refine⟨s,rfl,?_⟩
  have:s.Nodup:=by
   match s,h2 with
   |[],_=>simp
   |[x],_=>simp
  simp[this]
 ·rw[show decide ((s.length:Int)<2)=false by simp;omega]
  simp only[Ywx]
  have hle:∀ i j,(hij:i≤j)→(hj:j<s.length)→s[i]≤s[j]:=by
   intro i j hij hj;rcases Nat.lt_or_eq_of_le hij with h | h
   ·exact List.pairwise_iff_getElem.1 hs i j _ hj h
   ·subst h;exact Int.le_refl _
  rcases Xif s hl (s.length-1) 1 (by omega) (by omega) with ⟨q1,q2⟩ | ⟨k,s',q1,q2,q3,i,q4,q5,q6⟩
  ·have q1':Xac s 1=some (.inr ()):=q1
   rw[q1'];refine⟨s,rfl,?_⟩
   have:s.Nodup:=by
    rw[List.Nodup,List.pairwise_iff_getElem];intro i j hi hj hij he
    have h1:=hle i (j-1) (by omega) (by omega)
    have h2:=hle (j-1) j (by omega) hj
    exact q2 j (by omega) hj (by omega)
   simp[this]
  ·have q1':Xac s 1=some (.inl (0,k-0,s')):=q1
   rw[q1'];refine⟨_,rfl,?_⟩
   have:¬ s.Nodup:=by
    intro hn
    exact List.pairwise_iff_getElem.1 hn (i-1) i (by omega) q5 (by omega) q6.symm
   simp only[this,decide_false]
   have hlen:((List.drop 0 s').take (k-0)).length=k:=by simp;omega
   rw[hlen];simp;omega
def Xej (l:List Int):List Int:=l.mergeSort fun x y=>decide (x≤y)
theorem Xe3 (l:List Int):(Xej l).Pairwise fun a b=>a≤b:=by
 have:=List.pairwise_mergeSort (le:=fun x y:Int=>decide (x≤y)) (fun a b c h1 h2=>by simp at *;omega) (fun a b=>by simp;omega) l
 simpa [Xej] using this
theorem Xet (l:List Int):(Xej l).Perm l:=List.mergeSort_perm _ _
theorem Xin (l:List Int):(Xej l).length=l.length:=(Xet l).length_eq
theorem Xkw {l:List Int} (h:l.length≤2147483648):Yub l=some (Xej l):=by
 unfold Yub Xej;rw[Xaa h];rfl
theorem Xlb (l:List Xa) (hok:Xbr l):Xat l=some (Xej (X6 l),Xaz l):=by
 have hall:=hok.all
 have h:Xck l (l.length:Int) (0,[])=some (l.foldl (fun t x=>t++x.2.2.2.1) []):=
  Yib l (f:=fun s=>Xck.B l (l.length:Int) s.1 s.2) (fun t x=>t++x.2.2.2.1) id (fun i t=>t.length≤4*i) (fun i hi t ht=>by
   have h4:=(hok.blk _ (List.getElem_mem hi)).1;have hl:=hok.len
   refine⟨?_,by simp;omega⟩
   simp only[Xck.B,Yxm hi,Yxb hi,Yw4,toNat_cast,getD_lt _ hi,Option.bind_some,Yvo (by omega:i<4294967296)]
   rw[Xaa (by simp;omega)];rfl) (fun t ht=>by
   simp only[Xck.B,Yxe (Nat.le_refl _),Ywx,id]) [] (by simp)
 have h2:∀ (l:List Xa) (t:List Int),l.foldl (fun t x=>t++x.2.2.2.1) t=t++X6 l:=by
  intro l
  induction l with
  |nil=>intro t;simp[X6]
  |cons x l ih=>intro t;rw[List.foldl_cons,ih];simp[X6]
 rw[h2,List.nil_append] at h
 obtain⟨r,hr1,hr2⟩:=Xj1 (Xej (X6 l)) (by rw[Xin];omega) (Xe3 _)
 simp only[Xat,h,Option.bind_some,Xhd,Xkw (by omega:(X6 l).length≤2147483648),Xdh,Xkj (by rw[Xin];omega:(Xej (X6 l)).length≤2147483648),hr1,hr2]
 congr 2
 rw[Bool.eq_iff_iff];simp only[Xaz,decide_eq_true_eq];exact(Xet _).nodup_iff
theorem Xkh (l:List Xa) (hok:Xbr l) (h:Xaz l=true):Xej (X6 l)=X8 l:=by
 have hn:(X6 l).Nodup:=by simpa [Xaz] using h
 refine List.Perm.eq_of_pairwise (le:=fun a b=>a≤b) (fun a b _ _ h1 h2=>by omega) (Xe3 _) ?_ ?_
 ·refine List.Pairwise.filter _ ?_
  rw[List.pairwise_iff_getElem];intro i j hi hj hij;rw[Xe0,Xe0];omega
 ·refine(Xet _).trans ?_
  rw[List.perm_iff_count];intro a
  have hr:r20.Nodup:=by
   rw[List.Nodup,List.pairwise_iff_getElem];intro i j hi hj hij;rw[Xe0,Xe0];omega
  have hu:(X8 l).Nodup:=List.Pairwise.filter _ hr;rw[hn.count,hu.count]
  congr 1
  rw[X8,List.mem_filter,Xja];simp only[List.contains_iff_mem,eq_iff_iff];exact⟨fun h=>⟨hok.all.2 a h,h⟩,fun h=>h.2⟩
theorem Xjs:∀ {p:Option (List UInt8)} {l:List Xf},Xcx p l=0→∀ e∈l,Xcy e.1=0∧0≤e.2.1∧e.2.1≤9
 |p,[],h,e,he=>by cases he
 |p,x::l,h,e,he=>by
  simp only[Xcx] at h
  cases hc:(Xeq p x != 0) with
  |true=>
   rw[hc] at h
   have:Xeq p x≠0:=by simpa using hc
   exact absurd h this
  |false=>
   rw[hc] at h;rcases List.mem_cons.1 he with rfl | he
   ·have h0:Xeq p e=0:=by simpa using hc
    unfold Xeq at h0
    cases h1:(Xcy e.1 != 0) with
    |true=>rw[h1] at h0;exact absurd h0 (by simpa using h1)
    |false=>
     rw[h1] at h0
     cases h2:inR e.2.1 0 9 with
     |false=>rw[h2] at h0;cases h0
     |true=>exact⟨by simpa using h1,Xc4.1 h2⟩
   ·exact Xjs h e he
theorem Xa2 {x:Xa} (h:Xaj x=0):(0≤x.1∧x.1≤2)∧x.2.2.2.2.1.length≤6∧(x.1≠2→x.2.2.2.2.1=[])∧(x.1=2→Xi6 x=0)∧(x.1≠1→x.2.1=0∧x.2.2.1=0)∧∀ e∈x.2.2.2.2.1,Xcy e.1=0∧0≤e.2.1∧e.2.1≤9:=by
 unfold Xaj at h
 cases h1:inR x.1 0 2 with
 |false=>rw[h1] at h;cases h
 |true=>
  rw[h1] at h;simp only[Bool.not_true,Ywx] at h;have hk:=Xc4.1 h1
  have hz:x.1≠1→x.2.1=0∧x.2.2.1=0:=by
   intro e
   rw[show(x.1 != 1)=true by simp[e]] at h
   cases h2:(x.2.1 != 0) with
   |true=>rw[h2] at h;cases h
   |false=>
    cases h3:(x.2.2.1 != 0) with
    |true=>rw[h2,h3] at h;cases h
    |false=>exact⟨by simpa using h2,by simpa using h3⟩
  cases h2:cond (cond (x.1 != 1) (cond (cond (x.2.1 != 0) true (x.2.2.1 != 0)) true (decide ((x.2.2.2.1.length:Int)>0))) false) true (cond (x.1 != 2) (decide ((x.2.2.2.2.1.length:Int)>0)) false) with
  |true=>rw[h2] at h;cases h
  |false=>
   rw[h2] at h
   by_cases e:x.1=2
   ·rw[show(x.1 == 1)=false by simp[e],show(x.1 == 2)=true by simp[e]] at h
    simp only[Ywx,Yw4] at h;have hd:=h;unfold Xi6 at h
    cases h3:decide ((x.2.2.2.2.1.length:Int)>6) with
    |true=>rw[h3] at h;cases h
    |false=>
     rw[h3] at h
     exact⟨hk,by simp at h3;omega,fun hh=>absurd e hh,fun _=>hd,hz,Xjs h⟩
   ·rw[show(x.1 != 2)=true by simp[e]] at h2
    have:x.2.2.2.2.1=[]:=by
     cases h3:decide ((x.2.2.2.2.1.length:Int)>0) with
     |true=>
      rw[h3] at h2;exfalso
      revert h2
      generalize cond (x.1 != 1) (cond (cond (x.2.1 != 0) true (x.2.2.1 != 0)) true (decide ((x.2.2.2.1.length:Int)>0))) false=b
      cases b<;>intro h2<;>cases h2
     |false=>simp at h3;exact h3
    exact⟨hk,by simp[this],fun _=>this,fun hh=>absurd hh e,hz,by simp[this]⟩
def X7 (l:List Xa) (e:Xf):Bool:=cond (decide (e.2.1≥(l.length:Int))) true ((l.getD e.2.1.toNat Xb).1 == 0)
def Xd2 (f:Fs_):Int:=cond (Xt f.1 != 0) (Xt f.1) (cond (cond (cond ((f.1.length:Int) == 0) true ((f.1.getD 0 Xb).1 != 2)) true ((f.2.1.length:Int) != 20)) 1 0)
def Xbz (f:Fs_):Int:=cond (Xd2 f != 0) (Xd2 f)
 (cond (f.2.1.any fun b=>decide ((b.length:Int)>8)) 2 (cond (!Xaz f.1) 7 (cond (f.1.any fun x=>x.2.2.2.2.1.any (X7 f.1)) 4 0)))
structure Xek (l:List Xa):Prop where
 ent:∀ x∈l,x.2.2.2.2.1.length≤6∧∀ e∈x.2.2.2.2.1,0≤e.2.1∧e.2.1≤9
theorem Xek.of {l:List Xa} (h:Xt l=0):Xek l:=
 ⟨fun x hx=>⟨(Xa2 ((X3 h).2 x hx)).2.1,fun e he=>((Xa2 ((X3 h).2 x hx)).2.2.2.2.2 e he).2⟩⟩
theorem Xnc (f:Fs_) (hok:Xbr f.1) (hen:Xek f.1) (n:Nat) (hn:n<f.1.length):Xe4 f (n:Int) 0=some (cond (f.1[n].2.2.2.2.1.any (X7 f.1)) (.inl 4) (.inr ())):=
 Ywl f.1[n].2.2.2.2.1 (f:=fun s=>Xe4.B f (n:Int) s) (X7 f.1) (4:Int) (fun i hi=>by
  have hx:=hen.ent _ (List.getElem_mem hn);have he:=hx.2 _ (List.getElem_mem hi)
  simp only[Xe4.B,Yxb hn,Yw4,toNat_cast,getD_lt _ hn,Option.bind_some,Yxm hi,Yxb hi,getD_lt _ hi,Yvo (by omega:i<4294967296),X7]
  by_cases hh:(f.1[n].2.2.2.2.1[i]).2.1≥(f.1.length:Int)
  ·rw[show decide ((f.1[n].2.2.2.2.1[i]).2.1≥(f.1.length:Int))=true by simp[hh]];rfl
  ·rw[show decide ((f.1[n].2.2.2.2.1[i]).2.1≥(f.1.length:Int))=false by simp;omega,show inB (f.1[n].2.2.2.2.1[i]).2.1 f.1.length=true from Yu7 he.1 (by omega)]
   rfl) (by
  simp only[Xe4.B,Yxb hn,Yw4,toNat_cast,getD_lt _ hn,Option.bind_some,Yxe (Nat.le_refl _),Ywx])
theorem Xmg (f:Fs_) (hb:Bd Xn f):Xd1 f=some (Xbz f):=by
 simp only[Xd1,Xbz,Xd2,Xmj f.1 hb.1,Option.bind_some]
 cases hi:(Xt f.1 != 0) with
 |true=>simp only[Yw4,hi]
 |false=>
  have h0:Xt f.1=0:=by simpa using hi
  have hok:=Xbr.of h0;have hen:=Xek.of h0;simp only[Ywx]
  have e1:cond (!((f.1.length:Int) == 0)) (inB 0 f.1.length) true=true:=by
   cases hl:((f.1.length:Int) == 0) with
   |true=>rfl
   |false=>exact Yxb (i:=0) (by
     have:(f.1.length:Int)≠0:=by simpa using hl
     omega)
  rw[e1];simp only[Yw4,show(0:Int).toNat=0 from rfl]
  cases hr:cond (cond ((f.1.length:Int) == 0) true ((f.1.getD 0 Xb).1 != 2)) true ((f.2.1.length:Int) != 20) with
  |true=>rfl
  |false=>
   have hd:f.2.1.length=20:=by
    cases h20:((f.2.1.length:Int) != 20) with
    |false=>have:(f.2.1.length:Int)=20:=by simpa using h20
            omega
    |true=>rw[h20] at hr;cases hh:(cond ((f.1.length:Int) == 0) true ((f.1.getD 0 Xb).1 != 2))<;>rw[hh] at hr<;>cases hr
   have h1:Xhs f 0=_:=Ywl f.2.1 (fun b=>decide ((b.length:Int)>8)) (2:Int) (fun i hi=>by
    simp only[Xhs.B,Yxm hi,Yxb hi,Yw4,toNat_cast,getD_lt _ hi,Option.bind_some,Yvo (by omega:i<4294967296)]) (by
    simp only[Xhs.B,Yxe (Nat.le_refl _),Ywx])
   have h2:Xhz f 0=_:=Ywl f.1 (fun x=>x.2.2.2.2.1.any (X7 f.1)) (4:Int) (fun i hi=>by
    have hl:=hok.len
    simp only[Xhz.B,Yxm hi,Yw4,Xnc f hok hen i hi,Option.bind_some,Yvo (by omega:i<4294967296)]
    cases (f.1[i].2.2.2.2.1.any (X7 f.1))<;>rfl) (by
    simp only[Xhz.B,Yxe (Nat.le_refl _),Ywx])
   simp only[Ywx,h1,h2,Option.bind_some,Xlh f.1 hok];cases f.2.1.any fun b=>decide ((b.length:Int)>8)
   ·simp only[Ywx,Ywu]
    cases Xaz f.1
    ·rfl
    ·simp only[Bool.not_true,Ywx]
     cases f.1.any fun x=>x.2.2.2.2.1.any (X7 f.1)<;>rfl
   ·rfl
theorem Xn3 (f:Fs_) (hb:Bd Xn f):Xfb f=some (Xd2 f):=by
 simp only[Xfb,Xd2,Xl7 f.1 hb.1,Option.bind_some]
 cases hi:(Xt f.1 != 0) with
 |true=>simp only[Yw4]
 |false=>
  simp only[Ywx]
  have e1:cond (!((f.1.length:Int) == 0)) (inB 0 f.1.length) true=true:=by
   cases hl:((f.1.length:Int) == 0) with
   |true=>rfl
   |false=>exact Yxb (i:=0) (by
     have:(f.1.length:Int)≠0:=by simpa using hl
     omega)
  rw[e1];simp only[Yw4,show(0:Int).toNat=0 from rfl,Yvh]
theorem Xjm {f:Fs_} (h:Xd2 f=0):Xt f.1=0∧0<f.1.length∧(f.1.getD 0 Xb).1=2∧f.2.1.length=20:=by
 unfold Xd2 at h
 cases hi:(Xt f.1 != 0) with
 |true=>rw[hi] at h;exact absurd h (by simpa using hi)
 |false=>
  rw[hi] at h
  refine⟨by simpa using hi,?_⟩
  cases h1:((f.1.length:Int) == 0) with
  |true=>rw[h1] at h;cases h
  |false=>
   rw[h1] at h
   cases h2:((f.1.getD 0 Xb).1 != 2) with
   |true=>rw[h2] at h;cases h
   |false=>
    rw[h2] at h
    cases h3:((f.2.1.length:Int) != 20) with
    |true=>rw[h3] at h;cases h
    |false=>
     have a1:(f.1.length:Int)≠0:=by simpa using h1
     have a3:(f.2.1.length:Int)=20:=by simpa using h3
     exact⟨by omega,by simpa using h2,by omega⟩
theorem Xmw (f:Fs_) (hok:Xbr f.1) (hen:Xek f.1) (v2 v3:Int) (x:Xa) (hx:x∈f.1):Xbc f f.1 v2 v3 x.2.2.2.2.1 (x.2.2.2.2.1.length:Int) 0=some (cond (x.2.2.2.2.1.any (X7 f.1)) (.inl 4) (.inr ())):=
 Ywl x.2.2.2.2.1 (f:=fun s=>Xbc.B f f.1 v2 v3 x.2.2.2.2.1 (x.2.2.2.2.1.length:Int) s) (X7 f.1) (4:Int) (fun i hi=>by
  have hx:=hen.ent _ hx;have he:=hx.2 _ (List.getElem_mem hi)
  simp only[Xbc.B,Xda,Yw4,toNat_cast,Option.bind_some,Yxm hi,Yxb hi,getD_lt _ hi,Yvo (by omega:i<4294967296),X7]
  by_cases hh:(x.2.2.2.2.1[i]).2.1≥(f.1.length:Int)
  ·rw[show decide ((x.2.2.2.2.1[i]).2.1≥(f.1.length:Int))=true by simp[hh]];rfl
  ·rw[show decide ((x.2.2.2.2.1[i]).2.1≥(f.1.length:Int))=false by simp;omega,show inB (x.2.2.2.2.1[i]).2.1 f.1.length=true from Yu7 he.1 (by omega)]
   rfl) (by
  simp only[Xbc.B,Yxe (Nat.le_refl _),Ywx])
theorem Xni (f:Fs_) (hb:Bd Xn f):Xay f=some (Xbz f):=by
 simp only[Xay,Xbz,Xn3 f hb,Option.bind_some]
 cases hi:(Xd2 f != 0) with
 |true=>simp only[Yw4]
 |false=>
  have h0:Xd2 f=0:=by simpa using hi
  obtain⟨g1,g2,g3,g4⟩:=Xjm h0;have hok:=Xbr.of g1;have hen:=Xek.of g1
  have h1:Xfj f.2.1 ()=some (f.2.1.any fun b=>decide ((b.length:Int)>8)):=by
   have h:Xdq f.2.1 () (f.2.1.length:Int) 0=_:=Yvx f.2.1 (fun b=>decide ((b.length:Int)>8)) (fun i hi=>by
    simp only[Xdq.B,Yxm hi,Yxb hi,Yw4,toNat_cast,getD_lt _ hi,Xhe,Option.bind_some,Yvo (by omega:i<4294967296)]) (by
    simp only[Xdq.B,Yxe (Nat.le_refl _),Ywx]) 0 (Nat.zero_le _)
   simp only[Xfj,Xdk];rw[Xbq _ _ h,List.drop_zero]
  have h2:Xdb f f.1 (f.1.length:Int) 0=_:=Ywl f.1 (fun x=>x.2.2.2.2.1.any (X7 f.1)) (4:Int) (fun i hi=>by
   have hl:=hok.len
   simp only[Xdb.B,Yxm hi,Yxb hi,Yw4,toNat_cast,getD_lt _ hi,Option.bind_some,Xmw f hok hen _ _ _ (List.getElem_mem hi),Yvo (by omega:i<4294967296)]
   cases (f.1[i].2.2.2.2.1.any (X7 f.1))<;>rfl) (by
   simp only[Xdb.B,Yxe (Nat.le_refl _),Ywx])
  simp only[Ywx,h1,h2,Option.bind_some,Xlb f.1 hok];cases f.2.1.any fun b=>decide ((b.length:Int)>8)
  ·simp only[Ywx]
   cases Xaz f.1
   ·rfl
   ·simp only[Bool.not_true,Ywx]
    cases f.1.any fun x=>x.2.2.2.2.1.any (X7 f.1)<;>rfl
  ·rfl
structure X0 (f:Fs_):Prop where
 inod:Xt f.1=0
 pos:0<f.1.length
 root:(f.1.getD 0 Xb).1=2
 dat:f.2.1.length=20
 dl:∀ b∈f.2.1,b.length≤8
 once:Xaz f.1=true
 ent:∀ x∈f.1,∀ e∈x.2.2.2.2.1,0≤e.2.1∧e.2.1<(f.1.length:Int)∧(f.1.getD e.2.1.toNat Xb).1≠0
theorem X0.of {f:Fs_} (h:Xbz f=0):X0 f:=by
 unfold Xbz at h
 cases hi:(Xd2 f != 0) with
 |true=>rw[hi] at h;exact absurd h (by simpa using hi)
 |false=>
  rw[hi] at h
  obtain⟨g1,g2,g3,g4⟩:=Xjm (by simpa using hi:Xd2 f=0)
  cases h1:(f.2.1.any fun b=>decide ((b.length:Int)>8)) with
  |true=>rw[h1] at h;cases h
  |false=>
   rw[h1] at h
   cases h2:Xaz f.1 with
   |false=>rw[h2] at h;cases h
   |true=>
    rw[h2] at h
    cases h3:(f.1.any fun x=>x.2.2.2.2.1.any (X7 f.1)) with
    |true=>rw[h3] at h;cases h
    |false=>
     refine⟨g1,g2,g3,g4,fun b hb=>?_,h2,fun x hx e he=>?_⟩
     ·have:=List.any_eq_false.1 h1 b hb
      simp at this;omega
     ·have hh:=List.any_eq_false.1 h3 x hx
      have hh2:(x.2.2.2.2.1.any (X7 f.1))=false:=by simpa using hh
      have hb:=List.any_eq_false.1 hh2 e he
      have hb2:X7 f.1 e=false:=by simpa using hb
      have h0:=((Xek.of g1).ent x hx).2 e he;unfold X7 at hb2
      cases h4:decide (e.2.1≥(f.1.length:Int)) with
      |true=>rw[h4] at hb2;cases hb2
      |false=>
       rw[h4] at hb2
       exact⟨h0.1,by simp at h4;omega,by simpa using hb2⟩
abbrev Xx (l:List Xa) (a:Nat):List Xf:=(l.getD a Xb).2.2.2.2.1
inductive Reach (l:List Xa) (s:Nat):Nat→Prop
 |refl:Reach l s s
 |step {a b:Nat}:Reach l s a→(∃ e∈Xx l a,e.2.1=(b:Int))→Reach l s b
def Xdw (l:List Xa):Prop:=∀ x∈l,x.2.2.2.2.1.length≤6∧∀ e∈x.2.2.2.2.1,0≤e.2.1∧e.2.1<(l.length:Int)
theorem X0.Xlo {f:Fs_} (h:X0 f):Xdw f.1:=fun x hx=>⟨((Xek.of h.inod).ent x hx).1,fun e he=>⟨(h.ent x hx e he).1,(h.ent x hx e he).2.1⟩⟩
theorem Xax {l:List Xa} (h:Xdw l) {a:Nat} {e:Xf} (he:e∈Xx l a):0≤e.2.1∧e.2.1<(l.length:Int):=by
 unfold Xx at he
 by_cases ha:a<l.length
 ·rw[getD_lt _ ha] at he;exact(h _ (List.getElem_mem ha)).2 e he
 ·rw[List.getD_eq_getElem?_getD,List.getElem?_eq_none (by omega)] at he;cases he
theorem Reach.lt {l:List Xa} (h:Xdw l) {s a:Nat} (hs:s<l.length) (hr:Reach l s a):a<l.length:=by
 induction hr with
 |refl=>exact hs
 |step _ he _=>obtain⟨e,he,h2⟩:=he;have:=Xax h he;omega
abbrev on (b:List Bool) (i:Nat):Prop:=b.getD i false=true
theorem Xc6 {b:List Bool} {i j:Nat}:on (b.set i true) j↔on b j∨(i=j∧i<b.length):=by
 unfold on;rw[List.getD_eq_getElem?_getD,List.getD_eq_getElem?_getD,List.getElem?_set]
 by_cases e:i=j
 ·subst e
  by_cases h:i<b.length
  ·simp[h]
  ·simp[h]
 ·simp[e]
theorem Xkr {b:List Bool} {i:Nat} (h:on b i):i<b.length:=by
 unfold on at h
 by_cases hh:i<b.length
 ·exact hh
 ·rw[List.getD_eq_getElem?_getD,List.getElem?_eq_none (by omega)] at h;cases h
theorem Xls {b:List Bool} {i:Nat} (h:on b i):b.set i true=b:=by
 have hl:=Xkr h;unfold on at h;rw[getD_lt _ hl] at h
 conv=>lhs;rw[←h]
 exact List.set_getElem_self hl
def Xdi (b:List Bool) (es:List Xf):List Bool:=es.foldl (fun b e=>b.set e.2.1.toNat true) b
theorem Xd9:∀ (es:List Xf) (b:List Bool),(Xdi b es).length=b.length
 |[],b=>rfl
 |e::es,b=>by simp only[Xdi,List.foldl_cons];exact(Xd9 es _).trans (by simp)
theorem Xdt:∀ (es:List Xf) (b:List Bool) (j:Nat),on (Xdi b es) j↔on b j∨(j<b.length∧∃ e∈es,e.2.1.toNat=j)
 |[],b,j=>by simp[Xdi]
 |e::es,b,j=>by
  have ih:=Xdt es (b.set e.2.1.toNat true) j;have:on (Xdi b (e::es)) j↔on (Xdi (b.set e.2.1.toNat true) es) j:=Iff.rfl;rw[this,ih,Xc6,List.length_set]
  constructor
  ·rintro((h | ⟨h1,h2⟩) | ⟨h1,e',h2,h3⟩)
   ·exact .inl h
   ·exact .inr ⟨by omega,e,List.mem_cons_self ..,h1⟩
   ·exact .inr ⟨h1,e',List.mem_cons_of_mem _ h2,h3⟩
  ·rintro(h | ⟨h1,e',h2,h3⟩)
   ·exact .inl (.inl h)
   ·rcases List.mem_cons.1 h2 with rfl | h2
    ·exact .inl (.inr ⟨h3,by omega⟩)
    ·exact .inr ⟨h1,e',h2,h3⟩
theorem Xh9:∀ (es:List Xf) (b:List Bool),(∀ e∈es,on b e.2.1.toNat)→Xdi b es=b
 |[],b,h=>rfl
 |e::es,b,h=>by
  simp only[Xdi,List.foldl_cons];rw[Xls (h e (List.mem_cons_self ..))];exact Xh9 es b fun x hx=>h x (List.mem_cons_of_mem _ hx)
def X9 (l:List Xa):List Nat→List Bool→List Bool
 |[],b=>b
 |i::is,b=>X9 l is (cond (b.getD i false) (Xdi b (Xx l i)) b)
def Xea (l:List Xa) (b:List Bool):Prop:=∀ i,on b i→∀ e∈Xx l i,on b e.2.1.toNat
def Xdz (l:List Xa) (s:Nat) (b:List Bool):Prop:=∀ j,on b j→Reach l s j
theorem Xex (l:List Xa):∀ (is:List Nat) (b:List Bool),(X9 l is b).length=b.length
 |[],b=>rfl
 |i::is,b=>by simp only[X9];rw[Xex l is];cases b.getD i false<;>simp[Xd9]
theorem Xa7 (l:List Xa):∀ (is:List Nat) (b:List Bool) (j:Nat),on b j→on (X9 l is b) j
 |[],b,j,h=>h
 |i::is,b,j,h=>by
  refine Xa7 l is _ j ?_;cases b.getD i false
  ·exact h
  ·exact(Xdt _ _ _).2 (.inl h)
theorem Xff {l:List Xa} (hl:Xdw l) {s:Nat}:∀ (is:List Nat) (b:List Bool),Xdz l s b→Xdz l s (X9 l is b)
 |[],b,h=>h
 |i::is,b,h=>by
  refine Xff hl is _ ?_;cases hi:b.getD i false
  ·exact h
  ·intro j hj
   rcases(Xdt _ _ _).1 hj with hj | ⟨_,e,he,h2⟩
   ·exact h j hj
   ·have:=Xax hl he
    exact .step (h i hi) ⟨e,he,by omega⟩
theorem Xg8 {l:List Xa}:∀ (is:List Nat) (b:List Bool) (i:Nat),i∈is→on b i→∀ e∈Xx l i,e.2.1.toNat<b.length→on (X9 l is b) e.2.1.toNat
 |k::is,b,i,hi,hb,e,he,hlt=>by
  rcases List.mem_cons.1 hi with rfl | hi
  ·refine Xa7 l is _ _ ?_
   rw[hb];exact(Xdt _ _ _).2 (.inr ⟨hlt,e,he,rfl⟩)
  ·refine Xg8 is _ i hi ?_ e he ?_
   ·cases b.getD k false
    ·exact hb
    ·exact(Xdt _ _ _).2 (.inl hb)
   ·cases b.getD k false
    ·exact hlt
    ·simpa [Xd9] using hlt
theorem Xam {l:List Xa}:∀ (is:List Nat) (b:List Bool),Xea l b→X9 l is b=b
 |[],b,h=>rfl
 |i::is,b,h=>by
  simp only[X9];cases hi:b.getD i false
  ·exact Xam is b h
  ·simp only[Yw4]
   rw[Xh9 _ _ (h i hi)];exact Xam is b h
theorem Xk2:∀ (b c:List Bool),b.length=c.length→(∀ j,on b j→on c j)→b.count true≤c.count true
 |[],[],_,_=>Nat.le_refl _
 |x::b,y::c,hl,h=>by
  have ih:=Xk2 b c (by simpa using hl) fun j hj=>h (j+1) hj
  have h0:=h 0;simp only[List.count_cons]
  cases x<;>cases y<;>simp[on] at h0 ⊢<;>omega
theorem cnt_lt:∀ (b c:List Bool),b.length=c.length→(∀ j,on b j→on c j)→(∃ j,on c j∧¬ on b j)→b.count true<c.count true
 |[],[],_,_,⟨j,h,_⟩=>by have:=Xkr h;simp at this
 |x::b,y::c,hl,h,⟨j,h1,h2⟩=>by
  have h0:=h 0;simp only[List.count_cons]
  cases j with
  |zero=>
   have ih:=Xk2 b c (by simpa using hl) fun j hj=>h (j+1) hj
   cases x<;>cases y<;>simp[on] at h1 h2 h0 ⊢<;>omega
  |succ j=>
   have ih:=cnt_lt b c (by simpa using hl) (fun j hj=>h (j+1) hj) ⟨j,h1,h2⟩
   cases x<;>cases y<;>simp[on] at h0 ⊢<;>omega
def X5 (l:List Xa):Nat→List Bool→List Bool
 |0,b=>b
 |n+1,b=>X5 l n (X9 l (List.range l.length) b)
theorem Xep {l:List Xa} (hl:Xdw l):∀ (n:Nat) (b:List Bool),b.length=l.length→l.length≤n+b.count true→Xea l (X5 l n b)∧(X5 l n b).length=l.length∧(∀ j,on b j→on (X5 l n b) j)∧∀ s,Xdz l s b→Xdz l s (X5 l n b)
 |0,b,hb,hn=>by
  refine⟨fun i hi e he=>?_,hb,fun _ h=>h,fun _ h=>h⟩
  have hall:b.count true=b.length:=by have:=List.count_le_length (a:=true) (l:=b);omega
  have hlt:=(Xax hl he)
  have:b.getD e.2.1.toNat false=b[e.2.1.toNat]'(by omega):=getD_lt _ _
  show b.getD e.2.1.toNat false=true;rw[this]
  exact(List.count_eq_length.1 hall _ (List.getElem_mem _)).symm
 |n+1,b,hb,hn=>by
  simp only[X5];have hlen:=Xex l (List.range l.length) b
  by_cases hc:Xea l b
  ·rw[Xam _ _ hc]
   have:∀ n,X5 l n b=b:=by
    intro n
    induction n with
    |zero=>rfl
    |succ n ih=>simp only[X5];rw[Xam _ _ hc];exact ih
   rw[this];exact⟨hc,hb,fun _ h=>h,fun _ h=>h⟩
  ·obtain⟨i,h1,e,h2,h3⟩:∃ i,on b i∧∃ e∈Xx l i,¬ on b e.2.1.toNat:=by
    unfold Xea at hc;simp only[Classical.not_forall] at hc;obtain⟨i,h1,e,h2,h3⟩:=hc;exact⟨i,h1,e,h2,h3⟩
   have hlt:=Xax hl h2;have hi:=Xkr h1
   have hs:=cnt_lt b _ hlen.symm (Xa7 l _ b) ⟨_,Xg8 (List.range l.length) b i (List.mem_range.2 (by omega)) h1 e h2 (by omega),h3⟩
   obtain⟨q1,q2,q3,q4⟩:=Xep hl n _ (by omega) (by omega:l.length≤n+(X9 l (List.range l.length) b).count true)
   exact⟨q1,q2,fun j hj=>q3 j (Xa7 l _ b j hj),fun s hs=>q4 s (Xff hl _ _ hs)⟩
open Classical in
noncomputable def Xy (l:List Xa) (s:Nat):List Int:=((List.range l.length).filter fun i=>decide (Reach l s i)).map Int.ofNat
theorem Xlq {l:List Xa} (hl:Xdw l) {s:Nat} (hs:s<l.length) {a:Nat}:(a:Int)∈Xy l s↔Reach l s a:=by
 unfold Xy;simp only[List.mem_map,List.mem_filter,List.mem_range,decide_eq_true_eq]
 constructor
 ·rintro⟨i,⟨_,h⟩,e⟩
  have:i=a:=Int.ofNat.inj e;subst this;exact h
 ·intro h;exact⟨a,⟨h.lt hl hs,h⟩,rfl⟩
theorem Xlp {l:List Xa} {s:Nat} {v:Int} (h:v∈Xy l s):0≤v∧v<(l.length:Int):=by
 unfold Xy at h;simp only[List.mem_map,List.mem_filter,List.mem_range] at h;obtain⟨i,⟨h1,_⟩,rfl⟩:=h;simp;omega
theorem Xh8 (l:List Xa) (s:Nat):(Xy l s).length≤l.length:=by
 unfold Xy;rw[List.length_map]
 exact Nat.le_trans (List.length_filter_le _ _) (by simp)
open Classical in
theorem Xih {l:List Xa} {s:Nat} {b:List Bool} (hb:b.length=l.length) (hc:Xea l b) (hs:Xdz l s b) (h0:on b s):((List.range b.length).filter fun i=>b.getD i false).map Int.ofNat=Xy l s:=by
 unfold Xy;rw[hb]
 congr 1
 refine List.filter_congr fun i hi=>?_;clear hi;rw[Bool.eq_iff_iff,decide_eq_true_eq]
 constructor
 ·exact hs i
 ·intro h
  induction h with
  |refl=>exact h0
  |step _ he ih=>obtain⟨e,he,h2⟩:=he;have:=hc _ ih e he;rw[h2] at this;exact this
theorem Xkq (b:List Bool) {f:Int×List Int→Option ((Int×List Int)⊕List Int)} (hl:b.length≤1000)
  (hs:∀ (i:Nat) (h:i<b.length) (t:List Int),t.length≤i→f ((i:Int),t)=cond b[i] (some (.inl (((i+1:Nat):Int),t++[(i:Int)]))) (some (.inl (((i+1:Nat):Int),t)))) (he:∀ t,f ((b.length:Int),t)=some (.inr t)) :
  Y9 f (0,[])=some (((List.range b.length).filter fun i=>b.getD i false).map Int.ofNat):=by
 have h:=Ym3 (τ:=List Int) b (f:=f) (fun i t=>((i:Int),t)) (fun i x t=>.inl (cond x (t++[(i:Int)]) t)) id (fun i t=>t.length≤i)
  (fun i hi t ht=>by rw[hs i hi t ht];cases b[i]<;>rfl) (fun i hi t t' ht e=>by cases e;cases b[i]<;>simp<;>omega) (fun t ht=>he t) [] (by simp) (s:=(0,[])) rfl
 rw[h]
 congr 1
 clear h hs he hl
 have:∀ (m:List Bool) (n:Nat) (t:List Int),Yba (fun i x t=>.inl (cond x (t++[(i:Int)]) t)) id n m t=t++((List.range' n m.length).filter fun i=>m.getD (i-n) false).map Int.ofNat:=by
  intro m
  induction m with
  |nil=>intro n t;simp[Yba]
  |cons x m ih=>
   intro n t;simp only[Yba,Yw2];rw[ih,List.length_cons,List.range'_succ,List.filter_cons]
   have e:(List.range' (n+1) m.length).filter (fun i=>(x::m).getD (i-n) false)=(List.range' (n+1) m.length).filter (fun i=>m.getD (i-(n+1)) false):=by
    refine List.filter_congr fun i hi=>?_;have:=(List.mem_range'_1.1 hi).1
    rw[show i-n=(i-(n+1))+1 by omega];rfl
   rw[e]
   cases x<;>simp
 rw[this b 0 [],List.nil_append,List.range_eq_range'];rfl
theorem Xmo (f:Fs_) (hl:Xdw f.1) (hn:f.1.length≤10) (rd:Int) (i:Nat) (hi:i<f.1.length) (b:List Bool) (hb:b.length=f.1.length):Xee f rd (i:Int) (0,b)=some (cond (b.getD i false) (Xdi b (Xx f.1 i)) b):=by
 have hx:=hl _ (List.getElem_mem hi)
 have he:Xx f.1 i=f.1[i].2.2.2.2.1:=by unfold Xx;rw[getD_lt _ hi]
 cases h0:b.getD i false with
 |false=>
  refine Y5 ?_
  simp only[Xee.B,Yxb (by omega:i<b.length),Yw4,toNat_cast,h0,Ywx,Option.bind_some]
 |true=>
  rw[he]
  have h:=Yib f.1[i].2.2.2.2.1 (f:=fun s=>Xee.B f rd (i:Int) s.1 s.2) (fun(b:List Bool) e=>b.set e.2.1.toNat true) id (fun k c=>c.length=f.1.length∧on c i) (fun k hk c hc=>by
   have hek:=hx.2 _ (List.getElem_mem hk)
   refine⟨?_,by simpa using hc.1,Xc6.2 (.inl hc.2)⟩
   have h1:c.getD i false=true:=hc.2
   simp only[Xee.B,Yxb (by omega:i<c.length),Yw4,toNat_cast,h1,Yxb hi,getD_lt _ hi,Yxm hk,Option.bind_some,Yxb hk,getD_lt _ hk,Yvo (by omega:k<4294967296)]
   rw[show inB (f.1[i].2.2.2.2.1[k]).2.1 c.length=true from Yu7 hek.1 (by omega)];rfl) (fun c hc=>by
   have h1:c.getD i false=true:=hc.2
   simp only[Xee.B,Yxb (by omega:i<c.length),Yw4,toNat_cast,h1,Yxb hi,getD_lt _ hi,Yxe (Nat.le_refl _),Option.bind_some,Ywx,id]) b ⟨hb,h0⟩
  exact h
theorem Xnd (f:Fs_) (hl:Xdw f.1) (hn:f.1.length≤10) (rd:Int) (b:List Bool) (hb:b.length=f.1.length):Xez f rd (0,b)=some (X9 f.1 (List.range f.1.length) b):=by
 have h:=Ym3 (τ:=List Bool) f.1 (f:=fun s=>Xez.B f rd s.1 s.2) (fun i b=>((i:Int),b)) (fun i x b=>.inl (cond (b.getD i false) (Xdi b (Xx f.1 i)) b)) id (fun i b=>b.length=f.1.length)
  (fun i hi c hc=>by
   simp only[Xez.B,Yxm hi,Yw4,Xmo f hl hn rd i hi c hc,Option.bind_some,Yvo (by omega:i<4294967296),sel]) (fun i hi c c' hc e=>by cases e;cases c.getD i false<;>simp[Xd9,hc]) (fun c hc=>by
   simp only[Xez.B,Yxe (Nat.le_refl _),Ywx,id]) b hb (s:=(0,b)) rfl
 refine Eq.trans h ?_
 congr 1
 have:∀ (m:List Xa) (n:Nat) (b:List Bool),Yba (fun i (x:Xa) b=>.inl (cond (b.getD i false) (Xdi b (Xx f.1 i)) b)) id n m b=X9 f.1 (List.range' n m.length) b:=by
  intro m
  induction m with
  |nil=>intro n b;rfl
  |cons x m ih=>intro n b;simp only[Yba,Yw2,List.length_cons,List.range'_succ,X9];exact ih _ _
 rw[this,List.range_eq_range']
theorem Xno (f:Fs_) (hl:Xdw f.1) (hn:f.1.length≤10) (h0:0<f.1.length):Xi5 f=some (Xy f.1 0):=by
 have hz:(List.replicate f.1.length false).length=f.1.length:=by simp
 let b0:=(List.replicate f.1.length false).set 0 true
 have hb0:b0.length=f.1.length:=by simp[b0]
 have hon:on b0 0:=Xc6.2 (.inr ⟨rfl,by omega⟩)
 have hcnt:1≤b0.count true:=by
  have:true∈b0:=by
   have h1:b0[0]'(by omega)=true:=by rw[←getD_lt false (by omega:0<b0.length)];exact hon
   rw[←h1];exact List.getElem_mem _
  exact List.count_pos_iff.2 this
 have hsnd:Xdz f.1 0 b0:=by
  intro j hj;rcases Xc6.1 hj with h | ⟨rfl,_⟩
  ·unfold on at h;rw[List.getD_eq_getElem?_getD,List.getElem?_replicate] at h;split at h<;>simp at h
  ·exact .refl
 obtain⟨q1,q2,q3,q4⟩:=Xep hl f.1.length b0 hb0 (by omega)
 have h1:Xgl f (0,b0)=some (X5 f.1 f.1.length b0):=by
  have h:=Ym3 (τ:=List Bool) f.1 (f:=fun s=>Xgl.B f s.1 s.2) (fun i b=>((i:Int),b)) (fun i x b=>.inl (X9 f.1 (List.range f.1.length) b)) id (fun i b=>b.length=f.1.length)
   (fun i hi c hc=>by
    simp only[Xgl.B,Yxm hi,Yw4,Xnd f hl hn i c hc,Option.bind_some,Yvo (by omega:i<4294967296),sel]) (fun i hi c c' hc e=>by cases e;rw[Xex,hc]) (fun c hc=>by
    simp only[Xgl.B,Yxe (Nat.le_refl _),Ywx,id]) b0 hb0 (s:=(0,b0)) rfl
  refine Eq.trans h ?_
  congr 1
  have:∀ (m:List Xa) (n:Nat) (b:List Bool),Yba (fun i (x:Xa) b=>.inl (X9 f.1 (List.range f.1.length) b)) id n m b=X5 f.1 m.length b:=by
   intro m
   induction m with
   |nil=>intro n b;rfl
   |cons x m ih=>intro n b;simp only[Yba,Yw2,List.length_cons,X5];exact ih _ _
  exact this _ _ _
 have h3:Xgv (X5 f.1 f.1.length b0) (0,[])=some (Xy f.1 0):=by
  have h:=Xkq (X5 f.1 f.1.length b0) (f:=fun s=>Xgv.B (X5 f.1 f.1.length b0) s.1 s.2) (by omega) (fun i hi t ht=>by
   simp only[Xgv.B,Yxm hi,Yxb hi,Yw4,toNat_cast,getD_lt _ hi,Yvo (by omega:i<4294967296)]
   rw[Xaa (by simp;omega)];rfl) (fun t=>by
   simp only[Xgv.B,Yxe (Nat.le_refl _),Ywx])
  refine Eq.trans h ?_;rw[Xih q2 q1 (q4 0 hsnd) (q3 0 hon)]
 simp only[Xi5]
 rw[show(decide ((0:Int)≤(f.1.length:Int))&&(decide ((f.1.length:Int)≤(f.1.length:Int))&&decide ((f.1.length:Int)≤2147483648)))=true by simp;omega]
 rw[show((f.1.length:Int)).toNat=f.1.length from toNat_cast _,hz,show inB 0 f.1.length=true from Yxb (i:=0) h0];simp only[Yw4,Option.bind_some,show(0:Int).toNat=0 from rfl];rw[show(List.replicate f.1.length false).set 0 true=b0 from rfl,h1];simp only[Option.bind_some,h3]
theorem Xj9:∀ (b:List Bool) (i:Nat),i<b.length→b.getD i false=false→(b.set i true).count false+1=b.count false
 |x::b,0,h,hf=>by
  have:x=false:=by simpa using hf
  subst this;simp
 |x::b,i+1,h,hf=>by
  have ih:=Xj9 b i (by simpa using h) (by simpa using hf)
  simp only[List.set_cons_succ,List.count_cons];omega
theorem Xog (l:List Xa) (es:List Xf) (v2:Int) (hv:v2=(es.length:Int)) (seen:List Bool) (op:List Int) (h6:es.length≤6) (ho:op.length≤1000):Xa4 l es v2 seen (0,op)=some (op++es.map fun e=>e.2.1):=by
 subst hv
 exact Yvg es (f:=fun s=>Xa4.B l es (es.length:Int) seen s.1 s.2) (fun e=>e.2.1) id op.length (fun i hi t ht=>by
  simp only[Xa4.B,Yxm hi,Yxb hi,Yw4,toNat_cast,getD_lt _ hi,Yvo (by omega:i<4294967296)]
  rw[Xaa (by simp;omega)];rfl) (fun t ht=>by
  simp only[Xa4.B,Yxe (Nat.le_refl _),Ywx,id]) op rfl
theorem Xim {op:List Int} (h:0<op.length):op.take (op.length-1)++[op.getD (op.length-1) 0]=op:=by
 have h1:op.length-1<op.length:=by omega
 rw[getD_lt _ h1];have:=List.take_append_drop (op.length-1) op
 rw[List.drop_eq_getElem_cons h1,show op.length-1+1=op.length by omega,List.drop_length] at this
 exact this
theorem Xkv {l:List Xa} (hl:Xdw l) (hn:l.length≤10) (s:Nat) (hs:s<l.length):∀ (m:Nat) (seen:List Bool) (op:List Int),7*seen.count false+op.length≤m→m≤100→seen.length=l.length→Xdz l s seen→
  (∀ v∈op,∃ a:Nat,v=(a:Int)∧Reach l s a)→(∀ i,on seen i→∀ e∈Xx l i,on seen e.2.1.toNat∨e.2.1∈op)→
  ∃ b,Xap l (seen,op)=some b∧b.length=l.length∧Xea l b∧Xdz l s b∧(∀ j,on seen j→on b j)∧∀ v∈op,on b v.toNat
 |m,seen,op,hm,hm2,h1,h2,h3,h4=>by
  by_cases ho:op.length=0
  ·have:op=[]:=List.length_eq_zero_iff.1 ho
   subst this
   refine⟨seen,Y5 ?_,h1,fun i hi e he=>?_,h2,fun _ h=>h,fun v hv=>by cases hv⟩
   ·simp only[Xap.B];rfl
   ·rcases h4 i hi e he with h | h
    ·exact h
    ·cases h
  ·have hpos:0<op.length:=by omega
   have hw:w64 ((op.length:Int)-1)=((op.length-1:Nat):Int):=by rw[Yq5 (by omega) (by omega)];omega
   have hsp:=Xim hpos;generalize hv:op.getD (op.length-1) 0=v at hsp;generalize hq:op.take (op.length-1)=q at hsp
   have hql:q.length=op.length-1:=by rw[←hq];simp
   obtain⟨a,rfl,ha⟩:=h3 v (by rw[←hsp];simp)
   have hal:=ha.lt hl hs
   have hB:Xap.B l seen op=cond (seen.getD a false) (some (.inl (seen,q))) (some (.inl (seen.set a true,q++(Xx l a).map fun e=>e.2.1))):=by
    have e6:(Xx l a).length≤6:=by unfold Xx;rw[getD_lt _ hal];exact(hl _ (List.getElem_mem hal)).1
    simp only[Xap.B,show decide ((op.length:Int)>0)=true by simp;omega,Yw4,hw,Yxb (by omega:op.length-1<op.length),toNat_cast,hv,Option.bind_some]
    rw[show(decide ((0:Int)≤((op.length-1:Nat):Int))&&decide (((op.length-1:Nat):Int)≤(op.length:Int)))=true by rw[Bool.and_eq_true,decide_eq_true_eq,decide_eq_true_eq];omega,List.drop_zero,Nat.sub_zero,hq]
    simp only[Yw4,Yxb (by omega:a<seen.length),Yxb hal,Xog l (Xx l a) _ rfl _ q e6 (by omega),Option.bind_some]
   cases hsn:seen.getD a false with
   |true=>
    rw[hsn] at hB
    obtain⟨b,q1,q2,q3,q4,q5,q6⟩:=Xkv hl hn s hs (m-1) seen q (by omega) (by omega) h1 h2 (fun v hv=>h3 v (by rw[←hsp];simp[hv])) (fun i hi e he=>by
     rcases h4 i hi e he with h | h
     ·exact .inl h
     ·rw[←hsp] at h
      rcases List.mem_append.1 h with h | h
      ·exact .inr h
      ·have:e.2.1=(a:Int):=by simpa using h
       rw[this];exact .inl hsn)
    refine⟨b,?_,q2,q3,q4,q5,fun v hv=>?_⟩
    ·unfold Xap
     rw[Yaq (f:=fun s=>Xap.B l s.1 s.2) (s:=(seen,op)) (s':=(seen,q)) hB];exact q1
    ·rw[←hsp] at hv
     rcases List.mem_append.1 hv with h | h
     ·exact q6 v h
     ·have:v=(a:Int):=by simpa using h
      rw[this];exact q5 a hsn
   |false=>
    rw[hsn] at hB
    have e6:(Xx l a).length≤6:=by unfold Xx;rw[getD_lt _ hal];exact(hl _ (List.getElem_mem hal)).1
    have hc:=Xj9 seen a (by omega) hsn
    have hon:on (seen.set a true) a:=Xc6.2 (.inr ⟨rfl,by omega⟩)
    obtain⟨b,q1,q2,q3,q4,q5,q6⟩:=Xkv hl hn s hs (m-1) (seen.set a true) (q++(Xx l a).map fun e=>e.2.1) (by simp;omega) (by omega) (by simpa using h1) (fun j hj=>by
      rcases Xc6.1 hj with h | ⟨rfl,_⟩
      ·exact h2 j h
      ·exact ha) (fun v hv=>by
      rcases List.mem_append.1 hv with h | h
      ·exact h3 v (by rw[←hsp];simp[h])
      ·obtain⟨e,he,rfl⟩:=List.mem_map.1 h
       have:=Xax hl he
       exact⟨e.2.1.toNat,by omega,.step ha ⟨e,he,by omega⟩⟩) (fun i hi e he=>by
      rcases Xc6.1 hi with h | ⟨rfl,_⟩
      ·rcases h4 i h e he with h | h
       ·exact .inl (Xc6.2 (.inl h))
       ·rw[←hsp] at h
        rcases List.mem_append.1 h with h | h
        ·exact .inr (List.mem_append_left _ h)
        ·have:e.2.1=(a:Int):=by simpa using h
         rw[this];exact .inl hon
      ·exact .inr (List.mem_append_right _ (List.mem_map.2 ⟨e,he,rfl⟩)))
    refine⟨b,?_,q2,q3,q4,fun j hj=>q5 j (Xc6.2 (.inl hj)),fun v hv=>?_⟩
    ·unfold Xap
     rw[Yaq (f:=fun s=>Xap.B l s.1 s.2) (s:=(seen,op)) (s':=(seen.set a true,q++(Xx l a).map fun e=>e.2.1)) hB];exact q1
    ·rw[←hsp] at hv
     rcases List.mem_append.1 hv with h | h
     ·exact q6 v (List.mem_append_left _ h)
     ·have:v=(a:Int):=by simpa using h
      rw[this];exact q5 a hon
termination_by m=>m
decreasing_by all_goals omega
theorem Xmf {l:List Xa} (hl:Xdw l) (hn:l.length≤10) (s:Nat) (hs:s<l.length):Xei l (s:Int)=some (Xy l s):=by
 obtain⟨b,q1,q2,q3,q4,_,q6⟩:=Xkv hl hn s hs 71 (List.replicate l.length false) [(s:Int)] (by simp;omega) (by omega) (by simp) (fun j hj=>by
   unfold on at hj;rw[List.getD_eq_getElem?_getD,List.getElem?_replicate] at hj;split at hj<;>simp at hj) (fun v hv=>⟨s,by simpa using hv,.refl⟩) (fun j hj=>by
   unfold on at hj;rw[List.getD_eq_getElem?_getD,List.getElem?_replicate] at hj;split at hj<;>simp at hj)
 have h2:Xcu (b.length:Int) b (0,[])=some (Xy l s):=by
  have h:=Xkq b (f:=fun s=>Xcu.B (b.length:Int) b s.1 s.2) (by omega) (fun i hi t ht=>by
   simp only[Xcu.B,Yxm hi,Yxb hi,Yw4,toNat_cast,getD_lt _ hi,Yvo (by omega:i<4294967296)]
   rw[Xaa (by simp;omega)];rfl) (fun t=>by
   simp only[Xcu.B,Yxe (Nat.le_refl _),Ywx])
  refine Eq.trans h ?_;rw[Xih q2 q3 q4 (q6 _ (List.mem_cons_self ..))]
 simp only[Xei]
 rw[show(decide ((0:Int)≤(l.length:Int))&&(decide ((l.length:Int)≤(l.length:Int))&&decide ((l.length:Int)≤2147483648)))=true by simp;omega,show((l.length:Int)).toNat=l.length from toNat_cast _]
 simp only[Yw4,q1,Option.bind_some,h2]
def Xjy (l:List Xa):List Int:=l.flatMap fun x=>x.2.2.2.2.1.map fun e=>e.2.1
def Xak (l:List Xa) (a:Int):Int:=(((Xjy l).count a:Nat):Int)
theorem Xib (a:Int):∀ (l:List Xf) (m:Nat),l.foldl (fun t e=>t+(if e.2.1 == a then 1 else 0)) m=m+(l.map fun e=>e.2.1).count a
 |[],m=>by simp
 |y::l,m=>by rw[List.foldl_cons,Xib a l,List.map_cons,List.count_cons];omega
theorem Xl2 (l:List Xa) (hl:∀ x∈l,x.2.2.2.2.1.length≤6) (hn:l.length≤10) (a:Int):Xiw l a=some (Xak l a):=by
 have h1:∀ (i:Nat) (hi:i<l.length) (n:Nat),n≤1000→Xf3 l a (i:Int) ((n:Int),0)=some (((n+(l[i].2.2.2.2.1.map fun e=>e.2.1).count a:Nat):Int)):=by
  intro i hi n hn;have h6:=hl _ (List.getElem_mem hi)
  have h:=Ym3 (τ:=Nat) l[i].2.2.2.2.1 (f:=fun s=>Xf3.B l a (i:Int) s.1 s.2) (fun k m=>((m:Int),(k:Int))) (fun _ e m=>.inl (m+(if e.2.1 == a then 1 else 0))) (fun m=>((m:Nat):Int)) (fun k m=>m≤n+k)
   (fun k hk m hm=>by
    simp only[Xf3.B,Yxb hi,Yw4,toNat_cast,getD_lt _ hi,Option.bind_some,Yxm hk,Yxb hk,getD_lt _ hk,Yvo (by omega:k<4294967296),Yvo (by omega:m<4294967296),sel]
    cases h:((l[i].2.2.2.2.1[k]).2.1 == a)<;>simp[h])
   (fun k hk m m' hm e=>by cases e;split<;>omega)
   (fun m hm=>by
    simp only[Xf3.B,Yxb hi,Yw4,toNat_cast,getD_lt _ hi,Option.bind_some,Yxe (Nat.le_refl _),Ywx]) n (by omega) (s:=((n:Int),0)) rfl
  refine Eq.trans h ?_;rw[Yfm,Xib]
 have h:=Ym3 (τ:=Nat) l (f:=fun s=>Xge.B l a s.1 s.2) (fun k m=>((m:Int),(k:Int))) (fun _ x m=>.inl (m+(x.2.2.2.2.1.map fun e=>e.2.1).count a)) (fun m=>((m:Nat):Int)) (fun k m=>m≤6*k)
  (fun k hk m hm=>by
   simp only[Xge.B,Yxm hk,Yw4,h1 k hk m (by omega),Option.bind_some,Yvo (by omega:k<4294967296),sel])
  (fun k hk m m' hm e=>by cases e;have:=hl _ (List.getElem_mem hk);have:=List.count_le_length (a:=a) (l:=l[k].2.2.2.2.1.map fun e=>e.2.1);simp at this;omega)
  (fun m hm=>by simp only[Xge.B,Yxe (Nat.le_refl _),Ywx]) 0 (by omega) (s:=(0,0)) rfl
 have h':Xge l a (0,0)=_:=h;simp only[Xiw,h',Option.bind_some];rw[Yfm]
 have:∀ (l:List Xa) (m:Nat),l.foldl (fun t x=>t+(x.2.2.2.2.1.map fun e=>e.2.1).count a) m=m+(Xjy l).count a:=by
  intro l
  induction l with
  |nil=>intro m;simp[Xjy]
  |cons y l ih=>intro m;rw[List.foldl_cons,ih];simp only[Xjy,List.flatMap_cons,List.count_append];omega
 rw[this,Nat.zero_add];rfl
theorem Xml (l:List Xa) (hl:∀ x∈l,x.2.2.2.2.1.length≤6) (hn:l.length≤10) (a:Int):Xf2 l a=some (Xak l a):=by
 have h1:∀ (v v2:Int) (x:Xa) (h6:x.2.2.2.2.1.length≤6) (n:Nat),n≤1000→Xbo a l v v2 x.2.2.2.2.1 (x.2.2.2.2.1.length:Int) ((n:Int),0)=some (((n+(x.2.2.2.2.1.map fun e=>e.2.1).count a:Nat):Int)):=by
  intro v v2 x h6 n hn
  have h:=Ym3 (τ:=Nat) x.2.2.2.2.1 (f:=fun s=>Xbo.B a l v v2 x.2.2.2.2.1 (x.2.2.2.2.1.length:Int) s.1 s.2) (fun k m=>((m:Int),(k:Int))) (fun _ e m=>.inl (m+(if e.2.1 == a then 1 else 0))) (fun m=>((m:Nat):Int)) (fun k m=>m≤n+k)
   (fun k hk m hm=>by
    simp only[Xbo.B,Yw4,toNat_cast,Option.bind_some,Yxm hk,Yxb hk,getD_lt _ hk,Yvo (by omega:k<4294967296),Yvo (by omega:m<4294967296),sel]
    cases h:((x.2.2.2.2.1[k]).2.1 == a)<;>simp[h])
   (fun k hk m m' hm e=>by cases e;split<;>omega)
   (fun m hm=>by
    simp only[Xbo.B,Yxe (Nat.le_refl _),Ywx]) n (by omega) (s:=((n:Int),0)) rfl
  refine Eq.trans h ?_;rw[Yfm,Xib]
 have h:=Ym3 (τ:=Nat) l (f:=fun s=>Xcw.B a l (l.length:Int) s.1 s.2) (fun k m=>((m:Int),(k:Int))) (fun _ x m=>.inl (m+(x.2.2.2.2.1.map fun e=>e.2.1).count a)) (fun m=>((m:Nat):Int)) (fun k m=>m≤6*k)
  (fun k hk m hm=>by
   simp only[Xcw.B,Yxm hk,Yxb hk,Yw4,toNat_cast,getD_lt _ hk,h1 _ _ _ (hl _ (List.getElem_mem hk)) m (by omega),Option.bind_some,Yvo (by omega:k<4294967296),sel])
  (fun k hk m m' hm e=>by cases e;have:=hl _ (List.getElem_mem hk);have:=List.count_le_length (a:=a) (l:=l[k].2.2.2.2.1.map fun e=>e.2.1);simp at this;omega)
  (fun m hm=>by simp only[Xcw.B,Yxe (Nat.le_refl _),Ywx]) 0 (by omega) (s:=(0,0)) rfl
 have h':Xcw a l (l.length:Int) (0,0)=_:=h;simp only[Xf2,h',Option.bind_some];rw[Yfm]
 have:∀ (l:List Xa) (m:Nat),l.foldl (fun t x=>t+(x.2.2.2.2.1.map fun e=>e.2.1).count a) m=m+(Xjy l).count a:=by
  intro l
  induction l with
  |nil=>intro m;simp[Xjy]
  |cons y l ih=>intro m;rw[List.foldl_cons,ih];simp only[Xjy,List.flatMap_cons,List.count_append];omega
 rw[this,Nat.zero_add];rfl
noncomputable def Xc8 (l:List Xa) (i:Nat) (x:Xa):Bool:=
 cond (x.1 == 0) false (cond (x.1 == 1) (cond (Xak l i != x.2.1) true (!(Xy l 0).contains (i:Int))) (cond ((i:Int) == 0) (cond (Xak l i != 0) true (!(Xy l 0).contains (i:Int))) (cond (Xak l i != 1) true (!(Xy l 0).contains (i:Int)))))
noncomputable def Xao (l:List Xa):Bool:=(List.range l.length).any fun i=>Xc8 l i (l.getD i Xb)
theorem Xf7 {α ρ:Type} (l:List α) (d:α) {f:Int→Option (Int⊕(ρ⊕Unit))} (p:Nat→α→Bool) (r:ρ)
  (hs:∀ (i:Nat) (h:i<l.length),f (i:Int)=cond (p i l[i]) (some (.inr (.inl r))) (some (.inl ((i+1:Nat):Int)))) (he:f (l.length:Int)=some (.inr (.inr ()))) :
  Y9 f 0=some (cond ((List.range l.length).any fun i=>p i (l.getD i d)) (.inl r) (.inr ())):=by
 refine Ywl (List.range l.length) (fun i=>p i (l.getD i d)) r (fun i hi=>?_) (by rw[List.length_range];exact he)
 have hi':i<l.length:=by simpa using hi
 rw[hs i hi',List.getElem_range,getD_lt _ hi']
theorem Xmr (f:Fs_) (h:X0 f):Xg6 f=some (!Xao f.1):=by
 have hn:=(Xbr.of h.inod).len;have h6:∀ x∈f.1,x.2.2.2.2.1.length≤6:=fun x hx=>((Xek.of h.inod).ent x hx).1;have hrl:=Xh8 f.1 0
 have hl:Xhv f (Xy f.1 0) 0=_:=Xf7 f.1 Xb (Xc8 f.1) false (fun i hi=>by
  simp only[Xhv.B,Yxm hi,Yxb hi,Yw4,toNat_cast,getD_lt _ hi,Xl2 f.1 h6 hn,Xmn _ _ (by omega:(Xy f.1 0).length≤2147483648),Option.bind_some,Yvo (by omega:i<4294967296),Xc8]
  cases (f.1[i].1 == 0)
  ·simp only[Ywx]
   cases (f.1[i].1 == 1)
   ·simp only[Ywx]
    cases ((i:Int) == 0)
    ·simp only[Ywx]
     cases (Xak f.1 (i:Int) != 1)
     ·simp only[Ywx]
     ·rfl
    ·simp only[Yw4]
     cases (Xak f.1 (i:Int) != 0)
     ·simp only[Ywx]
     ·rfl
   ·simp only[Yw4]
    cases (Xak f.1 (i:Int) != f.1[i].2.1)
    ·simp only[Ywx]
    ·rfl
  ·rfl) (by simp only[Xhv.B,Yxe (Nat.le_refl _),Ywx])
 simp only[Xg6,Xno f h.Xlo hn h.pos,Option.bind_some,hl,Xao]
 cases (List.range f.1.length).any fun i=>Xc8 f.1 i (f.1.getD i Xb)<;>rfl
theorem Xnh (f:Fs_) (h:X0 f):Xbx f=some (cond (Xao f.1) 1 0):=by
 have hn:=(Xbr.of h.inod).len;have h6:∀ x∈f.1,x.2.2.2.2.1.length≤6:=fun x hx=>((Xek.of h.inod).ent x hx).1;have hrl:=Xh8 f.1 0
 have hl:Xc9 f f.1 (f.1.length:Int) (Xy f.1 0) 0=_:=Xf7 f.1 Xb (Xc8 f.1) (1:Int) (fun i hi=>by
  have hk:=(Xa2 ((X3 h.inod).2 _ (List.getElem_mem hi))).1
  simp only[Xc9.B,Yxm hi,Yxb hi,Yw4,toNat_cast,getD_lt _ hi,Xml f.1 h6 hn,Xll _ _ (by omega:(Xy f.1 0).length≤2147483648),Option.bind_some,Yvo (by omega:i<4294967296),Xc8]
  generalize hx:f.1[i]=x at hk
  by_cases e0:x.1=0
  ·rw[show(x.1 == 0)=true by simp[e0],show(x.1 == 1)=false by simp[e0],show(x.1 == 2)=false by simp[e0],show(x.1 != 0)=false by simp[e0]];rfl
  ·by_cases e1:x.1=1
   ·rw[show(x.1 == 0)=false by simp[e0],show(x.1 == 1)=true by simp[e1],show(x.1 == 2)=false by simp[e1],show(x.1 != 0)=true by simp[e0],show(x.2.1 != Xak f.1 (i:Int))=(Xak f.1 (i:Int) != x.2.1) by rw[bne,bne,Bool.beq_comm]]
    simp only[Yw4,Ywx]
    cases (Xak f.1 (i:Int) != x.2.1)<;>rfl
   ·have e2:x.1=2:=by omega
    rw[show(x.1 == 0)=false by simp[e0],show(x.1 == 1)=false by simp[e1],show(x.1 == 2)=true by simp[e2],show(x.1 != 0)=true by simp[e0]]
    simp only[Yw4,Ywx]
    cases i with
    |zero=>
     rw[show(((0:Nat):Int) == 0)=true from rfl,show decide (((0:Nat):Int)>0)=false from rfl];simp only[Yw4,Ywx]
     cases (Xak f.1 ((0:Nat):Int) != 0)<;>rfl
    |succ j=>
     rw[show(((j+1:Nat):Int) == 0)=false by simp;omega,show decide (((j+1:Nat):Int)>0)=true by simp]
     simp only[Yw4,Ywx]
     cases (Xak f.1 ((j+1:Nat):Int) != 1)<;>rfl) (by simp only[Xc9.B,Yxe (Nat.le_refl _),Ywx])
 have hr:Xei f.1 0=some (Xy f.1 0):=Xmf h.Xlo hn 0 h.pos;simp only[Xbx,hr,Option.bind_some,hl,Xao]
 cases (List.range f.1.length).any fun i=>Xc8 f.1 i (f.1.getD i Xb)<;>rfl
def Xju (a b:Int):Int:=cond (decide (a<b)) a b
theorem Xl9 (a b:Int):Xi3 a b=some (Xju a b):=by simp only[Xi3,Xju,Yvh]
theorem Xk4 (a b:Int):cond (decide (a<b)) a b=Xju b a:=by
 unfold Xju
 by_cases h1:a<b
 ·rw[show decide (a<b)=true by simp[h1],show decide (b<a)=false by simp;omega];rfl
 ·by_cases h2:b<a
  ·rw[show decide (a<b)=false by simp;omega,show decide (b<a)=true by simp[h2]];rfl
  ·have:a=b:=by omega
   subst this;simp
def Xds (x:Xa):Nat→List Int→List Int→List Int
 |_,[],w=>w
 |k,b::bs,w=>Xds x (k+1) bs (w.set b.toNat (Xju 8 (w64 (x.2.2.1-w64 ((k:Int)*8)))))
def Xio:List Xa→List Int→List Int
 |[],w=>w
 |x::l,w=>Xio l (Xds x 0 x.2.2.2.1 w)
def Xc2 (l:List Xa):List Int:=Xio l (List.replicate 20 0)
theorem Xd8 (x:Xa):∀ (bs:List Int) (k:Nat) (w:List Int),(Xds x k bs w).length=w.length
 |[],k,w=>rfl
 |b::bs,k,w=>by simp only[Xds];rw[Xd8 x bs];simp
theorem Xip:∀ (l:List Xa) (w:List Int),(Xio l w).length=w.length
 |[],w=>rfl
 |x::l,w=>by simp only[Xio];rw[Xip l,Xd8]
theorem Xkd (l:List Xa):(Xc2 l).length=20:=by unfold Xc2;rw[Xip];simp
theorem Xew (x:Xa):∀ (bs:List Int) (k:Nat) (w:List Int),Yba (fun k b w=>.inl (w.set b.toNat (Xju 8 (w64 (x.2.2.1-w64 ((k:Int)*8)))))) id k bs w=Xds x k bs w
 |[],k,w=>rfl
 |b::bs,k,w=>by simp only[Yba,Yw2,Xds];exact Xew x bs _ _
theorem Xey:∀ (l:List Xa) (k:Nat) (w:List Int),Yba (fun _ x w=>.inl (Xds x 0 x.2.2.2.1 w)) id k l w=Xio l w
 |[],k,w=>rfl
 |x::l,k,w=>by simp only[Yba,Yw2,Xio];exact Xey l _ _
theorem Xns (f:Fs_) (i:Int) (x:Xa) (h4:x.2.2.2.1.length≤4) (hb:∀ b∈x.2.2.2.1,0≤b∧b≤19) (w:List Int) (hw:w.length=20):Xfd f i x (0,w)=some (Xds x 0 x.2.2.2.1 w):=by
 have h:=Ym3 (τ:=List Int) x.2.2.2.1 (f:=fun s=>Xfd.B f i x s.1 s.2) (fun k w=>((k:Int),w)) (fun k b w=>.inl (w.set b.toNat (Xju 8 (w64 (x.2.2.1-w64 ((k:Int)*8)))))) id (fun k w=>w.length=20)
  (fun k hk w hw=>by
   have h2:=hb _ (List.getElem_mem hk)
   simp only[Xfd.B,Yxm hk,Yxb hk,Yw4,toNat_cast,getD_lt _ hk,Xl9,Option.bind_some,Yvo (by omega:k<4294967296),sel]
   rw[show inB (x.2.2.2.1[k]) w.length=true from Yu7 h2.1 (by omega)];rfl) (fun k hk w w' hw e=>by cases e;simpa using hw) (fun w hw=>by
   simp only[Xfd.B,Yxe (Nat.le_refl _),Ywx,id]) w hw (s:=(0,w)) rfl
 rw[Xew] at h;exact h
theorem Xna (l:List Xa) (v v2:Int) (v3:List Int) (x:Xa) (h4:x.2.2.2.1.length≤4) (hb:∀ b∈x.2.2.2.1,0≤b∧b≤19) (w:List Int) (hw:w.length=20):Xa6 l v v2 x.2.2.2.1 (x.2.2.2.1.length:Int) v3 x (0,w)=some (Xds x 0 x.2.2.2.1 w):=by
 have h:=Ym3 (τ:=List Int) x.2.2.2.1 (f:=fun s=>Xa6.B l v v2 x.2.2.2.1 (x.2.2.2.1.length:Int) v3 x s.1 s.2) (fun k w=>((k:Int),w)) (fun k b w=>.inl (w.set b.toNat (Xju 8 (w64 (x.2.2.1-w64 ((k:Int)*8)))))) id (fun k w=>w.length=20)
  (fun k hk w hw=>by
   have h2:=hb _ (List.getElem_mem hk)
   simp only[Xa6.B,Yxm hk,Yxb hk,Yw4,toNat_cast,getD_lt _ hk,Xk4,Option.bind_some,Yvo (by omega:k<4294967296),sel]
   rw[show inB (x.2.2.2.1[k]) 20=true from Yu7 h2.1 (by omega)];rfl) (fun k hk w w' hw e=>by cases e;simpa using hw) (fun w hw=>by
   simp only[Xa6.B,Yxe (Nat.le_refl _),Ywx,id]) w hw (s:=(0,w)) rfl
 rw[Xew] at h;exact h
theorem Xnw (l:List Xa) (hok:Xbr l):Xe7 l=some (Xc2 l):=by
 have hl:=hok.len
 have h:=Ym3 (τ:=List Int) l (f:=fun s=>Xb0.B l (l.length:Int) (List.replicate 20 0) s.1 s.2) (fun k w=>((k:Int),w)) (fun _ x w=>.inl (Xds x 0 x.2.2.2.1 w)) id (fun k w=>w.length=20)
  (fun k hk w hw=>by
   have h2:=hok.blk _ (List.getElem_mem hk)
   simp only[Xb0.B,Yxm hk,Yxb hk,Yw4,toNat_cast,getD_lt _ hk,Option.bind_some,Xna l _ _ _ _ h2.1 h2.2 w hw,Yvo (by omega:k<4294967296),sel]) (fun k hk w w' hw e=>by cases e;rw[Xd8];exact hw) (fun w hw=>by
   simp only[Xb0.B,Yxe (Nat.le_refl _),Ywx,id]) (List.replicate 20 0) (by simp) (s:=(0,List.replicate 20 0)) rfl
 rw[Xey] at h;have h':Xb0 l (l.length:Int) (List.replicate 20 0) (0,List.replicate 20 0)=some (Xc2 l):=h;simp only[Xe7,h',Option.bind_some]
def Xaq (f:Fs_):Bool:=(List.range 20).any fun i=>((f.2.1.getD i []).length:Int) != (Xc2 f.1).getD i 0
theorem Xng (f:Fs_) (h:X0 f):Xdx f=some (!Xaq f):=by
 have hok:=Xbr.of h.inod;have hl:=hok.len;have hd:=h.dat
 have h1:=Ym3 (τ:=List Int) f.1 (f:=fun s=>Xgr.B f s.1 s.2) (fun k w=>((k:Int),w)) (fun _ x w=>.inl (Xds x 0 x.2.2.2.1 w)) id (fun k w=>w.length=20)
  (fun k hk w hw=>by
   have h2:=hok.blk _ (List.getElem_mem hk)
   simp only[Xgr.B,Yxm hk,Yxb hk,Yw4,toNat_cast,getD_lt _ hk,Option.bind_some,Xns f _ _ h2.1 h2.2 w hw,Yvo (by omega:k<4294967296),sel]) (fun k hk w w' hw e=>by cases e;rw[Xd8];exact hw) (fun w hw=>by
   simp only[Xgr.B,Yxe (Nat.le_refl _),Ywx,id]) (List.replicate 20 0) (by simp) (s:=(0,List.replicate 20 0)) rfl
 rw[Xey] at h1;have h1':Xgr f (0,List.replicate 20 0)=some (Xc2 f.1):=h1;have hwl:=Xkd f.1
 have h2:Xh0 f (Xc2 f.1) 0=_:=Xf7 f.2.1 [] (fun i b=>(b.length:Int) != (Xc2 f.1).getD i 0) false (fun i hi=>by
  simp only[Xh0.B,Yxm hi,Yxb hi,Yxb (by omega:i<(Xc2 f.1).length),Yw4,toNat_cast,getD_lt _ hi,Option.bind_some,Yvo (by omega:i<4294967296)]) (by
  simp only[Xh0.B,Yxe (Nat.le_refl _),Ywx])
 simp only[Xdx];rw[show(decide ((0:Int)≤(20:Int))&&(decide ((20:Int)≤(20:Int))&&decide ((20:Int)≤2147483648)))=true from rfl,show(20:Int).toNat=20 from rfl];simp only[Yw4,h1',Option.bind_some,h2,Xaq,hd]
 cases (List.range 20).any fun i=>((f.2.1.getD i []).length:Int) != (Xc2 f.1).getD i 0<;>rfl
theorem Xl0 (f:Fs_) (h:X0 f):Xca f=some (cond (Xaq f) 1 0):=by
 have hok:=Xbr.of h.inod;have hd:=h.dat
 have h2:Xdu f (Xc2 f.1) 0=_:=Ywl (List.range 20) (fun i=>((f.2.1.getD i []).length:Int) != (Xc2 f.1).getD i 0) (1:Int) (fun i hi=>by
  have hi':i<20:=by simpa using hi
  simp only[Xdu.B,show decide ((i:Int)<20)=true by simp;omega,Yxb hi',Yxb (by omega:i<f.2.1.length),Yw4,toNat_cast,Xhk,Option.bind_some,Yvo (by omega:i<4294967296),List.getElem_range]) (by
  rw[List.length_range];rfl)
 simp only[Xca,Xnw f.1 hok,Option.bind_some,h2,Xaq]
 cases (List.range 20).any fun i=>((f.2.1.getD i []).length:Int) != (Xc2 f.1).getD i 0<;>rfl
noncomputable def fsF (f:Fs_):Int:=cond (Xbz f != 0) (Xbz f) (cond (Xao f.1) 1 (cond (Xaq f) 1 0))
theorem Xlz (f:Fs_) (hb:Bd Xn f):Xi0 f=some (fsF f):=by
 simp only[Xi0,fsF,Xmg f hb,Option.bind_some]
 cases h:(Xbz f != 0) with
 |true=>simp only[Yw4]
 |false=>
  have ht:=X0.of (by simpa using h:Xbz f=0)
  simp only[Ywx,Xmr f ht,Xng f ht,Option.bind_some,Bool.not_not,Yvh]
theorem Xma (f:Fs_) (hb:Bd Xn f):Xfa f=some (fsF f):=by
 simp only[Xfa,fsF,Xni f hb,Option.bind_some]
 cases h:(Xbz f != 0) with
 |true=>simp only[Yw4]
 |false=>
  have ht:=X0.of (by simpa using h:Xbz f=0)
  simp only[Ywx,Xnh f ht,Xl0 f ht,Option.bind_some]
  cases Xao f.1<;>cases Xaq f<;>rfl
structure Xj8 (f:Fs_):Prop where
 tree:X0 f
 lnk:Xao f.1=false
 siz:Xaq f=false
theorem Xj8.of {f:Fs_} (h:fsF f=0):Xj8 f:=by
 unfold fsF at h
 cases h0:(Xbz f != 0) with
 |true=>rw[h0] at h;exact absurd h (by simpa using h0)
 |false=>
  rw[h0] at h
  cases h1:Xao f.1 with
  |true=>rw[h1] at h;cases h
  |false=>
   rw[h1] at h
   cases h2:Xaq f with
   |true=>rw[h2] at h;cases h
   |false=>exact⟨X0.of (by simpa using h0),h1,h2⟩
theorem Xgm (l:List Xa):(X8 l).length≤20:=by
 have:=List.length_filter_le (fun b=>(X6 l).contains b) r20;rw[Xi2] at this;exact this
theorem Xj6 (k:IntKind):∀ xs:List Int,(xs.map (wt (.int k))).sum=xs.length
 |[]=>rfl
 |x::xs=>by rw[List.map_cons,List.sum_cons,Xj6 k xs,Yw6,List.length_cons];omega
def Xef (e:Xf):List Int:=[e.2.1,(e.1.length:Int)]++e.1.map fun b=>(b.toNat:Int)
def Xfn (x:Xa):List Int:=cond (x.1 != 2) ([x.1,x.2.1,x.2.2.1]++x.2.2.2.1) (([x.1,x.2.1,x.2.2.1]++x.2.2.2.1)++[(x.2.2.2.2.1.length:Int)]++x.2.2.2.2.1.flatMap Xef)
structure Xd5 (x:Xa):Prop where
 blk:x.2.2.2.1.length≤4
 ent:x.2.2.2.2.1.length≤6
 nam:∀ e∈x.2.2.2.2.1,e.1.length≤4
theorem Xd5.of {x:Xa} (h:Xaj x=0):Xd5 x:=
 ⟨(Xd3 h).1,(Xa2 h).2.1,fun e he=>(Xk0 ((Xa2 h).2.2.2.2.2 e he).1).2.1⟩
theorem Xgp {e:Xf} (h:e.1.length≤4):(Xef e).length≤6:=by simp[Xef];omega
theorem Xie:∀ {l:List Xf},(∀ e∈l,e.1.length≤4)→(l.flatMap Xef).length≤6*l.length
 |[],_=>by simp
 |e::l,h=>by
  have h1:=Xgp (h e (List.mem_cons_self ..));have:=Xie fun x hx=>h x (List.mem_cons_of_mem _ hx);simp only[List.flatMap_cons,List.length_append,List.length_cons];omega
theorem Xke {x:Xa} (h:Xd5 x):(Xfn x).length≤44:=by
 unfold Xfn;have:=Xie h.nam;have:=h.blk;have:=h.ent;cases (x.1 != 2)
 ·simp only[Ywx,List.length_append,List.length_cons,List.length_nil];omega
 ·simp only[Yw4,List.length_append,List.length_cons,List.length_nil];omega
theorem Xkp (b:UInt8):w64 (b.toNat:Int)=(b.toNat:Int):=by
 have:=b.toNat_lt
 exact Yq5 (by omega) (by omega)
theorem Xg3 (g:Xf→List Int):∀ (l:List Xf) (t:List Int),l.foldl (fun t e=>t++g e) t=t++l.flatMap g
 |[],t=>by simp
 |e::l,t=>by rw[List.foldl_cons,Xg3 g l];simp
theorem Xmh (x:Xa) (h:Xd5 x):Xi7 x=some (Xfn x):=by
 have hb:=h.blk
 have h1:∀ (i:Int) (e:Xf) (t:List Int),e.1.length≤4→t.length≤1000→Xfp x i e (0,t)=some (t++e.1.map fun b=>(b.toNat:Int)):=by
  intro i e t he ht
  exact Yvg e.1 (f:=fun s=>Xfp.B x i e s.1 s.2) (fun b=>(b.toNat:Int)) id t.length (fun k hk t ht=>by
   simp only[Xfp.B,Yxm hk,Yxb hk,Yw4,toNat_cast,getD_lt _ hk,Xkp,Option.bind_some,Yvo (by omega:k<4294967296)]
   rw[Xaa (by simp;omega)];rfl) (fun t ht=>by
   simp only[Xfp.B,Yxe (Nat.le_refl _),Ywx,id]) t rfl
 have h0:∀ t:List Int,t.length≤10→Xgo x (0,t)=some (t++x.2.2.2.2.1.flatMap Xef):=by
  intro t ht
  have:=Yib x.2.2.2.2.1 (f:=fun s=>Xgo.B x s.1 s.2) (fun t e=>t++Xef e) id (fun k t=>t.length≤10+6*k) (fun k hk t ht=>by
   have he:=h.nam _ (List.getElem_mem hk);have hn:=h.ent;have hp:=Xgp he
   refine⟨?_,by simp;omega⟩
   simp only[Xgo.B,Yxm hk,Yxb hk,Yw4,toNat_cast,getD_lt _ hk,Option.bind_some,Yvo (by omega:k<4294967296)]
   rw[Xaa (by simp;omega)]
   simp only[Yw4,h1 _ _ _ he (by simp;omega:(t++[(x.2.2.2.2.1[k]).2.1,((x.2.2.2.2.1[k]).1.length:Int)]).length≤1000),Option.bind_some,Xef,List.append_assoc]) (fun t ht=>by
   simp only[Xgo.B,Yxe (Nat.le_refl _),Ywx,id]) t (by omega)
  rw[Xg3] at this;exact this
 simp only[Xi7,Xfn]
 rw[Xaa (by simp;omega)]
 simp only[Yw4];cases (x.1 != 2)
 ·simp only[Ywx,Option.bind_some]
  rw[Xaa (by simp;omega)]
  simp only[Yw4,h0 _ (by simp;omega:(([x.1,x.2.1,x.2.2.1]++x.2.2.2.1)++[(x.2.2.2.2.1.length:Int)]).length≤10),Option.bind_some]
 ·rfl
theorem Xmv (x:Xa) (h:Xd5 x):Xau x=some (Xfn x):=by
 have hb:=h.blk
 have h1:∀ (v:List Xf) (v2 v3:Int) (e:Xf) (t:List Int),e.1.length≤4→t.length≤1000→Xbj v v2 v3 (e.1.length:Int) e (0,t)=some (t++e.1.map fun b=>(b.toNat:Int)):=by
  intro v v2 v3 e t he ht
  exact Yvg e.1 (f:=fun s=>Xbj.B v v2 v3 (e.1.length:Int) e s.1 s.2) (fun b=>(b.toNat:Int)) id t.length (fun k hk t ht=>by
   simp only[Xbj.B,Yxm hk,Yxb hk,Yw4,toNat_cast,getD_lt _ hk,Xkp,Option.bind_some,Yvo (by omega:k<4294967296)]
   rw[Xaa (by simp;omega)];rfl) (fun t ht=>by
   simp only[Xbj.B,Yxe (Nat.le_refl _),Ywx,id]) t rfl
 have h0:∀ t:List Int,t.length≤10→Xb9 x.2.2.2.2.1 (x.2.2.2.2.1.length:Int) (0,t)=some (t++x.2.2.2.2.1.flatMap Xef):=by
  intro t ht
  have:=Yib x.2.2.2.2.1 (f:=fun s=>Xb9.B x.2.2.2.2.1 (x.2.2.2.2.1.length:Int) s.1 s.2) (fun t e=>t++Xef e) id (fun k t=>t.length≤10+6*k) (fun k hk t ht=>by
   have he:=h.nam _ (List.getElem_mem hk);have hn:=h.ent;have hp:=Xgp he
   refine⟨?_,by simp;omega⟩
   simp only[Xb9.B,Yxm hk,Yxb hk,Yw4,toNat_cast,getD_lt _ hk,Option.bind_some,Yvo (by omega:k<4294967296)]
   rw[Xaa (by simp;omega)]
   simp only[Yw4,h1 _ _ _ _ _ he (by simp;omega:(t++[(x.2.2.2.2.1[k]).2.1,((x.2.2.2.2.1[k]).1.length:Int)]).length≤1000),Option.bind_some,Xef,List.append_assoc]) (fun t ht=>by
   simp only[Xb9.B,Yxe (Nat.le_refl _),Ywx,id]) t (by omega)
  rw[Xg3] at this;exact this
 simp only[Xau,Xfn,Xg9]
 rw[Xaa (by simp;omega)]
 simp only[Yw4];cases (x.1 != 2)
 ·simp only[Ywx,Option.bind_some]
  rw[Xaa (by simp;omega)]
  simp only[Yw4,h0 _ (by simp;omega:(([x.1,x.2.1,x.2.2.1]++x.2.2.2.1)++[(x.2.2.2.2.1.length:Int)]).length≤10),Option.bind_some]
 ·rfl
def Xu (l:List Xa):List Xg:=(List.range 10).map fun i:Nat=>((17:Int)+(i:Int),cond (decide (i<l.length)) (Xfn (l.getD i Xb)) [],())
theorem Xii {β:Type} (n:Nat) {f:Int×List β→Option ((Int×List β)⊕List β)} (g:Nat→β)
  (hs:∀ (k:Nat) (h:k<n) (t:List β),t.length=k→f ((k:Int),t)=some (.inl (((k+1:Nat):Int),t++[g k]))) (he:∀ t,f ((n:Int),t)=some (.inr t)):Y9 f (0,[])=some ((List.range n).map g):=by
 have:=Yvg (List.range n) (f:=f) g id 0 (fun i hi t ht=>by
  have hi':i<n:=by simpa using hi
  rw[List.getElem_range];exact hs i hi' t (by omega)) (fun t ht=>by rw[List.length_range];exact he t) [] rfl
 simpa using this
theorem Xoj (f:Fs_) (h:Xt f.1=0):Xgd f=some (Xu f.1):=by
 have hl:=(Xbr.of h).len
 have h0:Xhw f (0,[])=some (Xu f.1):=Xii 10 (f:=fun s=>Xhw.B f s.1 s.2) (fun i:Nat=>((17:Int)+(i:Int),cond (decide (i<f.1.length)) (Xfn (f.1.getD i Xb)) [],())) (fun k hk t ht=>by
  simp only[Xhw.B,show decide ((k:Int)<10)=true by simp;omega,Yw4,Yq5 (x:=17+(k:Int)) (by omega) (by omega),Yvo (by omega:k<4294967296)]
  rw[Xaa (by simp;omega)]
  by_cases hk2:k<f.1.length
  ·rw[Yxm hk2,show decide (k<f.1.length)=true by simp[hk2]]
   simp only[Yw4,Yxb hk2,toNat_cast,getD_lt _ hk2,Xmh _ (Xd5.of ((X3 h).2 _ (List.getElem_mem hk2))),Option.bind_some]
   rw[Xaa (by simp;omega)];rfl
  ·rw[Yxe (by omega),show decide (k<f.1.length)=false by simp;omega];rfl) (fun t=>rfl)
 simp only[Xgd,h0,Option.bind_some]
theorem Xm7 (f:Fs_) (h:Xt f.1=0):Xbt f=some (Xu f.1):=by
 have hl:=(Xbr.of h).len
 have h0:Xdj f (0,[])=some (Xu f.1):=Xii 10 (f:=fun s=>Xdj.B f s.1 s.2) (fun i:Nat=>((17:Int)+(i:Int),cond (decide (i<f.1.length)) (Xfn (f.1.getD i Xb)) [],())) (fun k hk t ht=>by
  simp only[Xdj.B,Xda,Option.bind_some,show decide ((k:Int)<10)=true by simp;omega,Yw4,Yq5 (x:=17+(k:Int)) (by omega) (by omega),Yvo (by omega:k<4294967296)]
  rw[Xaa (by simp;omega)]
  by_cases hk2:k<f.1.length
  ·rw[Yxm hk2,show decide (k<f.1.length)=true by simp[hk2]]
   simp only[Yw4,Yxb hk2,toNat_cast,getD_lt _ hk2,Xmv _ (Xd5.of ((X3 h).2 _ (List.getElem_mem hk2))),Option.bind_some]
   rw[Xaa (by simp;omega)];rfl
  ·rw[Yxe (by omega),show decide (k<f.1.length)=false by simp;omega];rfl) (fun t=>rfl)
 simp only[Xbt,h0,Option.bind_some]
theorem Xgk {l:List Xa} (h:Xt l=0):∀ p∈Xu l,p.2.1.length≤44:=by
 intro p hp;obtain⟨i,hi,rfl⟩:=List.mem_map.1 hp;simp only
 by_cases h2:i<l.length
 ·rw[show decide (i<l.length)=true by simp[h2],getD_lt _ h2]
  exact Xke (Xd5.of ((X3 h).2 _ (List.getElem_mem h2)))
 ·rw[show decide (i<l.length)=false by simp;omega];simp
def Xbh (f:Fs_) (b:Int):Xg:=((27:Int)+b,f.2.1.getD b.toNat [],())
def X4 (f:Fs_):List Xg:=(X8 f.1).map (Xbh f)
def Xeu (f:Fs_):Prop:=∀ b∈f.2.1,∀ v∈b,0≤v∧v≤255
theorem Xmi (f:Fs_) (ht:X0 f) (hby:Xeu f) (i:Nat) (out:List Xg) (v:List Int) (b3:Bool) (hi:i<v.length) (hv:0≤v[i]∧v[i]≤19) (a:Int):Xfq f (i:Int) out v b3 () (0,(a,[],()))=some (a,f.2.1.getD v[i].toNat [],()):=by
 have hd:=ht.dat
 have hv1:v[i].toNat<f.2.1.length:=by omega
 have hm:=List.getElem_mem hv1;have hl:=ht.dl _ hm;rw[getD_lt _ hv1]
 have:=Ym3 (τ:=List Int) f.2.1[v[i].toNat] (f:=fun s=>Xfq.B f (i:Int) out v b3 () s.1 s.2) (fun k t=>((k:Int),(a,t,()))) (fun _ x t=>.inl (t++[x])) (fun t=>((a,t,()):Xg)) (fun k t=>t.length≤k) (fun k hk t ht=>by
  have hx:=hby _ hm _ (List.getElem_mem hk)
  simp only[Xfq.B,Yxb hi,Yw4,toNat_cast,getD_lt _ hi,show inB v[i] f.2.1.length=true from Yu7 hv.1 (by omega),getD_lt _ hv1,Option.bind_some,Yxm hk,Yxb hk,getD_lt _ hk,Yq5 (x:=f.2.1[v[i].toNat][k]) (by omega) (by omega),Yvo (by omega:k<4294967296),sel]
  rw[Xaa (by simp;omega)];rfl) (fun k hk t t' h e=>by cases e;simp;omega) (fun t h=>by
  simp only[Xfq.B,Yxb hi,Yw4,toNat_cast,getD_lt _ hi,show inB v[i] f.2.1.length=true from Yu7 hv.1 (by omega),getD_lt _ hv1,Option.bind_some,Yxe (Nat.le_refl _),Ywx]) [] (by simp) (s:=(0,(a,[],()))) rfl
 refine Eq.trans this ?_;have e:=Yqy (fun x:Int=>x) (fun t=>((a,t,()):Xg)) f.2.1[v[i].toNat] 0 [];rw[e];simp
theorem Xd7 {l:List Xa} {b:Int} (h:b∈X8 l):0≤b∧b≤19:=(Xja b).1 (List.mem_filter.1 h).1
theorem Xnn (f:Fs_) (ht:X0 f) (hby:Xeu f):Xes f=some (X4 f):=by
 have hok:=Xbr.of ht.inod;have hu:=Xgm f.1
 have h0:Xgg f (X8 f.1) (Xaz f.1) () (0,[])=some ([]++(X8 f.1).map (Xbh f)):=Yvg (X8 f.1) (f:=fun s=>Xgg.B f (X8 f.1) (Xaz f.1) () s.1 s.2) (Xbh f) id 0 (fun i hi t ht2=>by
  have hb:=Xd7 (List.getElem_mem hi)
  simp only[Xgg.B,Yxm hi,Yxb hi,Yw4,toNat_cast,getD_lt _ hi,Yq5 (x:=27+(X8 f.1)[i]) (by omega) (by omega),Xmi f ht hby i _ _ _ hi hb,Option.bind_some,Yvo (by omega:i<4294967296)]
  rw[Xaa (by simp;omega)];rfl) (fun t ht=>by
  simp only[Xgg.B,Yxe (Nat.le_refl _),Ywx,id]) [] rfl
 simp only[Xes,Xlh f.1 hok,Option.bind_some,h0,List.nil_append,X4]
theorem Xnb (f:Fs_) (v v2:Int) (list:List Xg) (v3:List Int) (v4:Bool) (b:List Int) (hl:b.length≤8) (hby:∀ x∈b,0≤x∧x≤255) (a:Int):Xba f v v2 b (b.length:Int) list v3 v4 () (0,(a,[],()))=some (a,b,()):=by
 have:=Ym3 (τ:=List Int) b (f:=fun s=>Xba.B f v v2 b (b.length:Int) list v3 v4 () s.1 s.2) (fun k t=>((k:Int),(a,t,()))) (fun _ x t=>.inl (t++[x])) (fun t=>((a,t,()):Xg)) (fun k t=>t.length≤k) (fun k hk t ht=>by
  have hx:=hby _ (List.getElem_mem hk)
  simp only[Xba.B,Yxm hk,Yxb hk,Yw4,toNat_cast,getD_lt _ hk,Yq5 (x:=b[k]) (by omega) (by omega),Yvo (by omega:k<4294967296),sel]
  rw[Xaa (by simp;omega)];rfl) (fun k hk t t' h e=>by cases e;simp;omega) (fun t h=>by
  simp only[Xba.B,Yxe (Nat.le_refl _),Ywx]) [] (by simp) (s:=(0,(a,[],()))) rfl
 refine Eq.trans this ?_;have e:=Yqy (fun x:Int=>x) (fun t=>((a,t,()):Xg)) b 0 [];rw[e];simp
theorem Xm8 (f:Fs_) (ht:X0 f) (hby:Xeu f):Xav f=some (X4 f):=by
 have hok:=Xbr.of ht.inod;have hu:=Xgm f.1;have hd:=ht.dat
 have h0:Xc0 f ((X8 f.1).length:Int) (X8 f.1) (Xaz f.1) () (0,[])=some ([]++(X8 f.1).map (Xbh f)):=Yvg (X8 f.1) (f:=fun s=>Xc0.B f ((X8 f.1).length:Int) (X8 f.1) (Xaz f.1) () s.1 s.2) (Xbh f) id 0 (fun i hi t ht2=>by
  have hb:=Xd7 (List.getElem_mem hi)
  have hlt:(X8 f.1)[i].toNat<f.2.1.length:=by omega
  have hm:=List.getElem_mem hlt
  simp only[Xc0.B,Yxm hi,Yxb hi,Yw4,toNat_cast,getD_lt _ hi,show inB (X8 f.1)[i] f.2.1.length=true from Yu7 hb.1 (by omega),getD_lt _ hlt,Yq5 (x:=27+(X8 f.1)[i]) (by omega) (by omega),Xnb f _ _ _ _ _ _ (ht.dl _ hm) (hby _ hm),Option.bind_some,Yvo (by omega:i<4294967296),Xbh]
  rw[Xaa (by simp;omega)];rfl) (fun t ht=>by
  simp only[Xc0.B,Yxe (Nat.le_refl _),Ywx,id]) [] rfl
 simp only[Xav,Xlb f.1 hok,Xkh f.1 hok ht.once,Option.bind_some,h0,List.nil_append,X4]
theorem Xkk {f:Fs_} (h:Fit Xn f):Xeu f:=by
 intro b hb v hv;have h1:Fit (.sl (.sl (.int .u8))) f.2.1:=h.2.1;have h2:=h1 b hb v hv;exact h2
theorem Xkg {n:Int} (h : -9223372036854775808≤n) (h':n<9223372036854775808):w64 n=n:=Yq5 h (by omega)
def Xko (n:Int) (p:Xg):Int:=cond (!inR p.1 0 n) 3 (Xad p.2.1)
def Xbk (d:Xk):Int:=cond (cond (decide ((d.1.length:Int)>60)) true (decide ((d.2.1.length:Int)>200))) 2 (cond (Yeg Xad d.1 != 0) (Yeg Xad d.1) (Yeg (Xko ((d.1.length:Int)-1)) d.2.1))
theorem Xjz {d:Xk} (h1:d.1.length≤60) (h2:d.2.1.length≤200):cond (decide ((d.1.length:Int)>60)) true (decide ((d.2.1.length:Int)>200))=false:=by
 rw[show decide ((d.1.length:Int)>60)=false by simp;omega,show decide ((d.2.1.length:Int)>200)=false by simp;omega];rfl
theorem Xj0 {d:Xk} (h:¬ (d.1.length≤60∧d.2.1.length≤200)):cond (decide ((d.1.length:Int)>60)) true (decide ((d.2.1.length:Int)>200))=true:=by
 by_cases h1:d.1.length≤60
 ·rw[show decide ((d.2.1.length:Int)>200)=true by simp;omega];cases decide ((d.1.length:Int)>60)<;>rfl
 ·rw[show decide ((d.1.length:Int)>60)=true by simp;omega];rfl
theorem Xnl (d:Xk):Xer d=some (Xbk d):=by
 simp only[Xer,Xbk,Option.bind_some]
 by_cases hb:d.1.length≤60∧d.2.1.length≤200
 ·obtain⟨b1,b2⟩:=hb
  have h:Xh5 d 0=_:=Yus d.1 Xad (fun i hi=>by
   simp only[Xh5.B,Yxm hi,Yxb hi,Yw4,toNat_cast,getD_lt _ hi,Xln,Option.bind_some,Yvo (by omega:i<4294967296)]) (by
   simp only[Xh5.B,Yxe (Nat.le_refl _),Ywx])
  have hw:w64 ((d.1.length:Int)-1)=(d.1.length:Int)-1:=Xkg (by omega) (by omega)
  have h':Xhr d 0=_:=Yus d.2.1 (Xko ((d.1.length:Int)-1)) (fun i hi=>by
   simp only[Xhr.B,Yxm hi,Yxb hi,Yw4,toNat_cast,getD_lt _ hi,Xln,Xig,hw,Option.bind_some,Yvo (by omega:i<4294967296),Xko]
   cases inR d.2.1[i].1 0 ((d.1.length:Int)-1)<;>rfl) (by
   simp only[Xhr.B,Yxe (Nat.le_refl _),Ywx])
  rw[Xjz b1 b2,Ywx,Ywx,h,h',Xab,Xab,Xai]
  cases (Yeg Xad d.1 != 0)<;>rfl
 ·rw[Xj0 hb];rfl
theorem Xn8 (d:Xk):Xa0 d=some (Xbk d):=by
 simp only[Xa0,Xbk,Option.bind_some]
 by_cases hb:d.1.length≤60∧d.2.1.length≤200
 ·obtain⟨b1,b2⟩:=hb
  have h:Xdc d d.1 (d.1.length:Int) 0=_:=Yus d.1 Xad (fun i hi=>by
   simp only[Xdc.B,Yxm hi,Yxb hi,Yw4,toNat_cast,getD_lt _ hi,Xlm,Option.bind_some,Yvo (by omega:i<4294967296)]) (by
   simp only[Xdc.B,Yxe (Nat.le_refl _),Ywx])
  have hw:w64 ((d.1.length:Int)-1)=(d.1.length:Int)-1:=Xkg (by omega) (by omega)
  have h':Xdn d d.2.1 (d.2.1.length:Int) 0=_:=Yus d.2.1 (Xko ((d.1.length:Int)-1)) (fun i hi=>by
   simp only[Xdn.B,Xhh,Yxm hi,Yxb hi,Yw4,toNat_cast,getD_lt _ hi,Xlm,Xid,hw,Option.bind_some,Yvo (by omega:i<4294967296),Xko]
   cases inR d.2.1[i].1 0 ((d.1.length:Int)-1)<;>rfl) (by
   simp only[Xdn.B,Yxe (Nat.le_refl _),Ywx])
  rw[Xjz b1 b2,Ywx,Ywx,h,h',Xab,Xab,Xai]
  cases (Yeg Xad d.1 != 0)<;>rfl
 ·rw[Xj0 hb];rfl
structure Xbs (d:Xk):Prop where
 l1:d.1.length≤60
 l2:d.2.1.length≤200
 w1:∀ w∈d.1,w.length≤64∧∀ x∈w,0≤x∧x≤65535
 w2:∀ p∈d.2.1,(0≤p.1∧p.1≤(d.1.length:Int)-1)∧p.2.1.length≤64∧∀ x∈p.2.1,0≤x∧x≤65535
theorem Xbs.of {d:Xk} (h:Xbk d=0):Xbs d:=by
 unfold Xbk at h
 by_cases hb:d.1.length≤60∧d.2.1.length≤200
 ·obtain⟨b1,b2⟩:=hb
  rw[Xjz b1 b2,Ywx] at h
  cases hc:(Yeg Xad d.1 != 0) with
  |true=>rw[hc,Yw4] at h;simp[h] at hc
  |false=>
   rw[hc,Ywx] at h
   refine⟨b1,b2,fun w hw=>Xis (Xa5.1 (by simpa using hc) w hw),fun p hp=>?_⟩
   have hp:=Xa5.1 h p hp;unfold Xko at hp
   cases hr:inR p.1 0 ((d.1.length:Int)-1) with
   |false=>rw[hr] at hp;cases hp
   |true=>rw[hr] at hp;exact⟨Xc4.1 hr,Xis hp⟩
 ·rw[Xj0 hb] at h;cases h
def Xr (d:Xk) (at_:Int):List Int:=match Yfg d.2.1 at_ d.2.1.length with
 |some j=>(d.2.1.getD j (0,[],())).2.1
 |none=>d.1.getD at_.toNat []
theorem Xki {d:Xk} (h:d.2.1.length≤200) {at_:Int} (h0:0≤at_) (h1:at_<(d.1.length:Int)):Yl3 d at_=some (Xr d at_):=by
 simp only[Yl3,Xr]
 rw[show decide (d.2.1.length≤2147483648)=true by simp;omega,Yw4]
 cases Yfg d.2.1 at_ d.2.1.length with
 |some j=>rfl
 |none=>simp only[inB,decide_eq_true h0,decide_eq_true h1,Bool.and_self,Yw4]
theorem Xlk {d:Xk} (h:d.2.1.length≤200) {at_:Int} (h0:0≤at_) (h1:at_<(d.1.length:Int)):Xel d at_=some (Xr d at_):=Xki h h0 h1
theorem Xle {d:Xk} (h:d.2.1.length≤200) (at_:Int):∀ (k:Nat),k≤d.2.1.length→Xc7 d at_ ((k:Int)-1)=some (match Yfg d.2.1 at_ k with | some j=>.inl (d.2.1.getD j (0,[],())).2.1 | none=>.inr ())
 |0,_=>Y5 (by
  show Xc7.B d at_ (((0:Nat):Int)-1)=some (.inr (.inr ()));unfold Xc7.B
  rw[show decide ((((0:Nat):Int)-1)≥0)=false by simp];rfl)
 |k+1,hk=>by
  have e:((k+1:Nat):Int)-1=(k:Int):=by omega
  have hlt:k<d.2.1.length:=by omega
  rw[e]
  have hB:Xc7.B d at_ (k:Int)=cond (d.2.1[k].1 == at_) (some (.inr (.inl d.2.1[k].2.1))) (some (.inl ((k:Int)-1))):=by
   simp only[Xc7.B,Yxb hlt,toNat_cast,getD_lt _ hlt,Yw4,show decide ((k:Int)≥0)=true by simp,Xkg (by omega : -9223372036854775808≤(k:Int)-1) (by omega)]
  have eg:d.2.1.getD k (0,[],())=d.2.1[k]:=getD_lt _ hlt
  by_cases hc:d.2.1[k].1=at_
  ·rw[show Xc7 d at_ (k:Int)=some (.inl d.2.1[k].2.1) from Y5 (by
    show Xc7.B d at_ (k:Int)=_
    rw[hB,show(d.2.1[k].1 == at_)=true by simpa using hc,Yw4])]
   simp only[Yfg,eg,if_pos hc]
  ·rw[show Xc7 d at_ (k:Int)=Xc7 d at_ ((k:Int)-1) from Yaq (by
    show Xc7.B d at_ (k:Int)=_
    rw[hB,show(d.2.1[k].1 == at_)=false by simpa using hc,Ywx]),Xle h at_ k (by omega)]
   simp only[Yfg,eg,if_neg hc]
theorem Xlg {d:Xk} (h:d.2.1.length≤200) {at_:Int} (h0:0≤at_) (h1:at_<(d.1.length:Int)):Xh4 d at_=some (Xr d at_):=by
 simp only[Xh4,Xr]
 rw[Xkg (by omega : -9223372036854775808≤(d.2.1.length:Int)-1) (by omega),Xle h at_ _ (Nat.le_refl _)]
 cases Yfg d.2.1 at_ d.2.1.length with
 |some j=>rfl
 |none=>simp only[Option.bind_some,sel,inB,decide_eq_true h0,decide_eq_true h1,Bool.and_self,Yw4]
def Xae (d:Xk):Int×Int:=cond (Xbk d != 0) (0,Xbk d) (cond ((d.1.length:Int) != 47) (0,1) (cond (cond (((Xr d 0).length:Int) != 2) true ((Xr d 0).getD 0 0 != 7)) (0,5) (cond (!inR ((Xr d 0).getD 1 0) 1 60000) (0,5) ((Xr d 0).getD 1 0,0))))
theorem Xk3 (d:Xk):Xch d=some (Xae d):=by
 simp only[Xch,Xae,Xn8,Option.bind_some]
 cases h:(Xbk d != 0) with
 |true=>rfl
 |false=>
  have hok:=Xbs.of (by simpa using h)
  simp only[Ywx]
  cases h1:((d.1.length:Int) != 47) with
  |true=>rfl
  |false=>
   have h47:(d.1.length:Int)=47:=by simpa using h1
   simp only[Ywx,Xlk hok.l2 (Int.le_refl 0) (by omega),Option.bind_some]
   cases h2:(((Xr d 0).length:Int) != 2) with
   |true=>rfl
   |false=>
    have hl2:(Xr d 0).length=2:=by
      have:((Xr d 0).length:Int)=2:=by simpa using h2
      omega
    rw[hl2];simp only[Ywx,Yw4,Bool.not_false,show inB 0 2=true from rfl,show inB 1 2=true from rfl,Xhf,Xid,Option.bind_some,Int.toNat_zero,show(1:Int).toNat=1 from rfl]
    cases ((Xr d 0).getD 0 0 != 7) with
    |true=>rfl
    |false=>cases inR ((Xr d 0).getD 1 0) 1 60000<;>rfl
theorem Xoo (d:Xk):Xjb d=some ((Xae d).2,(Xae d).1,()):=by
 simp only[Xjb,Xae,Xnl,Option.bind_some]
 cases h:(Xbk d != 0) with
 |true=>rfl
 |false=>
  have hok:=Xbs.of (by simpa using h)
  simp only[Ywx]
  cases h1:((d.1.length:Int) != 47) with
  |true=>rfl
  |false=>
   have h47:(d.1.length:Int)=47:=by simpa using h1
   simp only[Ywx,Xlg hok.l2 (Int.le_refl 0) (by omega),Option.bind_some]
   cases h2:(((Xr d 0).length:Int) != 2) with
   |true=>rfl
   |false=>
    have hl2:(Xr d 0).length=2:=by
      have:((Xr d 0).length:Int)=2:=by simpa using h2
      omega
    rw[hl2];simp only[Ywx,Yw4,Bool.not_false,show inB 0 2=true from rfl,show inB 1 2=true from rfl,Xjt,Xig,Option.bind_some,Int.toNat_zero,show(1:Int).toNat=1 from rfl]
    cases ((Xr d 0).getD 0 0 != 7) with
    |true=>rfl
    |false=>cases inR ((Xr d 0).getD 1 0) 1 60000<;>rfl
theorem Xj7:∀ (a b:List Int) (c:List Int) (i:Nat),c.drop i=b→a.length=b.length→
  Yba (τ:=Unit) (fun i x _=>cond (x != c.getD i 0) (.inr (.inl false)) (.inl ())) (fun _=>(.inr ():Bool⊕Unit)) i a ()=cond (a == b) (.inr ()) (.inl false)
 |[],[],c,i,h,hl=>rfl
 |x::a,y::b,c,i,h,hl=>by
  have hc:c.getD i 0=y:=by
   have:(c.drop i)[0]? = some y:=by rw[h];rfl
   rw[List.getElem?_drop] at this;simp only[Nat.add_zero] at this;simp[List.getD,this]
  have hd:c.drop (i+1)=b:=by
   have:(c.drop i).drop 1=b:=by rw[h];rfl
   rwa [List.drop_drop] at this
  simp only[Yba,hc]
  cases he:(x != y) with
  |true=>
   have:(x::a == y::b)=false:=by
    have hne:x≠y:=by simpa using he
    simp[hne]
   rw[this];rfl
  |false=>
   have hxy:x=y:=by simpa using he
   subst hxy
   have ih:=Xj7 a b c (i+1) hd (by simpa using hl)
   simp only[Ywx,sel];rw[ih]
   have:(x::a == x::b)=(a == b):=by simp
   rw[this]
theorem Xkb {f:Int→Option (Int⊕(Bool⊕Unit))} (a b:List Int) (hl:a.length=b.length)
  (hs:∀ (i:Nat) (h:i<a.length),f (i:Int)=cond (a[i] != b.getD i 0) (some (.inr (.inl false))) (some (.inl ((i+1:Nat):Int)))) (he:f (a.length:Int)=some (.inr (.inr ()))) :
  Y9 f 0=some (cond (a == b) (.inr ()) (.inl false)):=by
 rw[Yfj (τ:=Unit) a (fun i _=>(i:Int)) (fun i x _=>cond (x != b.getD i 0) (.inr (.inl false)) (.inl ())) (fun _=>(.inr ():Bool⊕Unit)) (fun i hi t=>by rw[hs i hi];cases (a[i] != b.getD i 0)<;>rfl) (fun t=>he) () (s:=0) rfl,Xj7 a b b 0 rfl hl]
theorem Xky {a b:List Int} (h:a.length≠b.length):(a == b)=false:=by
 have:a≠b:=fun e=>h (by rw[e])
 simpa using this
theorem Xob (a b:List Int) (hl:a.length≤2147483648):Xjf a b=some (a == b):=by
 simp only[Xjf]
 by_cases h:a.length=b.length
 ·rw[show((a.length:Int) != (b.length:Int))=false by simp[h],Ywx]
  have:=Xkb (f:=fun s=>Xgq.B a b s) a b h (fun i hi=>by
   simp only[Xgq.B,Yxm hi,Yxb hi,Yxb (show i<b.length by omega),Yw4,toNat_cast,getD_lt _ hi,Yvo (by omega:i<4294967296)]) (by
   simp only[Xgq.B,Yxe (Nat.le_refl _),Ywx])
  rw[show Xgq a b 0=_ from this]
  cases (a == b)<;>rfl
 ·rw[show((a.length:Int) != (b.length:Int))=true by simp;omega,Yw4,Xky h]
theorem Xms (a b:List Int) (hl:a.length≤2147483648):Xfm a b=some (a == b):=by
 simp only[Xfm]
 by_cases h:a.length=b.length
 ·rw[show((a.length:Int) != (b.length:Int))=false by simp[h],Ywx]
  have:=Xkb (f:=fun s=>Xct.B a b (a.length:Int) s) a b h (fun i hi=>by
   simp only[Xct.B,Yxm hi,Yxb hi,Yxb (show i<b.length by omega),Yw4,toNat_cast,getD_lt _ hi,Yvo (by omega:i<4294967296)]) (by
   simp only[Xct.B,Yxe (Nat.le_refl _),Ywx])
  rw[show Xct a b (a.length:Int) 0=_ from this]
  cases (a == b)<;>rfl
 ·rw[show((a.length:Int) != (b.length:Int))=true by simp;omega,Yw4,Xky h]
theorem Xkz (a b:List Int):(a == b)=(b == a):=by
 by_cases h:a=b
 ·subst h;rfl
 ·have h':b≠a:=fun e=>h e.symm
  rw[beq_eq_false_iff_ne.2 h,beq_eq_false_iff_ne.2 h']
def chg (d:Xk) (p:Xg):Bool:=!(p.2.1 == Xr d p.1)
def Xw (d:Xk) (list:List Xg):List Xg:=list.filter (chg d)
theorem Xd0 {α:Type} (k:α→Bool):∀ (l:List α) (t:List α),l.foldl (fun t x=>cond (k x) (t++[x]) t) t=t++l.filter k
 |[],t=>by simp
 |x::l,t=>by
  rw[List.foldl_cons,Xd0 k l,List.filter_cons]
  cases k x<;>simp
theorem Xjx {d:Xk} (hok:Xbs d) (at_:Int):(Xr d at_).length≤64:=by
 unfold Xr
 cases h:Yfg d.2.1 at_ d.2.1.length with
 |some j=>
  have hj:j<d.2.1.length:=by
   have:∀ (ps:List (Int×List Int×Unit)) (k j:Nat),Yfg ps at_ k=some j→j<k:=by
    intro ps k
    induction k with
    |zero=>intro j h;cases h
    |succ k ih=>
     intro j h;unfold Yfg at h
     split at h
     ·cases h;omega
     ·have:=ih j h;omega
   exact this _ _ _ h
  show(d.2.1.getD j (0,[],())).2.1.length≤64;rw[show d.2.1.getD j (0,[],())=d.2.1[j] from getD_lt _ hj]
  exact(hok.w2 _ (List.getElem_mem hj)).2.1
 |none=>
  show(d.1.getD at_.toNat []).length≤64;rw[List.getD_eq_getElem?_getD]
  cases h2:d.1[at_.toNat]? with
  |none=>simp
  |some w=>exact(hok.w1 w (List.mem_of_getElem? h2)).1
theorem Xlc {d:Xk} (hok:Xbs d) {list:List Xg} (hl:list.length≤60) (hp:∀ p∈list,0≤p.1∧p.1<(d.1.length:Int)) (hw:∀ p∈list,p.2.1.length≤2147483648) :
  Xfe d list=some (Xw d list):=by
 have h:Xgt d list (0,[])=some (list.foldl (fun t x=>cond (chg d x) (t++[x]) t) []):=Yib list (f:=fun s=>Xgt.B d list s.1 s.2) _ (fun t=>t) (fun i t=>t.length≤i) (fun i hi t ht=>by
   have hm:=List.getElem_mem hi;obtain⟨p0,p1⟩:=hp _ hm;have hw:=hw _ hm
   constructor
   ·simp only[Xgt.B,Yxm hi,Yxb hi,Yw4,toNat_cast,getD_lt _ hi,Xlg hok.l2 p0 p1,Option.bind_some,Xob _ _ (Nat.le_trans (Xjx hok _) (by omega)),Xeb,List.nil_append,decide_eq_true hw,Yvo (by omega:i<4294967296),chg,Xkz (Xr d list[i].1)]
    cases (list[i].2.1 == Xr d list[i].1) with
    |true=>rfl
    |false=>
     simp only[Bool.not_false,Yw4]
     rw[show decide ((t++[list[i]]).length≤2147483648)=true by simp;omega,Yw4]
   ·cases chg d list[i]
    ·exact Nat.le_succ_of_le ht
    ·simp;omega) (fun t ht=>by
   simp only[Xgt.B,Yxe (Nat.le_refl _),Ywx]) [] (Nat.le_refl _)
 simp only[Xfe,h,Option.bind_some,Xd0,List.nil_append,Xw]
theorem Xli {d:Xk} (hok:Xbs d) {list:List Xg} (hl:list.length≤60) (hp:∀ p∈list,0≤p.1∧p.1<(d.1.length:Int)) (hw:∀ p∈list,p.2.1.length≤2147483648) :
  Xbg d list=some (Xw d list):=by
 have h:Xci d list (list.length:Int) (0,[])=some (list.foldl (fun t x=>cond (chg d x) (t++[x]) t) []):=Yib list (f:=fun s=>Xci.B d list (list.length:Int) s.1 s.2) _ (fun t=>t) (fun i t=>t.length≤i) (fun i hi t ht=>by
   have hm:=List.getElem_mem hi;obtain⟨p0,p1⟩:=hp _ hm;have hw:=hw _ hm
   constructor
   ·simp only[Xci.B,Yxm hi,Yxb hi,Yw4,toNat_cast,getD_lt _ hi,Xlk hok.l2 p0 p1,Option.bind_some,Xms _ _ hw,Yvo (by omega:i<4294967296),chg]
    cases (list[i].2.1 == Xr d list[i].1) with
    |true=>rfl
    |false=>
     simp only[Bool.not_false,Yw4]
     rw[show decide ((t++[list[i]]).length≤2147483648)=true by simp;omega,Yw4]
   ·cases chg d list[i]
    ·exact Nat.le_succ_of_le ht
    ·simp;omega) (fun t ht=>by
   simp only[Xci.B,Yxe (Nat.le_refl _),Ywx]) [] (Nat.le_refl _)
 simp only[Xbg,h,Option.bind_some,Xd0,List.nil_append,Xw]
theorem Xkc {d:Xk} (h:(Xae d).2=0):Xbs d∧(d.1.length:Int)=47:=by
 unfold Xae at h
 cases h1:(Xbk d != 0) with
 |true=>
  rw[h1,Yw4] at h;have h':Xbk d=0:=h
  rw[h'] at h1;cases h1
 |false=>
  rw[h1,Ywx] at h
  refine⟨Xbs.of (by simpa using h1),?_⟩
  cases h2:((d.1.length:Int) != 47) with
  |true=>rw[h2] at h;cases h
  |false=>simpa using h2
theorem Xfo {l:List Xg} (h:l.length≤1048576) (hw:∀ p∈l,p.2.1.length≤2147483648):Ygy l=some (l.map toStep):=by
 have:(decide (l.length≤1048576)&&l.all (fun x=>decide (x.2.1.length≤2147483648)))=true:=by
  simp only[Bool.and_eq_true,decide_eq_true_eq,List.all_eq_true];exact⟨h,hw⟩
 simp only[Ygy,this,Yw4]
theorem Xlj {l:List Xg} (h:l.length≤1048576) (hw:∀ p∈l,p.2.1.length≤2147483648):Xbl l=some (l.map toStep):=by
 have hh:Xf8 l (0,[])=some ([]++l.map toStep):=by
  rw[←foldl_map]
  exact Yib l (f:=fun s=>Xf8.B l s.1 s.2) (fun t x=>t++[toStep x]) (fun t=>t) (fun i t=>t.length≤i) (fun i hi t ht=>by
   have hw:=hw _ (List.getElem_mem hi)
   constructor
   ·simp only[Xf8.B,Yxm hi,Yxb hi,Yw4,toNat_cast,getD_lt _ hi,Option.bind_some,Xeb,List.nil_append,decide_eq_true hw,Yvo (by omega:i<4294967296),toStep]
    rw[show decide ((t++[((false,l[i].1,l[i].2.1,()):Xl)]).length≤2147483648)=true by simp;omega,Yw4]
   ·simp;omega) (fun t ht=>by
   simp only[Xf8.B,Yxe (Nat.le_refl _),Ywx]) [] (Nat.le_refl _)
 simp only[Xbl,hh,Option.bind_some,List.nil_append]
theorem Xjr {d:Xk} (h:(Xae d).2=0):1≤(Xae d).1∧(Xae d).1≤60000:=by
 unfold Xae at h ⊢
 cases h1:(Xbk d != 0) with
 |true=>rw[h1,Yw4] at h;have h':Xbk d=0:=h;rw[h'] at h1;cases h1
 |false=>
  rw[h1,Ywx] at h
  cases h2:((d.1.length:Int) != 47) with
  |true=>rw[h2] at h;cases h
  |false=>
   rw[h2,Ywx] at h
   cases h3:(cond (((Xr d 0).length:Int) != 2) true ((Xr d 0).getD 0 0 != 7)) with
   |true=>rw[h3] at h;cases h
   |false=>
    rw[h3,Ywx] at h
    cases h4:inR ((Xr d 0).getD 1 0) 1 60000 with
    |false=>rw[h4] at h;cases h
    |true=>exact Xc4.1 h4
theorem Xku {l:List Xl} {n B:Nat} (hl:l.length≤n) (h:∀ p∈l,p.2.2.1.length≤B):wt (.sl Xp) l≤n*(B+3)+1:=by
 have:=Ysy (wt Xp) (B+3) (xs:=l) (fun p hp=>by
  have:=h p hp;have e:(p.2.2.1.map (wt (.int .i64))).sum=p.2.2.1.length:=Xj6 .i64 _;simp only[Yo6,Yug,Yw0,Ywr];rw[e];simp only[Yw6]
  omega)
 rw[Yug];have h2:l.length*(B+3)≤n*(B+3):=Nat.mul_le_mul_right _ hl;omega
def Xkm (l:List Xg) (k:Nat):Xl:=(false,(2:Int)+(k:Int),(l.getD k Xq).2.1,())
def Xji (l:List Xg):List Xl:=(List.range l.length).map (Xkm l)
theorem Xjw {β:Type} (l:List Xg) (g:Xg→β):(List.range l.length).map (fun k=>g (l.getD k Xq))=l.map g:=by
 apply List.ext_getElem (by simp)
 intro i h1 h2
 have hi:i<l.length:=by simpa using h2
 simp only[List.getElem_map,List.getElem_range,getD_lt _ hi]
theorem Xir {α β γ:Type} (g:α→β) (h:α→γ):∀ (l:List α) (t:List β×List γ),l.foldl (fun t x=>(t.1++[g x],t.2++[h x])) t=(t.1++l.map g,t.2++l.map h)
 |[],t=>by simp
 |x::l,t=>by simp[Xir g h l]
theorem Xoh (seq n:Int) {ips:List Xg} (out:List Xl) (hl:ips.length≤60) (t:List Int) (ht:t.length=3):Xcb seq n ips out (0,t)=some (t++ips.map fun p=>p.1):=
 Yvg ips (f:=fun s=>Xcb.B seq n ips out s.1 s.2) (fun p=>p.1) (fun t=>t) 3 (fun i hi t ht=>by
  simp only[Xcb.B,Yxm hi,Yxb hi,Yw4,toNat_cast,getD_lt _ hi,Yvo (by omega:i<4294967296)]
  rw[Xaa (by simp;omega)];rfl) (fun t ht=>by
  simp only[Xcb.B,Yxe (Nat.le_refl _),Ywx]) t ht
theorem Xnu (seq n:Int) {ips:List Xg} (hl:ips.length≤60) (hw:∀ p∈ips,p.2.1.length≤64) (t:List Xl) (ht:t.length≤100):Xb7 seq n ips (0,t)=some (t++Xji ips):=
 Yvg (List.range ips.length) (f:=fun s=>Xb7.B seq n ips s.1 s.2) (Xkm ips) (fun t=>t) t.length (fun i hi u hu=>by
  have hi':i<ips.length:=by simpa using hi
  have h64:=hw _ (List.getElem_mem hi');rw[List.getElem_range]
  simp only[Xb7.B,Yxm hi',Yxb hi',Yw4,toNat_cast,getD_lt _ hi',Xeb,List.nil_append,decide_eq_true (by omega:ips[i].2.1.length≤2147483648),Option.bind_some,Yq5 (x:=2+(i:Int)) (by omega) (by omega),Yvo (by omega:i<4294967296),Xkm]
  rw[Xaa (by simp;omega)];rfl) (fun u hu=>by
  rw[List.length_range]
  simp only[Xb7.B,Yxe (Nat.le_refl _),Ywx]) t rfl
theorem Xoc (d:Xk) (f:Fs_) (seq:Int) {ips:List Xg} (a:Bool) (b:Int) (c:Unit) (hl:ips.length≤60) (hw:∀ p∈ips,p.2.1.length≤64) (t:List Int) (ht:t.length=3) :
  Xbp d f seq (ips.length:Int) ips a b c (0,t,[])=some (t++ips.map fun p=>p.1,Xji ips):=by
 have h:=Yib (List.range ips.length) (f:=fun s=>Xbp.B d f seq (ips.length:Int) ips a b c s.1 s.2.1 s.2.2) (fun(t:List Int×List Xl) k=>(t.1++[(ips.getD k Xq).1],t.2++[Xkm ips k])) (fun t=>t) (fun i t=>t.1.length=3+i∧t.2.length=i) (fun i hi u hu=>by
  have hi':i<ips.length:=by simpa using hi
  have h64:=hw _ (List.getElem_mem hi');obtain⟨u1,u2⟩:=hu;rw[List.getElem_range]
  refine⟨?_,by simp;omega⟩
  simp only[Xbp.B,Yxm hi',Yxb hi',Yw4,toNat_cast,getD_lt _ hi',Xdh,Ymd,decide_eq_true (by omega:ips[i].2.1.length≤2147483648),Option.bind_some,Yq5 (x:=2+(i:Int)) (by omega) (by omega),Yvo (by omega:i<4294967296),Xkm]
  rw[Xaa (by simp;omega),Yw4,Xaa (by simp;omega)];rfl) (fun u hu=>by
  rw[List.length_range]
  simp only[Xbp.B,Yxe (Nat.le_refl _),Ywx]) (t,[]) ⟨by simp[ht],rfl⟩
 have e:Xbp d f seq (ips.length:Int) ips a b c (0,t,[])=_:=h;rw[e,Xir,List.nil_append,Xjw ips fun p=>p.1];rfl
def Xjj (seq:Int) (ips dps:List Xg):List Xl:=
 dps.map toStep++([(true,0,[],()),(false,1,[1,seq,(ips.length:Int)]++ips.map fun p=>p.1,())]++(Xji ips++([(true,0,[],()),(false,(2:Int)+(ips.length:Int),[2,seq,(ips.length:Int)],()),(true,0,[],())]++(ips.map toStep++[(true,0,[],()),(false,0,[7,seq+1],()),(true,0,[],())]))))
def Xhp (d:Xk) (f:Fs_) (seq:Int):List Xl:=cond (((Xw d (Xu f.1)).length:Int) == 0) [] (Xjj seq (Xw d (Xu f.1)) (Xw d (X4 f)))
structure Xjk (n:Nat) (B:Nat) (l:List Xg):Prop where
 len:l.length≤n
 wrd:∀ p∈l,p.2.1.length≤B
 plc:∀ p∈l,0≤p.1∧p.1<47
theorem Xjk.changed {n B:Nat} {l:List Xg} (h:Xjk n B l) (d:Xk):Xjk n B (Xw d l) where
 len:=Nat.le_trans (List.length_filter_le _ _) h.len
 wrd p hp:=h.wrd p (List.mem_filter.1 hp).1
 plc p hp:=h.plc p (List.mem_filter.1 hp).1
theorem Xhn {l:List Xa} (h:Xt l=0):Xjk 10 44 (Xu l) where
 len:=by simp[Xu]
 wrd:=Xgk h
 plc p hp:=by
  obtain⟨i,hi,rfl⟩:=List.mem_map.1 hp;have:=List.mem_range.1 hi;simp only;omega
theorem Xil {f:Fs_} (ht:X0 f):Xjk 20 8 (X4 f) where
 len:=by simp only[X4,List.length_map];exact Xgm f.1
 wrd p hp:=by
  obtain⟨b,hb,rfl⟩:=List.mem_map.1 hp;have h1:=Xd7 hb;have hd:=ht.dat;simp only[Xbh]
  rw[getD_lt _ (by omega:b.toNat<f.2.1.length)]
  exact ht.dl _ (List.getElem_mem _)
 plc p hp:=by
  obtain⟨b,hb,rfl⟩:=List.mem_map.1 hp;have h1:=Xd7 hb;simp only[Xbh];omega
theorem Xkn {d:Xk} {f:Fs_} (ht:X0 f) (seq:Int):(Xhp d f seq).length≤58∧∀ p∈Xhp d f seq,p.2.2.1.length≤64:=by
 have hi:=(Xhn ht.inod).changed d;have hp:=(Xil ht).changed d;unfold Xhp;generalize Xw d (Xu f.1)=ips at hi ⊢;generalize Xw d (X4 f)=dps at hp ⊢;have l1:=hi.len;have l2:=hp.len
 cases ((ips.length:Int) == 0) with
 |true=>exact⟨Nat.zero_le _,fun p h=>by cases h⟩
 |false=>
  refine⟨by simp[Xjj,Xji];omega,fun p hp'=>?_⟩
  simp only[Ywx,Xjj,List.mem_append,List.mem_map,List.mem_cons,List.not_mem_nil,or_false] at hp';rcases hp' with ⟨q,hq,rfl⟩ | (rfl | rfl) | hin | (rfl | rfl | rfl) | ⟨q,hq,rfl⟩ | (rfl | rfl | rfl)
  ·have:=hp.wrd q hq
   simp only[toStep];omega
  ·simp
  ·simp;omega
  ·obtain⟨k,hk,rfl⟩:=List.mem_map.1 hin
   have hk:=List.mem_range.1 hk;have:=hi.wrd _ (List.getElem_mem hk);simp only[Xkm,getD_lt _ hk];omega
  ·simp
  ·simp
  ·simp
  ·have:=hi.wrd q hq
   simp only[toStep];omega
  ·simp
  ·simp
  ·simp
theorem Xiq {d:Xk} {f:Fs_} (hok:Xbs d) (h47:(d.1.length:Int)=47) (ht:X0 f) (hby:Xeu f) {seq:Int} (hs:1≤seq∧seq≤60000) :
  Xaw d f seq=some (Xhp d f seq)∧((Xch d)=some (seq,0)→seq≠60000→Xa1 d f=some (Xhp d f seq,0)):=by
 have hi0:=Xhn ht.inod;have hp0:=Xil ht;have hi:=hi0.changed d;have hp:=hp0.changed d
 have e1:=Xlc hok (Nat.le_trans hi0.len (by omega)) (fun p h=>by have:=hi0.plc p h;omega) (fun p h=>Nat.le_trans (hi0.wrd p h) (by omega))
 have e2:=Xli hok (Nat.le_trans hi0.len (by omega)) (fun p h=>by have:=hi0.plc p h;omega) (fun p h=>Nat.le_trans (hi0.wrd p h) (by omega))
 have e3:=Xlc hok (Nat.le_trans hp0.len (by omega)) (fun p h=>by have:=hp0.plc p h;omega) (fun p h=>Nat.le_trans (hp0.wrd p h) (by omega))
 have e4:=Xli hok (Nat.le_trans hp0.len (by omega)) (fun p h=>by have:=hp0.plc p h;omega) (fun p h=>Nat.le_trans (hp0.wrd p h) (by omega))
 unfold Xhp;refine⟨?_,fun hq hne=>?_⟩
 ·simp only[Xaw,Xoj f ht.inod,Option.bind_some,e1,Xnn f ht hby,e3]
  generalize Xw d (Xu f.1)=ips at hi ⊢;generalize Xw d (X4 f)=dps at hp ⊢;have l1:=hi.len;have l2:=hp.len
  cases ((ips.length:Int) == 0) with
  |true=>rfl
  |false=>
   simp only[Ywx,Xlj (l:=dps) (by omega) (fun p h=>Nat.le_trans (hp.wrd p h) (by omega)),Xlj (l:=ips) (by omega) (fun p h=>Nat.le_trans (hi.wrd p h) (by omega)),Option.bind_some]
   rw[Xaa (by simp;omega)]
   simp only[Yw4,Xoh seq _ _ (by omega:ips.length≤60) [1,seq,(ips.length:Int)] rfl,Option.bind_some]
   rw[Xaa (by simp;omega)]
   simp only[Yw4]
   rw[Xnu seq _ (by omega:ips.length≤60) (fun p h=>Nat.le_trans (hi.wrd p h) (by omega)) _ (by simp;omega)]
   simp only[Option.bind_some,Yq5 (x:=2+(ips.length:Int)) (by omega) (by omega)]
   rw[Xaa (by simp[Xji];omega)]
   simp only[Yw4]
   rw[Xaa (by simp[Xji];omega)]
   simp only[Yw4,Xg7,Xkg (by omega : -9223372036854775808≤seq+1) (by omega),Option.bind_some]
   rw[Xaa (by simp[Xji];omega)]
   simp only[Yw4,Xjj,List.append_assoc,List.cons_append,List.nil_append]
 ·simp only[Xa1,hq,Xm7 f ht.inod,Option.bind_some,e2,Xm8 f ht hby,e4,beq_eq_false_iff_ne.2 hne,Ywx,Xeg,Xhb]
  generalize Xw d (Xu f.1)=ips at hi ⊢;generalize Xw d (X4 f)=dps at hp ⊢;have l1:=hi.len;have l2:=hp.len
  cases ((ips.length:Int) == 0) with
  |true=>rfl
  |false=>
   simp only[Ywx,Xoc d f seq _ _ _ (by omega:ips.length≤60) (fun p h=>Nat.le_trans (hi.wrd p h) (by omega)) [1,seq,(ips.length:Int)] rfl,Option.bind_some,Xdp,Xfo (l:=dps) (by omega) (fun p h=>Nat.le_trans (hp.wrd p h) (by omega)),Xfo (l:=ips) (by omega) (fun p h=>Nat.le_trans (hi.wrd p h) (by omega)),Yq5 (x:=2+(ips.length:Int)) (by omega) (by omega),Xkg (by omega : -9223372036854775808≤seq+1) (by omega),Xh6,Yhy,List.flatten_cons,List.flatten_nil,List.append_nil]
   rw[show ∀ (l:List (List Xl)) (k:List Xl),l.length≤1048576→k.length≤1048576→(decide (l.length≤1048576)&&decide (k.length≤1048576))=true from fun l k h1 h2=>by simp[h1,h2]]
   ·simp only[Yw4,Option.bind_some,Xjj]
   ·simp
   ·simp[Xji];omega
theorem Xmk (d:Xk) (f:Fs_) (hb:Bd Xn f) (hby:Xeu f):Xdr d f=some (cond ((Xae d).2 != 0) ((Xae d).2,[],()) (cond (fsF f != 0) (fsF f,[],()) (cond ((Xae d).1 == 60000) (8,[],()) (0,Xhp d f (Xae d).1,())))):=by
 simp only[Xdr,Xoo,Xlz f hb,Option.bind_some]
 cases h:((Xae d).2 != 0) with
 |true=>rfl
 |false=>
  have h0:(Xae d).2=0:=by simpa using h
  obtain⟨hok,h47⟩:=Xkc h0;have hr:=Xjr h0;simp only[Ywx]
  cases h1:(fsF f != 0) with
  |true=>rfl
  |false=>
   have ht:=(Xj8.of (by simpa using h1:fsF f=0)).tree
   have e60:decide ((Xae d).1≥60000)=((Xae d).1 == 60000):=by
    by_cases e:(Xae d).1=60000
    ·rw[e];rfl
    ·rw[beq_eq_false_iff_ne.2 e];simp;omega
   simp only[Ywx,e60,(Xiq hok h47 ht hby hr).1,Option.bind_some]
   cases ((Xae d).1 == 60000)<;>rfl
theorem Xl4 {d:Xk} {f:Fs_} (h0:(Xae d).2=0) (ht:X0 f) (hby:Xeu f):Xa1 d f=some (cond ((Xae d).1 == 60000) ([],8) (Xhp d f (Xae d).1,0)):=by
 obtain⟨hok,h47⟩:=Xkc h0;have hr:=Xjr h0
 cases h:((Xae d).1 == 60000) with
 |true=>simp only[Xa1,Xk3,Option.bind_some,h,Yw4]
 |false=>
  exact(Xiq hok h47 ht hby hr).2 (by rw[Xk3];exact congrArg some (Prod.ext rfl h0)) (by simpa using h)
theorem PlanSync.main (d:Xk) (f:Fs_) (hf:Fit Xj d) (hf1:Fit Xn f) (hw:wt Xj d≤1048576) (hw1:wt Xn f≤1048576):∃ r,Xdr d f=some r∧Xd6 d f=some r∧wt Xm r≤2147483648:=by
 have hb:Bd Xn f:=Yph rfl (by omega)
 have hby:=Xkk hf1
 have small:∀ c:Int,wt Xm (c,[],())≤2147483648:=fun c=>by simp only[Yug,Yo6,Yw6,Ywr];simp
 rw[Xmk d f hb hby];simp only[Xd6,Xk3,Xma f hb,Option.bind_some]
 cases h:((Xae d).2 != 0) with
 |true=>exact⟨_,rfl,rfl,small _⟩
 |false=>
  simp only[Ywx]
  cases h1:(fsF f != 0) with
  |true=>exact⟨_,rfl,rfl,small _⟩
  |false=>
   have ht:=(Xj8.of (by simpa using h1:fsF f=0)).tree
   simp only[Ywx,Xl4 (by simpa using h) ht hby,Option.bind_some]
   cases ((Xae d).1 == 60000) with
   |true=>exact⟨_,rfl,rfl,small _⟩
   |false=>
    obtain⟨c1,c2⟩:=Xkn (d:=d) ht (Xae d).1;refine⟨_,rfl,rfl,?_⟩;have:=Xku c1 c2;simp only[Ywx,Yug,Yo6,Yw6,Ywr] at this ⊢;omega
theorem PlanSync.law (x:PT.Els (shs [Xj,Xn])) (hf:Yop [Xj,Xn] x) (hw:Ypb [Xj,Xn] x≤1048576):Xhc x.1 x.2.1=some true:=by
 simp only[Ypb] at hw;have hf0:Fit Xj x.1:=hf.1;have hf1:Fit Xn x.2.1:=hf.2.1
 have hw0:wt Xj x.1≤1048576:=by omega
 have hw1:wt Xn x.2.1≤1048576:=by omega
 clear hw hf;generalize x.2.1=a1 at hf1 hw1 ⊢;generalize x.1=a0 at hf0 hw0 ⊢;obtain⟨r,hr1,hr2,hr3⟩:=PlanSync.main a0 a1 hf0 hf1 hw0 hw1;obtain⟨r_0,r_1,⟨⟩⟩:=r;replace hr3:wt Xm (r_0,r_1,())≤2147483648:=hr3;replace hr1:Xdr a0 a1=some (r_0,r_1,()):=hr1;replace hr2:Xd6 a0 a1=some (r_0,r_1,()):=hr2;have er:=Xnm (r_0,r_1,()) hr3
 obtain⟨kr,y0,l1,l2,hm,hh⟩:=Xom r_0 r_1 1 (by omega) (by omega) hr3
 have to0:=Xon a0 (by omega)
 have eq0:=Xm4 a0 (by omega)
 have to1:=Xn6 a1 (by omega)
 have eq1:=Xl8 a1 (by omega)
 obtain⟨k0,z0_0,z0_1,l0,u0,m0⟩:=Xmu a0.1 a0.2.1 1 (by omega) (by show _+((wt Xj a0:Nat):Int)≤_;omega) (by show wt Xj a0≤_;omega)
 have u0:k0≤1+((wt Xj a0:Nat):Int):=u0
 try simp only[Yxr] at m0
 obtain⟨k1,z1_0,z1_1,l1,u1,m1⟩:=Xlx a1.1 a1.2.1 k0 (by omega) (by show _+((wt Xn a1:Nat):Int)≤_;omega) (by show wt Xn a1≤_;omega)
 have u1:k1≤k0+((wt Xn a1:Nat):Int):=u1
 try simp only[Yxr] at m1
 have hsz:∀ g:Option Bool,g=some true→∀ b:Bool,cond b (some true) g=some true:=fun g h b=>by cases b<;>first | rfl | exact h
 simp only[Xhc]
 repeat' (first | with_reducible refine hsz _ ?_ _ | (rw[Option.bind_some]) | (obtain⟨q,hq⟩:=Xmc a0 _ (by omega);rw[hq,Option.bind_some];clear hq) | (obtain⟨q,hq⟩:=Xnq a1 _ (by omega);rw[hq,Option.bind_some];clear hq))
 simp only[er,hm,hh,to0,eq0,to1,eq1,m0,m1,hr1,hr2,Yxr,Option.bind_some,Bool.not_true,Ywx,Yw4,Yvn,Yvk,Yvi,Ywq (by omega:0≤kr),Ywq (by omega:0≤k1)]
end Mf
