import Derived.Test.YthaonimonnheeaaGreatCrashSyncA
noncomputable section
namespace Mf
open Go
set_option linter.unusedVariables false
set_option linter.unusedSimpArgs false
set_option maxRecDepth 100000
theorem wA:(∀ (e:Ty) (x:List e.El),wt (.sl e) x=(x.map (wt e)).sum+1)∧(∀ (a b:Ty) (x:a.El×b.El),wt (.pair a b) x=wt a x.1+wt b x.2)∧(∀ (k:IntKind) (x:Int),wt (.int k) x=1)∧(∀ x:Bool,wt .bool x=1)∧(∀ x:List UInt8,wt .str x=x.length+1)∧∀ x:Unit,wt .unit x=0:=⟨fun _ _=>rfl,fun _ _ _=>rfl,fun _ _=>rfl,fun _=>rfl,fun _=>rfl,fun _=>rfl⟩
theorem Xpw (a:(List Int)) (n:Int) (hw:wt (.sl (.int .i64)) a≤2147483648):∃ r,Zq0 a n=some r:=by
 simp only[Zq0]
 repeat' (first | with_reducible exact Ywn _ | with_reducible refine Yww (Ywn _) fun _=>?_ | with_reducible apply Yw3)
theorem Xsq (a:(List (List Int))) (n:Int) (hw:wt (.sl (.sl (.int .i64))) a≤2147483648):∃ r,Zq2 a n=some r:=by
 have hw2:=hw;simp only[wA] at hw2
 have hl:a.length≤2147483648:=by have:=Yli (wt (.sl (.int .i64))) (fun x=>by simp only[wA];omega) a;omega
 have lp:∀ k,∃ r,Zq1 a (k,0)=some r:=fun k=>by
  refine Ys9 (f:=fun s=>Zq1.B a s.1 s.2) (fun(i:Nat) (k:Int)=>(k,(i:Int))) a.length (fun i k hi=>?_) (fun k=>?_) a.length 0 k (by omega)
  ·have hm:=Ys6 (wt (.sl (.int .i64))) a i hi
   have hb:inB (i:Int) a.length=true:=Yu7 (by omega) (by omega)
   simp only[Zq1.B,Yxm hi,hb,Yw4,toNat_cast,getD_lt _ hi,Yvo (by omega:i<4294967296)]
   repeat' (first | with_reducible exact Yxa _ | (with_reducible refine .inl ⟨_,rfl,?_⟩;exact⟨_,rfl⟩) | with_reducible refine Yvt (Xpw _ _ (by first | omega | (simp only[wA] at hm ⊢;omega))) fun _=>?_ | with_reducible refine Yvt (Ywn _) fun _=>?_ | with_reducible apply Yv2)
  ·refine⟨.inr k,?_⟩;simp only[Zq1.B,Yxe (Nat.le_refl _),Ywx]
 simp only[Zq2]
 repeat' (first | with_reducible exact Ywn _ | with_reducible refine Yww (lp _) fun o=>?_ | with_reducible refine Yww (Ywn _) fun _=>?_ | with_reducible apply Yw3 | (cases o<;>exact⟨_,rfl⟩))
theorem Xtb (a:Xj) (n:Int) (hw:wt Xl a≤2147483648):∃ r,Zq3 a n=some r:=by
 simp only[Zq3]
 repeat' (first | with_reducible exact Ywn _ | with_reducible refine Yww (Xpw _ _ (by first | omega | (simp only[wA] at hw ⊢;omega))) fun _=>?_ | with_reducible refine Yww (Ywn _) fun _=>?_ | with_reducible apply Yw3)
theorem Xrr (a:(List Xj)) (n:Int) (hw:wt (.sl Xl) a≤2147483648):∃ r,Zq5 a n=some r:=by
 have hw2:=hw;simp only[wA] at hw2
 have hl:a.length≤2147483648:=by have:=Yli (wt Xl) (fun x=>by simp only[wA];omega) a;omega
 have lp:∀ k,∃ r,Zq4 a (k,0)=some r:=fun k=>by
  refine Ys9 (f:=fun s=>Zq4.B a s.1 s.2) (fun(i:Nat) (k:Int)=>(k,(i:Int))) a.length (fun i k hi=>?_) (fun k=>?_) a.length 0 k (by omega)
  ·have hm:=Ys6 (wt Xl) a i hi
   have hb:inB (i:Int) a.length=true:=Yu7 (by omega) (by omega)
   simp only[Zq4.B,Yxm hi,hb,Yw4,toNat_cast,getD_lt _ hi,Yvo (by omega:i<4294967296)]
   repeat' (first | with_reducible exact Yxa _ | (with_reducible refine .inl ⟨_,rfl,?_⟩;exact⟨_,rfl⟩) | with_reducible refine Yvt (Xtb _ _ (by first | omega | (simp only[wA] at hm ⊢;omega))) fun _=>?_ | with_reducible refine Yvt (Ywn _) fun _=>?_ | with_reducible apply Yv2)
  ·refine⟨.inr k,?_⟩;simp only[Zq4.B,Yxe (Nat.le_refl _),Ywx]
 simp only[Zq5]
 repeat' (first | with_reducible exact Ywn _ | with_reducible refine Yww (lp _) fun o=>?_ | with_reducible refine Yww (Ywn _) fun _=>?_ | with_reducible apply Yw3 | (cases o<;>exact⟨_,rfl⟩))
theorem Xrp (a:Xd) (n:Int) (hw:wt Xh a≤2147483648):∃ r,Zq6 a n=some r:=by
 simp only[Zq6]
 repeat' (first | with_reducible exact Ywn _ | with_reducible refine Yww (Xsq _ _ (by first | omega | (simp only[wA] at hw ⊢;omega))) fun _=>?_ | with_reducible refine Yww (Xrr _ _ (by first | omega | (simp only[wA] at hw ⊢;omega))) fun _=>?_ | with_reducible refine Yww (Ywn _) fun _=>?_ | with_reducible apply Yw3)
theorem Xtw (a:Xg) (n:Int) (hw:wt Xi a≤2147483648):∃ r,Zq7 a n=some r:=by
 simp only[Zq7]
 repeat' (first | with_reducible exact Ywn _ | with_reducible refine Yww (Ywn _) fun _=>?_ | with_reducible apply Yw3)
theorem Xr0 (a:(List Xg)) (n:Int) (hw:wt (.sl Xi) a≤2147483648):∃ r,Zq9 a n=some r:=by
 have hw2:=hw;simp only[wA] at hw2
 have hl:a.length≤2147483648:=by have:=Yli (wt Xi) (fun x=>by simp only[wA];omega) a;omega
 have lp:∀ k,∃ r,Zq8 a (k,0)=some r:=fun k=>by
  refine Ys9 (f:=fun s=>Zq8.B a s.1 s.2) (fun(i:Nat) (k:Int)=>(k,(i:Int))) a.length (fun i k hi=>?_) (fun k=>?_) a.length 0 k (by omega)
  ·have hm:=Ys6 (wt Xi) a i hi
   have hb:inB (i:Int) a.length=true:=Yu7 (by omega) (by omega)
   simp only[Zq8.B,Yxm hi,hb,Yw4,toNat_cast,getD_lt _ hi,Yvo (by omega:i<4294967296)]
   repeat' (first | with_reducible exact Yxa _ | (with_reducible refine .inl ⟨_,rfl,?_⟩;exact⟨_,rfl⟩) | with_reducible refine Yvt (Xtw _ _ (by first | omega | (simp only[wA] at hm ⊢;omega))) fun _=>?_ | with_reducible refine Yvt (Ywn _) fun _=>?_ | with_reducible apply Yv2)
  ·refine⟨.inr k,?_⟩;simp only[Zq8.B,Yxe (Nat.le_refl _),Ywx]
 simp only[Zq9]
 repeat' (first | with_reducible exact Ywn _ | with_reducible refine Yww (lp _) fun o=>?_ | with_reducible refine Yww (Ywn _) fun _=>?_ | with_reducible apply Yw3 | (cases o<;>exact⟨_,rfl⟩))
theorem Xsj (a:Xa) (n:Int) (hw:wt Xb a≤2147483648):∃ r,Xm1 a n=some r:=by
 simp only[Xm1]
 repeat' (first | with_reducible exact Ywn _ | with_reducible refine Yww (Xpw _ _ (by first | omega | (simp only[wA] at hw ⊢;omega))) fun _=>?_ | with_reducible refine Yww (Xr0 _ _ (by first | omega | (simp only[wA] at hw ⊢;omega))) fun _=>?_ | with_reducible refine Yww (Ywn _) fun _=>?_ | with_reducible apply Yw3)
theorem Xsd (a:(List Xa)) (n:Int) (hw:wt (.sl Xb) a≤2147483648):∃ r,Xjn a n=some r:=by
 have hw2:=hw;simp only[wA] at hw2
 have hl:a.length≤2147483648:=by have:=Yli (wt Xb) (fun x=>by simp only[wA];omega) a;omega
 have lp:∀ k,∃ r,Xj9 a (k,0)=some r:=fun k=>by
  refine Ys9 (f:=fun s=>Xj9.B a s.1 s.2) (fun(i:Nat) (k:Int)=>(k,(i:Int))) a.length (fun i k hi=>?_) (fun k=>?_) a.length 0 k (by omega)
  ·have hm:=Ys6 (wt Xb) a i hi
   have hb:inB (i:Int) a.length=true:=Yu7 (by omega) (by omega)
   simp only[Xj9.B,Yxm hi,hb,Yw4,toNat_cast,getD_lt _ hi,Yvo (by omega:i<4294967296)]
   repeat' (first | with_reducible exact Yxa _ | (with_reducible refine .inl ⟨_,rfl,?_⟩;exact⟨_,rfl⟩) | with_reducible refine Yvt (Xsj _ _ (by first | omega | (simp only[wA] at hm ⊢;omega))) fun _=>?_ | with_reducible refine Yvt (Ywn _) fun _=>?_ | with_reducible apply Yv2)
  ·refine⟨.inr k,?_⟩;simp only[Xj9.B,Yxe (Nat.le_refl _),Ywx]
 simp only[Xjn]
 repeat' (first | with_reducible exact Ywn _ | with_reducible refine Yww (lp _) fun o=>?_ | with_reducible refine Yww (Ywn _) fun _=>?_ | with_reducible apply Yw3 | (cases o<;>exact⟨_,rfl⟩))
theorem Xrs (a:(List Int)) (n:Int) (hw:wt (.sl (.int .u8)) a≤2147483648):∃ r,Xm4 a n=some r:=by
 simp only[Xm4]
 repeat' (first | with_reducible exact Ywn _ | with_reducible refine Yww (Ywn _) fun _=>?_ | with_reducible apply Yw3)
theorem Xtk (a:(List (List Int))) (n:Int) (hw:wt (.sl (.sl (.int .u8))) a≤2147483648):∃ r,Xkf a n=some r:=by
 have hw2:=hw;simp only[wA] at hw2
 have hl:a.length≤2147483648:=by have:=Yli (wt (.sl (.int .u8))) (fun x=>by simp only[wA];omega) a;omega
 have lp:∀ k,∃ r,Xju a (k,0)=some r:=fun k=>by
  refine Ys9 (f:=fun s=>Xju.B a s.1 s.2) (fun(i:Nat) (k:Int)=>(k,(i:Int))) a.length (fun i k hi=>?_) (fun k=>?_) a.length 0 k (by omega)
  ·have hm:=Ys6 (wt (.sl (.int .u8))) a i hi
   have hb:inB (i:Int) a.length=true:=Yu7 (by omega) (by omega)
   simp only[Xju.B,Yxm hi,hb,Yw4,toNat_cast,getD_lt _ hi,Yvo (by omega:i<4294967296)]
   repeat' (first | with_reducible exact Yxa _ | (with_reducible refine .inl ⟨_,rfl,?_⟩;exact⟨_,rfl⟩) | with_reducible refine Yvt (Xrs _ _ (by first | omega | (simp only[wA] at hm ⊢;omega))) fun _=>?_ | with_reducible refine Yvt (Ywn _) fun _=>?_ | with_reducible apply Yv2)
  ·refine⟨.inr k,?_⟩;simp only[Xju.B,Yxe (Nat.le_refl _),Ywx]
 simp only[Xkf]
 repeat' (first | with_reducible exact Ywn _ | with_reducible refine Yww (lp _) fun o=>?_ | with_reducible refine Yww (Ywn _) fun _=>?_ | with_reducible apply Yw3 | (cases o<;>exact⟨_,rfl⟩))
theorem Xui (a:Fs_) (n:Int) (hw:wt Xo a≤2147483648):∃ r,Xl3 a n=some r:=by
 simp only[Xl3]
 repeat' (first | with_reducible exact Ywn _ | with_reducible refine Yww (Xsd _ _ (by first | omega | (simp only[wA] at hw ⊢;omega))) fun _=>?_ | with_reducible refine Yww (Xtk _ _ (by first | omega | (simp only[wA] at hw ⊢;omega))) fun _=>?_ | with_reducible refine Yww (Ywn _) fun _=>?_ | with_reducible apply Yw3)
theorem Xr4 (a:Xz) (n:Int) (hw:wt Xp a≤2147483648):∃ r,Xm6 a n=some r:=by
 simp only[Xm6]
 repeat' (first | with_reducible exact Ywn _ | with_reducible refine Yww (Xrp _ _ (by first | omega | (simp only[wA] at hw ⊢;omega))) fun _=>?_ | with_reducible refine Yww (Xui _ _ (by first | omega | (simp only[wA] at hw ⊢;omega))) fun _=>?_ | with_reducible refine Yww (Ywn _) fun _=>?_ | with_reducible apply Yw3)
theorem Xpu (a:(List Int)) (hw:wt (.sl (.int .i64)) a≤2147483648):Xhs a=some a:=by
 have hw2:=hw;simp only[wA] at hw2
 have hl:a.length≤2147483648:=by have:=Yli (wt (.int .i64)) (fun x=>by simp only[wA];omega) a;omega
 have lp:Xjr a (0,List.replicate (a.length:Int).toNat 0)=some a:=by
  refine Yvy a (fun s=>Xjr.B a s.1 s.2) 0 (fun i hi out ho=>?_) (fun out ho=>?_)
  ·have hm:=Ys6 (wt (.int .i64)) a i hi
   have hb:inB (i:Int) a.length=true:=Yu7 (by omega) (by omega)
   have hc:inB (i:Int) out.length=true:=Yu7 (by omega) (by omega)
   simp only[Xjr.B,Yxm hi,hb,hc,Yw4,toNat_cast,getD_lt _ hi,Option.bind_some,Yxr,Yvo (by omega:i<4294967296)]
  ·simp only[Xjr.B];rw[show decide ((a.length:Int)<(a.length:Int))=false by simp];rfl
 simp only[Xhs]
 rw[show(decide ((0:Int)≤(a.length:Int))&&(decide ((a.length:Int)≤(a.length:Int))&&decide ((a.length:Int)≤2147483648)))=true by simp;omega]
 simp only[Yw4,Option.bind_some,lp]
theorem Xsh (a:(List (List Int))) (hw:wt (.sl (.sl (.int .i64))) a≤2147483648):Xj0 a=some a:=by
 have hw2:=hw;simp only[wA] at hw2
 have hl:a.length≤2147483648:=by have:=Yli (wt (.sl (.int .i64))) (fun x=>by simp only[wA];omega) a;omega
 have lp:Xjx a (0,List.replicate (a.length:Int).toNat ([]:List Int))=some a:=by
  refine Yvy a (fun s=>Xjx.B a s.1 s.2) [] (fun i hi out ho=>?_) (fun out ho=>?_)
  ·have hm:=Ys6 (wt (.sl (.int .i64))) a i hi
   have hb:inB (i:Int) a.length=true:=Yu7 (by omega) (by omega)
   have hc:inB (i:Int) out.length=true:=Yu7 (by omega) (by omega)
   have h0:=Xpu a[i] (by omega)
   simp only[Xjx.B,Yxm hi,hb,hc,Yw4,toNat_cast,getD_lt _ hi,h0,Option.bind_some,Yxr,Yvo (by omega:i<4294967296)]
  ·simp only[Xjx.B];rw[show decide ((a.length:Int)<(a.length:Int))=false by simp];rfl
 simp only[Xj0]
 rw[show(decide ((0:Int)≤(a.length:Int))&&(decide ((a.length:Int)≤(a.length:Int))&&decide ((a.length:Int)≤2147483648)))=true by simp;omega]
 simp only[Yw4,Option.bind_some,lp]
theorem Xsr (a:Xj) (hw:wt Xl a≤2147483648):Xmn a=some a:=by
 obtain⟨x0,x1,⟨⟩⟩:=a;simp only[wA] at hw
 have h_x1_0:=Xpu x1 (by simp only[wA];omega)
 simp only[Xmn,h_x1_0,Option.bind_some,Yxr]
theorem Xs4 (a:(List Xj)) (hw:wt (.sl Xl) a≤2147483648):Xjs a=some a:=by
 have hw2:=hw;simp only[wA] at hw2
 have hl:a.length≤2147483648:=by have:=Yli (wt Xl) (fun x=>by simp only[wA];omega) a;omega
 have lp:Xj2 a (0,List.replicate (a.length:Int).toNat Xt)=some a:=by
  refine Yvy a (fun s=>Xj2.B a s.1 s.2) Xt (fun i hi out ho=>?_) (fun out ho=>?_)
  ·have hm:=Ys6 (wt Xl) a i hi
   have hb:inB (i:Int) a.length=true:=Yu7 (by omega) (by omega)
   have hc:inB (i:Int) out.length=true:=Yu7 (by omega) (by omega)
   have h0:=Xsr a[i] (by omega)
   simp only[Xj2.B,Yxm hi,hb,hc,Yw4,toNat_cast,getD_lt _ hi,h0,Option.bind_some,Yxr,Yvo (by omega:i<4294967296)]
  ·simp only[Xj2.B];rw[show decide ((a.length:Int)<(a.length:Int))=false by simp];rfl
 simp only[Xjs]
 rw[show(decide ((0:Int)≤(a.length:Int))&&(decide ((a.length:Int)≤(a.length:Int))&&decide ((a.length:Int)≤2147483648)))=true by simp;omega]
 simp only[Yw4,Option.bind_some,lp]
theorem Xtp (a:Xd) (hw:wt Xh a≤2147483648):Xmv a=some a:=by
 obtain⟨x0,x1,⟨⟩⟩:=a;simp only[wA] at hw
 have h_x0_0:=Xsh x0 (by simp only[wA];omega)
 have h_x1_1:=Xs4 x1 (by simp only[wA];omega)
 simp only[Xmv,h_x0_0,h_x1_1,Option.bind_some,Yxr]
theorem Xr9 (a:Xg) (hw:wt Xi a≤2147483648):Xmp a=some a:=by
 obtain⟨x0,x1,⟨⟩⟩:=a;simp only[wA] at hw;simp only[Xmp,Option.bind_some,Yxr]
theorem Xtx (a:(List Xg)) (hw:wt (.sl Xi) a≤2147483648):Xj1 a=some a:=by
 have hw2:=hw;simp only[wA] at hw2
 have hl:a.length≤2147483648:=by have:=Yli (wt Xi) (fun x=>by simp only[wA];omega) a;omega
 have lp:Xji a (0,List.replicate (a.length:Int).toNat Xm)=some a:=by
  refine Yvy a (fun s=>Xji.B a s.1 s.2) Xm (fun i hi out ho=>?_) (fun out ho=>?_)
  ·have hm:=Ys6 (wt Xi) a i hi
   have hb:inB (i:Int) a.length=true:=Yu7 (by omega) (by omega)
   have hc:inB (i:Int) out.length=true:=Yu7 (by omega) (by omega)
   have h0:=Xr9 a[i] (by omega)
   simp only[Xji.B,Yxm hi,hb,hc,Yw4,toNat_cast,getD_lt _ hi,h0,Option.bind_some,Yxr,Yvo (by omega:i<4294967296)]
  ·simp only[Xji.B];rw[show decide ((a.length:Int)<(a.length:Int))=false by simp];rfl
 simp only[Xj1]
 rw[show(decide ((0:Int)≤(a.length:Int))&&(decide ((a.length:Int)≤(a.length:Int))&&decide ((a.length:Int)≤2147483648)))=true by simp;omega]
 simp only[Yw4,Option.bind_some,lp]
theorem Xuj (a:Xa) (hw:wt Xb a≤2147483648):Xm3 a=some a:=by
 obtain⟨x0,x1,x2,x3,x4,⟨⟩⟩:=a;simp only[wA] at hw
 have h_x3_0:=Xpu x3 (by simp only[wA];omega)
 have h_x4_1:=Xtx x4 (by simp only[wA];omega)
 simp only[Xm3,h_x3_0,h_x4_1,Option.bind_some,Yxr]
theorem Xtf (a:(List Xa)) (hw:wt (.sl Xb) a≤2147483648):Xjm a=some a:=by
 have hw2:=hw;simp only[wA] at hw2
 have hl:a.length≤2147483648:=by have:=Yli (wt Xb) (fun x=>by simp only[wA];omega) a;omega
 have lp:Xj8 a (0,List.replicate (a.length:Int).toNat Xc)=some a:=by
  refine Yvy a (fun s=>Xj8.B a s.1 s.2) Xc (fun i hi out ho=>?_) (fun out ho=>?_)
  ·have hm:=Ys6 (wt Xb) a i hi
   have hb:inB (i:Int) a.length=true:=Yu7 (by omega) (by omega)
   have hc:inB (i:Int) out.length=true:=Yu7 (by omega) (by omega)
   have h0:=Xuj a[i] (by omega)
   simp only[Xj8.B,Yxm hi,hb,hc,Yw4,toNat_cast,getD_lt _ hi,h0,Option.bind_some,Yxr,Yvo (by omega:i<4294967296)]
  ·simp only[Xj8.B];rw[show decide ((a.length:Int)<(a.length:Int))=false by simp];rfl
 simp only[Xjm]
 rw[show(decide ((0:Int)≤(a.length:Int))&&(decide ((a.length:Int)≤(a.length:Int))&&decide ((a.length:Int)≤2147483648)))=true by simp;omega]
 simp only[Yw4,Option.bind_some,lp]
theorem Xun (a:(List Int)) (hw:wt (.sl (.int .u8)) a≤2147483648):Xm8 a=some a:=by
 have hw2:=hw;simp only[wA] at hw2
 have hl:a.length≤2147483648:=by have:=Yli (wt (.int .u8)) (fun x=>by simp only[wA];omega) a;omega
 have lp:Xjw a (0,List.replicate (a.length:Int).toNat 0)=some a:=by
  refine Yvy a (fun s=>Xjw.B a s.1 s.2) 0 (fun i hi out ho=>?_) (fun out ho=>?_)
  ·have hm:=Ys6 (wt (.int .u8)) a i hi
   have hb:inB (i:Int) a.length=true:=Yu7 (by omega) (by omega)
   have hc:inB (i:Int) out.length=true:=Yu7 (by omega) (by omega)
   simp only[Xjw.B,Yxm hi,hb,hc,Yw4,toNat_cast,getD_lt _ hi,Option.bind_some,Yxr,Yvo (by omega:i<4294967296)]
  ·simp only[Xjw.B];rw[show decide ((a.length:Int)<(a.length:Int))=false by simp];rfl
 simp only[Xm8]
 rw[show(decide ((0:Int)≤(a.length:Int))&&(decide ((a.length:Int)≤(a.length:Int))&&decide ((a.length:Int)≤2147483648)))=true by simp;omega]
 simp only[Yw4,Option.bind_some,lp]
theorem Xso (a:(List (List Int))) (hw:wt (.sl (.sl (.int .u8))) a≤2147483648):Xjp a=some a:=by
 have hw2:=hw;simp only[wA] at hw2
 have hl:a.length≤2147483648:=by have:=Yli (wt (.sl (.int .u8))) (fun x=>by simp only[wA];omega) a;omega
 have lp:Xj6 a (0,List.replicate (a.length:Int).toNat ([]:List Int))=some a:=by
  refine Yvy a (fun s=>Xj6.B a s.1 s.2) [] (fun i hi out ho=>?_) (fun out ho=>?_)
  ·have hm:=Ys6 (wt (.sl (.int .u8))) a i hi
   have hb:inB (i:Int) a.length=true:=Yu7 (by omega) (by omega)
   have hc:inB (i:Int) out.length=true:=Yu7 (by omega) (by omega)
   have h0:=Xun a[i] (by omega)
   simp only[Xj6.B,Yxm hi,hb,hc,Yw4,toNat_cast,getD_lt _ hi,h0,Option.bind_some,Yxr,Yvo (by omega:i<4294967296)]
  ·simp only[Xj6.B];rw[show decide ((a.length:Int)<(a.length:Int))=false by simp];rfl
 simp only[Xjp]
 rw[show(decide ((0:Int)≤(a.length:Int))&&(decide ((a.length:Int)≤(a.length:Int))&&decide ((a.length:Int)≤2147483648)))=true by simp;omega]
 simp only[Yw4,Option.bind_some,lp]
theorem Xqw (a:Fs_) (hw:wt Xo a≤2147483648):Xl4 a=some a:=by
 obtain⟨x0,x1,⟨⟩⟩:=a;simp only[wA] at hw
 have h_x0_0:=Xtf x0 (by simp only[wA];omega)
 have h_x1_1:=Xso x1 (by simp only[wA];omega)
 simp only[Xl4,h_x0_0,h_x1_1,Option.bind_some,Yxr]
theorem Xrv (a:Xz) (hw:wt Xp a≤2147483648):Xk8 a=some a:=by
 obtain⟨x0,x1,x2,⟨⟩⟩:=a;simp only[wA] at hw
 have h_x0_0:=Xtp x0 (by simp only[wA];omega)
 have h_x1_1:=Xqw x1 (by simp only[wA];omega)
 have h_x2_2:=Xqw x2 (by simp only[wA];omega)
 simp only[Xk8,h_x0_0,h_x1_1,h_x2_2,Option.bind_some,Yxr]
theorem Xrt (a:(List Bool)) (hw:wt (.sl .bool) a≤2147483648):Xk3 a=some a:=by
 have hw2:=hw;simp only[wA] at hw2
 have hl:a.length≤2147483648:=by have:=Yli (wt .bool) (fun x=>by simp only[wA];omega) a;omega
 have lp:Xjo a (0,List.replicate (a.length:Int).toNat false)=some a:=by
  refine Yvy a (fun s=>Xjo.B a s.1 s.2) false (fun i hi out ho=>?_) (fun out ho=>?_)
  ·have hm:=Ys6 (wt .bool) a i hi
   have hb:inB (i:Int) a.length=true:=Yu7 (by omega) (by omega)
   have hc:inB (i:Int) out.length=true:=Yu7 (by omega) (by omega)
   simp only[Xjo.B,Yxm hi,hb,hc,Yw4,toNat_cast,getD_lt _ hi,Option.bind_some,Yxr,Yvo (by omega:i<4294967296)]
  ·simp only[Xjo.B];rw[show decide ((a.length:Int)<(a.length:Int))=false by simp];rfl
 simp only[Xk3]
 rw[show(decide ((0:Int)≤(a.length:Int))&&(decide ((a.length:Int)≤(a.length:Int))&&decide ((a.length:Int)≤2147483648)))=true by simp;omega]
 simp only[Yw4,Option.bind_some,lp]
theorem Xpx (a:(List Int)) (hw:wt (.sl (.int .i64)) a≤2147483648):Xcc a a=some true:=by
 have hw2:=hw;simp only[wA] at hw2
 have hl:a.length≤2147483648:=by have:=Yli (wt (.int .i64)) (fun x=>by simp only[wA];omega) a;omega
 have lp:Xd5 a a 0=some (.inr ()):=by
  refine Ywf (n:=a.length) (fun s=>Xd5.B a a s) (fun i hi=>?_) ?_
  ·have hm:=Ys6 (wt (.int .i64)) a i hi
   have hb:inB (i:Int) a.length=true:=Yu7 (by omega) (by omega)
   simp only[Xd5.B,Yxm hi,hb,Yw4,Ywx,toNat_cast,getD_lt _ hi,Option.bind_some,Bool.not_true,Yvn,Yvi,Yvk,Yvo (by omega:i<4294967296)]
  ·simp only[Xd5.B,Yxe (Nat.le_refl _),Ywx]
 simp only[Xcc,Yvn,Ywx,lp,Option.bind_some,sel]
theorem Xsp (a:(List (List Int))) (hw:wt (.sl (.sl (.int .i64))) a≤2147483648):Xfc a a=some true:=by
 have hw2:=hw;simp only[wA] at hw2
 have hl:a.length≤2147483648:=by have:=Yli (wt (.sl (.int .i64))) (fun x=>by simp only[wA];omega) a;omega
 have lp:Xe2 a a 0=some (.inr ()):=by
  refine Ywf (n:=a.length) (fun s=>Xe2.B a a s) (fun i hi=>?_) ?_
  ·have hm:=Ys6 (wt (.sl (.int .i64))) a i hi
   have hb:inB (i:Int) a.length=true:=Yu7 (by omega) (by omega)
   have h0:=Xpx a[i] (by omega)
   simp only[Xe2.B,Yxm hi,hb,Yw4,Ywx,toNat_cast,getD_lt _ hi,h0,Option.bind_some,Bool.not_true,Yvn,Yvi,Yvk,Yvo (by omega:i<4294967296)]
  ·simp only[Xe2.B,Yxe (Nat.le_refl _),Ywx]
 simp only[Xfc,Yvn,Ywx,lp,Option.bind_some,sel]
theorem Xtc (a:Xj) (hw:wt Xl a≤2147483648):Xib a a=some true:=by
 obtain⟨x0,x1,⟨⟩⟩:=a;simp only[wA] at hw
 have h_x1_0:=Xpx x1 (by simp only[wA];omega)
 simp only[Xib,h_x1_0,Option.bind_some,Bool.not_true,Yvn,Yvi,Yvk,Ywx,Yw4]
theorem Xsg (a:(List Xj)) (hw:wt (.sl Xl) a≤2147483648):Xey a a=some true:=by
 have hw2:=hw;simp only[wA] at hw2
 have hl:a.length≤2147483648:=by have:=Yli (wt Xl) (fun x=>by simp only[wA];omega) a;omega
 have lp:Xdz a a 0=some (.inr ()):=by
  refine Ywf (n:=a.length) (fun s=>Xdz.B a a s) (fun i hi=>?_) ?_
  ·have hm:=Ys6 (wt Xl) a i hi
   have hb:inB (i:Int) a.length=true:=Yu7 (by omega) (by omega)
   have h0:=Xtc a[i] (by omega)
   simp only[Xdz.B,Yxm hi,hb,Yw4,Ywx,toNat_cast,getD_lt _ hi,h0,Option.bind_some,Bool.not_true,Yvn,Yvi,Yvk,Yvo (by omega:i<4294967296)]
  ·simp only[Xdz.B,Yxe (Nat.le_refl _),Ywx]
 simp only[Xey,Yvn,Ywx,lp,Option.bind_some,sel]
theorem Xq2 (a:Xd) (hw:wt Xh a≤2147483648):Xf6 a a=some true:=by
 obtain⟨x0,x1,⟨⟩⟩:=a;simp only[wA] at hw
 have h_x0_0:=Xsp x0 (by simp only[wA];omega)
 have h_x1_1:=Xsg x1 (by simp only[wA];omega)
 simp only[Xf6,h_x0_0,h_x1_1,Option.bind_some,Bool.not_true,Yvn,Yvi,Yvk,Ywx,Yw4]
theorem Xrm (a:Xn) (hw:wt Xk a≤2147483648):Xgp a a=some true:=by
 obtain⟨x0,x1,⟨⟩⟩:=a;simp only[wA] at hw
 have h_x1_0:=Xq2 x1 (by simp only[wA];omega)
 simp only[Xgp,h_x1_0,Option.bind_some,Bool.not_true,Yvn,Yvi,Yvk,Ywx,Yw4]
theorem Xru (a:Xg) (hw:wt Xi a≤2147483648):Xi0 a a=some true:=by
 obtain⟨x0,x1,⟨⟩⟩:=a;simp only[wA] at hw;simp only[Xi0,Option.bind_some,Bool.not_true,Yvn,Yvi,Yvk,Ywx,Yw4]
theorem Xts (a:(List Xg)) (hw:wt (.sl Xi) a≤2147483648):Xep a a=some true:=by
 have hw2:=hw;simp only[wA] at hw2
 have hl:a.length≤2147483648:=by have:=Yli (wt Xi) (fun x=>by simp only[wA];omega) a;omega
 have lp:Xe3 a a 0=some (.inr ()):=by
  refine Ywf (n:=a.length) (fun s=>Xe3.B a a s) (fun i hi=>?_) ?_
  ·have hm:=Ys6 (wt Xi) a i hi
   have hb:inB (i:Int) a.length=true:=Yu7 (by omega) (by omega)
   have h0:=Xru a[i] (by omega)
   simp only[Xe3.B,Yxm hi,hb,Yw4,Ywx,toNat_cast,getD_lt _ hi,h0,Option.bind_some,Bool.not_true,Yvn,Yvi,Yvk,Yvo (by omega:i<4294967296)]
  ·simp only[Xe3.B,Yxe (Nat.le_refl _),Ywx]
 simp only[Xep,Yvn,Ywx,lp,Option.bind_some,sel]
theorem Xrq (a:Xa) (hw:wt Xb a≤2147483648):Xi2 a a=some true:=by
 obtain⟨x0,x1,x2,x3,x4,⟨⟩⟩:=a;simp only[wA] at hw
 have h_x3_0:=Xpx x3 (by simp only[wA];omega)
 have h_x4_1:=Xts x4 (by simp only[wA];omega)
 simp only[Xi2,h_x3_0,h_x4_1,Option.bind_some,Bool.not_true,Yvn,Yvi,Yvk,Ywx,Yw4]
theorem Xub (a:(List Xa)) (hw:wt (.sl Xb) a≤2147483648):Xeh a a=some true:=by
 have hw2:=hw;simp only[wA] at hw2
 have hl:a.length≤2147483648:=by have:=Yli (wt Xb) (fun x=>by simp only[wA];omega) a;omega
 have lp:Xfa a a 0=some (.inr ()):=by
  refine Ywf (n:=a.length) (fun s=>Xfa.B a a s) (fun i hi=>?_) ?_
  ·have hm:=Ys6 (wt Xb) a i hi
   have hb:inB (i:Int) a.length=true:=Yu7 (by omega) (by omega)
   have h0:=Xrq a[i] (by omega)
   simp only[Xfa.B,Yxm hi,hb,Yw4,Ywx,toNat_cast,getD_lt _ hi,h0,Option.bind_some,Bool.not_true,Yvn,Yvi,Yvk,Yvo (by omega:i<4294967296)]
  ·simp only[Xfa.B,Yxe (Nat.le_refl _),Ywx]
 simp only[Xeh,Yvn,Ywx,lp,Option.bind_some,sel]
theorem Xty (a:(List Int)) (hw:wt (.sl (.int .u8)) a≤2147483648):Xie a a=some true:=by
 have hw2:=hw;simp only[wA] at hw2
 have hl:a.length≤2147483648:=by have:=Yli (wt (.int .u8)) (fun x=>by simp only[wA];omega) a;omega
 have lp:Xfe a a 0=some (.inr ()):=by
  refine Ywf (n:=a.length) (fun s=>Xfe.B a a s) (fun i hi=>?_) ?_
  ·have hm:=Ys6 (wt (.int .u8)) a i hi
   have hb:inB (i:Int) a.length=true:=Yu7 (by omega) (by omega)
   simp only[Xfe.B,Yxm hi,hb,Yw4,Ywx,toNat_cast,getD_lt _ hi,Option.bind_some,Bool.not_true,Yvn,Yvi,Yvk,Yvo (by omega:i<4294967296)]
  ·simp only[Xfe.B,Yxe (Nat.le_refl _),Ywx]
 simp only[Xie,Yvn,Ywx,lp,Option.bind_some,sel]
theorem Xs1 (a:(List (List Int))) (hw:wt (.sl (.sl (.int .u8))) a≤2147483648):Xen a a=some true:=by
 have hw2:=hw;simp only[wA] at hw2
 have hl:a.length≤2147483648:=by have:=Yli (wt (.sl (.int .u8))) (fun x=>by simp only[wA];omega) a;omega
 have lp:Xfd a a 0=some (.inr ()):=by
  refine Ywf (n:=a.length) (fun s=>Xfd.B a a s) (fun i hi=>?_) ?_
  ·have hm:=Ys6 (wt (.sl (.int .u8))) a i hi
   have hb:inB (i:Int) a.length=true:=Yu7 (by omega) (by omega)
   have h0:=Xty a[i] (by omega)
   simp only[Xfd.B,Yxm hi,hb,Yw4,Ywx,toNat_cast,getD_lt _ hi,h0,Option.bind_some,Bool.not_true,Yvn,Yvi,Yvk,Yvo (by omega:i<4294967296)]
  ·simp only[Xfd.B,Yxe (Nat.le_refl _),Ywx]
 simp only[Xen,Yvn,Ywx,lp,Option.bind_some,sel]
theorem Xra (a:Fs_) (hw:wt Xo a≤2147483648):Xhf a a=some true:=by
 obtain⟨x0,x1,⟨⟩⟩:=a;simp only[wA] at hw
 have h_x0_0:=Xub x0 (by simp only[wA];omega)
 have h_x1_1:=Xs1 x1 (by simp only[wA];omega)
 simp only[Xhf,h_x0_0,h_x1_1,Option.bind_some,Bool.not_true,Yvn,Yvi,Yvk,Ywx,Yw4]
theorem Xr7 (a:Xz) (hw:wt Xp a≤2147483648):Xif a a=some true:=by
 obtain⟨x0,x1,x2,⟨⟩⟩:=a;simp only[wA] at hw
 have h_x0_0:=Xq2 x0 (by simp only[wA];omega)
 have h_x1_1:=Xra x1 (by simp only[wA];omega)
 have h_x2_2:=Xra x2 (by simp only[wA];omega)
 simp only[Xif,h_x0_0,h_x1_1,h_x2_2,Option.bind_some,Bool.not_true,Yvn,Yvi,Yvk,Ywx,Yw4]
theorem Xtq (a:(List Bool)) (hw:wt (.sl .bool) a≤2147483648):Xii a a=some true:=by
 have hw2:=hw;simp only[wA] at hw2
 have hl:a.length≤2147483648:=by have:=Yli (wt .bool) (fun x=>by simp only[wA];omega) a;omega
 have lp:Xea a a 0=some (.inr ()):=by
  refine Ywf (n:=a.length) (fun s=>Xea.B a a s) (fun i hi=>?_) ?_
  ·have hm:=Ys6 (wt .bool) a i hi
   have hb:inB (i:Int) a.length=true:=Yu7 (by omega) (by omega)
   simp only[Xea.B,Yxm hi,hb,Yw4,Ywx,toNat_cast,getD_lt _ hi,Option.bind_some,Bool.not_true,Yvn,Yvi,Yvk,Yvo (by omega:i<4294967296)]
  ·simp only[Xea.B,Yxe (Nat.le_refl _),Ywx]
 simp only[Xii,Yvn,Ywx,lp,Option.bind_some,sel]
theorem Xqr:∀ (n:Nat) (k:Int) (out:List UInt8),0≤k→k<10 ^ n→out.length+n≤2147483648→k≤4611686018427387904→∃ s,Xds (k,out)=some s∧s.length≤out.length+n
 |0,k,out,h0,h1,h2,h3=>by
  have:k=0:=by simp at h1;omega
  subst this
  exact⟨out,Y5 (by simp only[Xds.B];rfl),by omega⟩
 |n+1,k,out,h0,h1,h2,h3=>by
  by_cases hk:k=0
  ·subst hk;exact⟨out,Y5 (by simp only[Xds.B];rfl),by omega⟩
  ·have hd:k.tdiv 10=k / 10:=Int.tdiv_eq_ediv_of_nonneg h0
   have hq:w64 (k / 10)=k / 10:=Yq5 (by omega) (by omega)
   have hp:k / 10<10 ^ n:=by rw[Int.pow_succ] at h1;omega
   obtain⟨s,hs,hl⟩:=Xqr n (k / 10) ((([IntKind.u8.wrap (w64 ((48:Int)+(k.tmod 10)))]).map fun n=>UInt8.ofNat n.toNat)++out) (by omega) hp (by simp;omega) (by omega)
   refine⟨s,?_,by simp at hl;omega⟩
   rw[←hs];refine Yaq (s':=(k / 10,_)) ?_
   simp only[Xds.B,show decide (k>0)=true by simp;omega,Yw4,show(!((10:Int) == 0))=true from rfl,Option.bind_some,hd,hq]
   rw[show decide ((([IntKind.u8.wrap (w64 ((48:Int)+(k.tmod 10)))]).map fun n=>UInt8.ofNat n.toNat).length+out.length≤2147483648)=true by simp;omega]
   rfl
theorem Xth (k:Int) (h:0≤k) (hk:k≤4611686018427387904):∃ s,Xiu k=some s:=by
 obtain⟨s,hs,hl⟩:=Xqr 19 k [] h (by omega) (by simp) hk
 simp only[Xiu];cases decide (k≤0)
 ·simp only[Ywx,hs,Option.bind_some]
  rw[show decide (([109]:List UInt8).length+s.length≤2147483648)=true by simp at hl ⊢;omega]
  exact⟨_,rfl⟩
 ·exact⟨_,rfl⟩
theorem Xs0 (a:(List Xg)) (k:Int) (hk:0≤k) (hw:k+wt (.sl Xi) a≤4611686018427387904) (hz:wt (.sl Xi) a≤2147483648):MK Xdo (wt (.sl Xi) a) a k:=by
 simp only[wA] at hw hz
 have hl:a.length≤2147483648:=by have:=Yli (wt Xi) (fun x=>by simp only[wA];omega) a;omega
 have hs:∀ (k:Int) (i:Nat) (a:(List Xg)) (h:i<a.length),a.length≤2147483648→0≤k→k+wt Xi a[i]≤4611686018427387904→wt Xi a[i]≤2147483648→∃ k2 x2,k≤k2∧k2≤k+wt Xi a[i]∧Xc8.B k (i:Int) a=some (.inl (k2,((i+1:Nat):Int),a.set i x2)):=by
  clear hw hz hl hk k a;intro k i a hi hl hk hw hz
  have hb:inB (i:Int) a.length=true:=Yu7 (by omega) (by omega)
  simp only[wA] at hw hz
  obtain⟨s1,w1⟩:=Xth (k) (by omega) (by omega)
  have w2:w64 (k+1)=k+1:=Yxt (by omega) (by omega)
  have w3:w64 (k+1+1)=k+1+1:=Yxt (by omega) (by omega)
  refine⟨k+1+1,(s1,k+1,()),by omega,by simp only[wA];omega,?_⟩
  simp only[Xc8.B,Yxm hi,hb,Yw4,toNat_cast,getD_lt _ hi,Option.bind_some,w1,w2,w3,Yvo (by omega:i<4294967296),List.set_set,List.length_set,Ywb _ _ hi,show(!((3:Int) == 0))=true from rfl]
 obtain⟨k2,a2,e1,e2,e3⟩:=Yva (wt Xi) 4611686018427387904 (fun s=>Xc8.B s.1 s.2.1 s.2.2) (fun k a=>by simp only[Xc8.B,Yxe (Nat.le_refl _),Ywx]) hs k a hl hk (by omega) (by omega)
 refine⟨k2,a2,e1,by simp only[wA];omega,?_⟩
 have:Xc8 (k,0,a)=some (k2,a2):=e3;simp only[Xdo,this,Option.bind_some]
theorem Xp2 (a:(List Int)) (k:Int) (hk:0≤k) (hw:k+wt (.sl (.int .i64)) a≤4611686018427387904) (hz:wt (.sl (.int .i64)) a≤2147483648):MH Xb9 Xgg (wt (.sl (.int .i64)) a) a k:=by
 simp only[wA] at hw hz
 have hl:a.length≤2147483648:=by have:=Yli (wt (.int .i64)) (fun x=>by simp only[wA];omega) a;omega
 have hs:∀ (k:Int) (i:Nat) (a:(List Int)) (h:i<a.length),a.length≤2147483648→0≤k→k+wt (.int .i64) a[i]≤4611686018427387904→wt (.int .i64) a[i]≤2147483648→∃ k2 x2,k≤k2∧k2≤k+wt (.int .i64) a[i]∧Xcr.B k (i:Int) a=some (.inl (k2,((i+1:Nat):Int),a.set i x2))∧∀ b:(List Int),b.length=a.length→b[i]? = some x2→Xc2.B b k (i:Int)=some (.inl (k2,((i+1:Nat):Int))):=by
  clear hw hz hl hk k a;intro k i a hi hl hk hw hz
  have hb:inB (i:Int) a.length=true:=Yu7 (by omega) (by omega)
  simp only[wA] at hw hz
  have w1:w64 (k+1)=k+1:=Yxt (by omega) (by omega)
  refine⟨k+1,k,by omega,by simp only[wA];omega,?_,fun b hlb hx=>?_⟩
  ·simp only[Xcr.B,Yxm hi,hb,Yw4,toNat_cast,getD_lt _ hi,Option.bind_some,w1,Yvo (by omega:i<4294967296),List.set_set,List.length_set,Ywb _ _ hi,show(!((3:Int) == 0))=true from rfl]
  ·have hc:inB (i:Int) b.length=true:=Yu7 (by omega) (by omega)
   have hd:decide ((i:Int)<(b.length:Int))=true:=Yxm (by omega)
   simp only[Xc2.B,hd,hc,Yw4,Ywx,toNat_cast,Ywv _ hx,Option.bind_some,Yvn,Yvi,Yvk,Bool.not_true,w1,Yvo (by omega:i<4294967296),List.set_set,List.length_set,Ywb _ _ hi,show(!((3:Int) == 0))=true from rfl]
 obtain⟨k2,a2,e1,e2,e3,e4⟩:=Yuv (wt (.int .i64)) 4611686018427387904 (fun s=>Xcr.B s.1 s.2.1 s.2.2) (fun b s=>Xc2.B b s.1 s.2) (fun k a=>by simp only[Xcr.B,Yxe (Nat.le_refl _),Ywx]) (fun k a=>by simp only[Xc2.B,Yxe (Nat.le_refl _),Ywx]) hs k a hl hk (by omega) (by omega)
 refine⟨k2,a2,e1,by simp only[wA];omega,?_,?_⟩
 ·have:Xcr (k,0,a)=some (k2,a2):=e3
  simp only[Xb9,this,Option.bind_some]
 ·have:Xc2 a2 (k,0)=some (.inr k2):=e4
  simp only[Xgg,this,Option.bind_some,sel]
theorem Xqb (a:(List Xa)) (k:Int) (hk:0≤k) (hw:k+wt (.sl Xb) a≤4611686018427387904) (hz:wt (.sl Xb) a≤2147483648):MK Xe9 (wt (.sl Xb) a) a k:=by
 simp only[wA] at hw hz
 have hl:a.length≤2147483648:=by have:=Yli (wt Xb) (fun x=>by simp only[wA];omega) a;omega
 have hs:∀ (k:Int) (i:Nat) (a:(List Xa)) (h:i<a.length),a.length≤2147483648→0≤k→k+wt Xb a[i]≤4611686018427387904→wt Xb a[i]≤2147483648→∃ k2 x2,k≤k2∧k2≤k+wt Xb a[i]∧Xc9.B k (i:Int) a=some (.inl (k2,((i+1:Nat):Int),a.set i x2)):=by
  clear hw hz hl hk k a;intro k i a hi hl hk hw hz
  have hb:inB (i:Int) a.length=true:=Yu7 (by omega) (by omega)
  simp only[wA] at hw hz
  have w1:w64 (k+1)=k+1:=Yxt (by omega) (by omega)
  have w2:w64 (k+1+1)=k+1+1:=Yxt (by omega) (by omega)
  have w3:w64 (k+1+1+1)=k+1+1+1:=Yxt (by omega) (by omega)
  obtain⟨k4,y4,l4,u4,w4⟩:=MH.mk (Xp2 a[i].2.2.2.1 (k+1+1+1) (by omega) (by simp only[wA];omega) (by simp only[wA];omega))
  simp only[wA] at u4
  obtain⟨k5,y5,l5,u5,w5⟩:=id (Xs0 a[i].2.2.2.2.1 (k4) (by omega) (by simp only[wA];omega) (by simp only[wA];omega))
  simp only[wA] at u5
  refine⟨k5,(k,k+1,k+1+1,y4,y5,()),by omega,by simp only[wA];omega,?_⟩
  simp only[Xc9.B,Yxm hi,hb,Yw4,toNat_cast,getD_lt _ hi,Option.bind_some,w1,w2,w3,w4,w5,Yvo (by omega:i<4294967296),List.set_set,List.length_set,Ywb _ _ hi,show(!((3:Int) == 0))=true from rfl]
 obtain⟨k2,a2,e1,e2,e3⟩:=Yva (wt Xb) 4611686018427387904 (fun s=>Xc9.B s.1 s.2.1 s.2.2) (fun k a=>by simp only[Xc9.B,Yxe (Nat.le_refl _),Ywx]) hs k a hl hk (by omega) (by omega)
 refine⟨k2,a2,e1,by simp only[wA];omega,?_⟩
 have:Xc9 (k,0,a)=some (k2,a2):=e3;simp only[Xe9,this,Option.bind_some]
theorem Xsb (a:(List Int)) (k:Int) (hk:0≤k) (hw:k+wt (.sl (.int .u8)) a≤4611686018427387904) (hz:wt (.sl (.int .u8)) a≤2147483648):MK Xic (wt (.sl (.int .u8)) a) a k:=by
 simp only[wA] at hw hz
 have hl:a.length≤2147483648:=by have:=Yli (wt (.int .u8)) (fun x=>by simp only[wA];omega) a;omega
 have hs:∀ (k:Int) (i:Nat) (a:(List Int)) (h:i<a.length),a.length≤2147483648→0≤k→k+wt (.int .u8) a[i]≤4611686018427387904→wt (.int .u8) a[i]≤2147483648→∃ k2 x2,k≤k2∧k2≤k+wt (.int .u8) a[i]∧Xc6.B k (i:Int) a=some (.inl (k2,((i+1:Nat):Int),a.set i x2)):=by
  clear hw hz hl hk k a;intro k i a hi hl hk hw hz
  have hb:inB (i:Int) a.length=true:=Yu7 (by omega) (by omega)
  simp only[wA] at hw hz
  have w1:w64 (k+1)=k+1:=Yxt (by omega) (by omega)
  refine⟨k+1,(IntKind.u8.wrap (k)),by omega,by simp only[wA];omega,?_⟩
  simp only[Xc6.B,Yxm hi,hb,Yw4,toNat_cast,getD_lt _ hi,Option.bind_some,w1,Yvo (by omega:i<4294967296),List.set_set,List.length_set,Ywb _ _ hi,show(!((3:Int) == 0))=true from rfl]
 obtain⟨k2,a2,e1,e2,e3⟩:=Yva (wt (.int .u8)) 4611686018427387904 (fun s=>Xc6.B s.1 s.2.1 s.2.2) (fun k a=>by simp only[Xc6.B,Yxe (Nat.le_refl _),Ywx]) hs k a hl hk (by omega) (by omega)
 refine⟨k2,a2,e1,by simp only[wA];omega,?_⟩
 have:Xc6 (k,0,a)=some (k2,a2):=e3;simp only[Xic,this,Option.bind_some]
theorem Xpz (a:(List (List Int))) (k:Int) (hk:0≤k) (hw:k+wt (.sl (.sl (.int .u8))) a≤4611686018427387904) (hz:wt (.sl (.sl (.int .u8))) a≤2147483648):MK Xfj (wt (.sl (.sl (.int .u8))) a) a k:=by
 simp only[wA] at hw hz
 have hl:a.length≤2147483648:=by have:=Yli (wt (.sl (.int .u8))) (fun x=>by simp only[wA];omega) a;omega
 have hs:∀ (k:Int) (i:Nat) (a:(List (List Int))) (h:i<a.length),a.length≤2147483648→0≤k→k+wt (.sl (.int .u8)) a[i]≤4611686018427387904→wt (.sl (.int .u8)) a[i]≤2147483648→∃ k2 x2,k≤k2∧k2≤k+wt (.sl (.int .u8)) a[i]∧Xcj.B k (i:Int) a=some (.inl (k2,((i+1:Nat):Int),a.set i x2)):=by
  clear hw hz hl hk k a;intro k i a hi hl hk hw hz
  have hb:inB (i:Int) a.length=true:=Yu7 (by omega) (by omega)
  simp only[wA] at hw hz
  obtain⟨k1,y1,l1,u1,w1⟩:=id (Xsb a[i] (k) (by omega) (by simp only[wA];omega) (by simp only[wA];omega))
  simp only[wA] at u1
  refine⟨k1,y1,by omega,by simp only[wA];omega,?_⟩
  simp only[Xcj.B,Yxm hi,hb,Yw4,toNat_cast,getD_lt _ hi,Option.bind_some,w1,Yvo (by omega:i<4294967296),List.set_set,List.length_set,Ywb _ _ hi,show(!((3:Int) == 0))=true from rfl]
 obtain⟨k2,a2,e1,e2,e3⟩:=Yva (wt (.sl (.int .u8))) 4611686018427387904 (fun s=>Xcj.B s.1 s.2.1 s.2.2) (fun k a=>by simp only[Xcj.B,Yxe (Nat.le_refl _),Ywx]) hs k a hl hk (by omega) (by omega)
 refine⟨k2,a2,e1,by simp only[wA];omega,?_⟩
 have:Xcj (k,0,a)=some (k2,a2):=e3;simp only[Xfj,this,Option.bind_some]
theorem Xuz (x_0:List Xa) (x_1:List (List Int)) (k:Int) (hk:0≤k) (hw:k+wt Xo (x_0,x_1,())≤4611686018427387904) (hz:wt Xo (x_0,x_1,())≤2147483648):∃ k2 y0 y1,k≤k2∧k2≤k+wt Xo (x_0,x_1,())∧Xgo (x_0,x_1,()) k=some (k2,(y0,y1,())):=by
 simp only[wA] at hw hz
 obtain⟨k0,y0,l0,u0,w0⟩:=id (Xqb x_0 k (by omega) (by simp only[wA];omega) (by simp only[wA];omega))
 simp only[wA] at u0
 obtain⟨k1,y1,l1,u1,w1⟩:=id (Xpz x_1 k0 (by omega) (by simp only[wA];omega) (by simp only[wA];omega))
 simp only[wA] at u1
 refine⟨k1,y0,y1,by omega,by simp only[wA];omega,?_⟩
 simp only[Xgo,w0,w1,Option.bind_some,Yxr]
theorem Xp6 (a:(List (List Int))) (k:Int) (hk:0≤k) (hw:k+wt (.sl (.sl (.int .i64))) a≤4611686018427387904) (hz:wt (.sl (.sl (.int .i64))) a≤2147483648):MH Xdh Xfi (wt (.sl (.sl (.int .i64))) a) a k:=by
 simp only[wA] at hw hz
 have hl:a.length≤2147483648:=by have:=Yli (wt (.sl (.int .i64))) (fun x=>by simp only[wA];omega) a;omega
 have hs:∀ (k:Int) (i:Nat) (a:(List (List Int))) (h:i<a.length),a.length≤2147483648→0≤k→k+wt (.sl (.int .i64)) a[i]≤4611686018427387904→wt (.sl (.int .i64)) a[i]≤2147483648→∃ k2 x2,k≤k2∧k2≤k+wt (.sl (.int .i64)) a[i]∧Xct.B k (i:Int) a=some (.inl (k2,((i+1:Nat):Int),a.set i x2))∧∀ b:(List (List Int)),b.length=a.length→b[i]? = some x2→Xcq.B b k (i:Int)=some (.inl (k2,((i+1:Nat):Int))):=by
  clear hw hz hl hk k a;intro k i a hi hl hk hw hz
  have hb:inB (i:Int) a.length=true:=Yu7 (by omega) (by omega)
  simp only[wA] at hw hz
  obtain⟨k1,y1,l1,u1,w1,v1⟩:=Xp2 a[i] (k) (by omega) (by simp only[wA];omega) (by simp only[wA];omega)
  simp only[wA] at u1
  refine⟨k1,y1,by omega,by simp only[wA];omega,?_,fun b hlb hx=>?_⟩
  ·simp only[Xct.B,Yxm hi,hb,Yw4,toNat_cast,getD_lt _ hi,Option.bind_some,v1,w1,Yvo (by omega:i<4294967296),List.set_set,List.length_set,Ywb _ _ hi,show(!((3:Int) == 0))=true from rfl]
  ·have hc:inB (i:Int) b.length=true:=Yu7 (by omega) (by omega)
   have hd:decide ((i:Int)<(b.length:Int))=true:=Yxm (by omega)
   simp only[Xcq.B,hd,hc,Yw4,Ywx,toNat_cast,Ywv _ hx,Option.bind_some,Yvn,Yvi,Yvk,Bool.not_true,v1,w1,Ywq (by omega:0≤k1),Yvo (by omega:i<4294967296),List.set_set,List.length_set,Ywb _ _ hi,show(!((3:Int) == 0))=true from rfl]
 obtain⟨k2,a2,e1,e2,e3,e4⟩:=Yuv (wt (.sl (.int .i64))) 4611686018427387904 (fun s=>Xct.B s.1 s.2.1 s.2.2) (fun b s=>Xcq.B b s.1 s.2) (fun k a=>by simp only[Xct.B,Yxe (Nat.le_refl _),Ywx]) (fun k a=>by simp only[Xcq.B,Yxe (Nat.le_refl _),Ywx]) hs k a hl hk (by omega) (by omega)
 refine⟨k2,a2,e1,by simp only[wA];omega,?_,?_⟩
 ·have:Xct (k,0,a)=some (k2,a2):=e3
  simp only[Xdh,this,Option.bind_some]
 ·have:Xcq a2 (k,0)=some (.inr k2):=e4
  simp only[Xfi,this,Option.bind_some,sel]
theorem Xp4 (a:(List Xj)) (k:Int) (hk:0≤k) (hw:k+wt (.sl Xl) a≤4611686018427387904) (hz:wt (.sl Xl) a≤2147483648):MH Xeo Xe4 (wt (.sl Xl) a) a k:=by
 simp only[wA] at hw hz
 have hl:a.length≤2147483648:=by have:=Yli (wt Xl) (fun x=>by simp only[wA];omega) a;omega
 have hs:∀ (k:Int) (i:Nat) (a:(List Xj)) (h:i<a.length),a.length≤2147483648→0≤k→k+wt Xl a[i]≤4611686018427387904→wt Xl a[i]≤2147483648→∃ k2 x2,k≤k2∧k2≤k+wt Xl a[i]∧Xc4.B k (i:Int) a=some (.inl (k2,((i+1:Nat):Int),a.set i x2))∧∀ b:(List Xj),b.length=a.length→b[i]? = some x2→Xc3.B b k (i:Int)=some (.inl (k2,((i+1:Nat):Int))):=by
  clear hw hz hl hk k a;intro k i a hi hl hk hw hz
  have hb:inB (i:Int) a.length=true:=Yu7 (by omega) (by omega)
  simp only[wA] at hw hz
  have w1:w64 (k+1)=k+1:=Yxt (by omega) (by omega)
  obtain⟨k2,y2,l2,u2,w2,v2⟩:=Xp2 a[i].2.1 (k+1) (by omega) (by simp only[wA];omega) (by simp only[wA];omega)
  simp only[wA] at u2
  refine⟨k2,(k,y2,()),by omega,by simp only[wA];omega,?_,fun b hlb hx=>?_⟩
  ·simp only[Xc4.B,Yxm hi,hb,Yw4,toNat_cast,getD_lt _ hi,Option.bind_some,w1,v2,w2,Yvo (by omega:i<4294967296),List.set_set,List.length_set,Ywb _ _ hi,show(!((3:Int) == 0))=true from rfl]
  ·have hc:inB (i:Int) b.length=true:=Yu7 (by omega) (by omega)
   have hd:decide ((i:Int)<(b.length:Int))=true:=Yxm (by omega)
   simp only[Xc3.B,hd,hc,Yw4,Ywx,toNat_cast,Ywv _ hx,Option.bind_some,Yvn,Yvi,Yvk,Bool.not_true,w1,v2,w2,Ywq (by omega:0≤k2),Yvo (by omega:i<4294967296),List.set_set,List.length_set,Ywb _ _ hi,show(!((3:Int) == 0))=true from rfl]
 obtain⟨k2,a2,e1,e2,e3,e4⟩:=Yuv (wt Xl) 4611686018427387904 (fun s=>Xc4.B s.1 s.2.1 s.2.2) (fun b s=>Xc3.B b s.1 s.2) (fun k a=>by simp only[Xc4.B,Yxe (Nat.le_refl _),Ywx]) (fun k a=>by simp only[Xc3.B,Yxe (Nat.le_refl _),Ywx]) hs k a hl hk (by omega) (by omega)
 refine⟨k2,a2,e1,by simp only[wA];omega,?_,?_⟩
 ·have:Xc4 (k,0,a)=some (k2,a2):=e3
  simp only[Xeo,this,Option.bind_some]
 ·have:Xc3 a2 (k,0)=some (.inr k2):=e4
  simp only[Xe4,this,Option.bind_some,sel]
theorem Xuh (x_0_0:List (List Int)) (x_0_1:List Xj) (x_1_0:List Xa) (x_1_1:List (List Int)) (x_2_0:List Xa) (x_2_1:List (List Int)) (k:Int) (hk:0≤k) (hw:k+wt Xp ((x_0_0,x_0_1,()),(x_1_0,x_1_1,()),(x_2_0,x_2_1,()),())≤4611686018427387904) (hz:wt Xp ((x_0_0,x_0_1,()),(x_1_0,x_1_1,()),(x_2_0,x_2_1,()),())≤2147483648):∃ k2 y0 y1 y2 y3 y4 y5,k≤k2∧k2≤k+wt Xp ((x_0_0,x_0_1,()),(x_1_0,x_1_1,()),(x_2_0,x_2_1,()),())∧Xh9 ((x_0_0,x_0_1,()),(x_1_0,x_1_1,()),(x_2_0,x_2_1,()),()) k=some (k2,((y0,y1,()),(y2,y3,()),(y4,y5,()),())):=by
 simp only[wA] at hw hz
 obtain⟨k0,y0,l0,u0,w0⟩:=MH.mk (Xp6 x_0_0 k (by omega) (by simp only[wA];omega) (by simp only[wA];omega))
 simp only[wA] at u0
 obtain⟨k1,y1,l1,u1,w1⟩:=MH.mk (Xp4 x_0_1 k0 (by omega) (by simp only[wA];omega) (by simp only[wA];omega))
 simp only[wA] at u1
 obtain⟨k2,y2,l2,u2,w2⟩:=id (Xqb x_1_0 k1 (by omega) (by simp only[wA];omega) (by simp only[wA];omega))
 simp only[wA] at u2
 obtain⟨k3,y3,l3,u3,w3⟩:=id (Xpz x_1_1 k2 (by omega) (by simp only[wA];omega) (by simp only[wA];omega))
 simp only[wA] at u3
 obtain⟨k4,y4,l4,u4,w4⟩:=id (Xqb x_2_0 k3 (by omega) (by simp only[wA];omega) (by simp only[wA];omega))
 simp only[wA] at u4
 obtain⟨k5,y5,l5,u5,w5⟩:=id (Xpz x_2_1 k4 (by omega) (by simp only[wA];omega) (by simp only[wA];omega))
 simp only[wA] at u5
 refine⟨k5,y0,y1,y2,y3,y4,y5,by omega,by simp only[wA];omega,?_⟩
 simp only[Xh9,Xcz,Xgo,w0,w1,w2,w3,w4,w5,Option.bind_some,Yxr]
theorem Xtg (a:(List Bool)) (k:Int) (hk:0≤k) (hw:k+wt (.sl .bool) a≤4611686018427387904) (hz:wt (.sl .bool) a≤2147483648):MK Xiw (wt (.sl .bool) a) a k:=by
 simp only[wA] at hw hz
 have hl:a.length≤2147483648:=by have:=Yli (wt .bool) (fun x=>by simp only[wA];omega) a;omega
 have hs:∀ (k:Int) (i:Nat) (a:(List Bool)) (h:i<a.length),a.length≤2147483648→0≤k→k+wt .bool a[i]≤4611686018427387904→wt .bool a[i]≤2147483648→∃ k2 x2,k≤k2∧k2≤k+wt .bool a[i]∧Xcy.B k (i:Int) a=some (.inl (k2,((i+1:Nat):Int),a.set i x2)):=by
  clear hw hz hl hk k a;intro k i a hi hl hk hw hz
  have hb:inB (i:Int) a.length=true:=Yu7 (by omega) (by omega)
  simp only[wA] at hw hz
  have w1:w64 (k+1)=k+1:=Yxt (by omega) (by omega)
  refine⟨k+1,((k).tmod 3 == 0),by omega,by simp only[wA];omega,?_⟩
  simp only[Xcy.B,Yxm hi,hb,Yw4,toNat_cast,getD_lt _ hi,Option.bind_some,w1,Yvo (by omega:i<4294967296),List.set_set,List.length_set,Ywb _ _ hi,show(!((3:Int) == 0))=true from rfl]
 obtain⟨k2,a2,e1,e2,e3⟩:=Yva (wt .bool) 4611686018427387904 (fun s=>Xcy.B s.1 s.2.1 s.2.2) (fun k a=>by simp only[Xcy.B,Yxe (Nat.le_refl _),Ywx]) hs k a hl hk (by omega) (by omega)
 refine⟨k2,a2,e1,by simp only[wA];omega,?_⟩
 have:Xcy (k,0,a)=some (k2,a2):=e3;simp only[Xiw,this,Option.bind_some]
theorem Xu0 (x_0:List (List Int)) (x_1:List Xj) (k:Int) (hk:0≤k) (hw:k+wt Xh (x_0,x_1,())≤4611686018427387904) (hz:wt Xh (x_0,x_1,())≤2147483648):∃ k2 y0 y1,k≤k2∧k2≤k+wt Xh (x_0,x_1,())∧Xcz (x_0,x_1,()) k=some (k2,(y0,y1,()))∧Xhg (y0,y1,()) k=some k2:=by
 simp only[wA] at hw hz
 obtain⟨k0,y0,l0,u0,w0,v0⟩:=Xp6 x_0 k (by omega) (by simp only[wA];omega) (by simp only[wA];omega)
 simp only[wA] at u0
 obtain⟨k1,y1,l1,u1,w1,v1⟩:=Xp4 x_1 k0 (by omega) (by simp only[wA];omega) (by simp only[wA];omega)
 simp only[wA] at u1
 refine⟨k1,y0,y1,by omega,by simp only[wA];omega,?_,?_⟩
 ·simp only[Xcz,w0,w1,Option.bind_some,Yxr]
 ·simp only[Xhg,v0,v1,Option.bind_some,Ywx,Ywq (by omega:0≤k0),Ywq (by omega:0≤k1)]
theorem Xta (x_0:Int) (x_1_0:List (List Int)) (x_1_1:List Xj) (k:Int) (hk:0≤k) (hw:k+wt Xk (x_0,(x_1_0,x_1_1,()),())≤4611686018427387904) (hz:wt Xk (x_0,(x_1_0,x_1_1,()),())≤2147483648):∃ k2 y0 y1,k≤k2∧k2≤k+wt Xk (x_0,(x_1_0,x_1_1,()),())∧Xig (x_0,(x_1_0,x_1_1,()),()) k=some (k2,(x_0,(y0,y1,()),()))∧Xhk (x_0,(y0,y1,()),()) k=some k2:=by
 simp only[wA] at hw hz
 obtain⟨k0,y0,l0,u0,w0,v0⟩:=Xp6 x_1_0 k (by omega) (by simp only[wA];omega) (by simp only[wA];omega)
 simp only[wA] at u0
 obtain⟨k1,y1,l1,u1,w1,v1⟩:=Xp4 x_1_1 k0 (by omega) (by simp only[wA];omega) (by simp only[wA];omega)
 simp only[wA] at u1
 refine⟨k1,y0,y1,by omega,by simp only[wA];omega,?_,?_⟩
 ·simp only[Xig,Xcz,w0,w1,Option.bind_some,Yxr]
 ·simp only[Xhk,Xhg,v0,v1,Option.bind_some,Ywx,Ywq (by omega:0≤k0),Ywq (by omega:0≤k1)]
def inR (v lo hi:Int):Bool:=cond (decide (v≥lo)) (decide (v≤hi)) false
theorem X3 {v lo hi:Int}:inR v lo hi=true↔lo≤v∧v≤hi:=by
 unfold inR;by_cases h:v≥lo<;>simp[h]<;>omega
theorem Xhh (v lo hi:Int):Xan v lo hi=some (inR v lo hi):=rfl
theorem Xk0 (v lo hi:Int):X7 v lo hi=some (inR v lo hi):=rfl
def X9 (w:List Int):Int:=cond (decide ((w.length:Int)>64)) 2 (cond (w.any fun x=>!inR x 0 65535) 3 0)
theorem Xon (w:List Int):Xfg w=some (X9 w):=by
 simp only[Xfg,X9]
 by_cases hl:w.length≤64
 ·have h:Xla w 0=_:=Ywl w (fun x=>!inR x 0 65535) (3:Int) (fun i hi=>by
   simp only[Xla.B,Yxm hi,Yxb hi,Yw4,toNat_cast,getD_lt _ hi,Xhh,Option.bind_some,Yvo (by omega:i<4294967296)]) (by
   simp only[Xla.B,Yxe (Nat.le_refl _),Ywx])
  rw[h,show decide ((w.length:Int)>64)=false by simp;omega]
  cases w.any fun x=>!inR x 0 65535<;>rfl
 ·rw[show decide ((w.length:Int)>64)=true by simp;omega];rfl
theorem Xss (w:List Int) (hl:w.length≤2147483648):Xek w () (w.length:Int) 0=some (match Ylg (fun x=>!inR x 0 65535) 0 w with | some j=>.inl (j:Int) | none=>.inr ()):=
 Yvx w (f:=fun s=>Xek.B w () (w.length:Int) s) (fun x=>!inR x 0 65535) (fun i hi=>by
  simp only[Xek.B,Yxm hi,Yxb hi,Yw4,toNat_cast,getD_lt _ hi,Xkw,Xk0,Option.bind_some,Yvo (by omega:i<4294967296)]) (by
  simp only[Xek.B,Yxe (Nat.le_refl _),Ywx]) 0 (Nat.zero_le _)
theorem Xfl {α:Type} (p:α→Bool) (l:List α):((some (match Ylg p 0 l with | some j=>.inl (j:Int) | none=>.inr ():Int⊕Unit)).bind fun o=>sel o (fun b=>some b) (fun c=>some (-1))).bind (fun r=>some (decide (r≥0)))=some (l.any p):=by
 cases h:Ylg p 0 l with
 |none=>rw[Yp7.1 h];rfl
 |some j=>
  have:l.any p=true:=by
   cases ha:l.any p with
   |true=>rfl
   |false=>rw[Yp7.2 ha] at h;cases h
  rw[this];simp[sel]
theorem Xpc (w:List Int):Xd2 w=some (X9 w):=by
 simp only[Xd2,X9,Xkg,Xfv]
 by_cases hl:w.length≤64
 ·rw[show decide ((w.length:Int)>64)=false by simp;omega,Xss w (by omega),Xfl]
  simp only[Ywx,Option.bind_some]
  cases w.any fun x=>!inR x 0 65535<;>rfl
 ·rw[show decide ((w.length:Int)>64)=true by simp;omega];rfl
theorem Xeg {w:List Int} (h:X9 w=0):w.length≤64∧∀ x∈w,0≤x∧x≤65535:=by
 unfold X9 at h
 cases h1:decide ((w.length:Int)>64) with
 |true=>rw[h1] at h;cases h
 |false=>
  rw[h1] at h
  cases h2:(w.any fun x=>!inR x 0 65535) with
  |true=>rw[h2] at h;cases h
  |false=>
   refine⟨by simp at h1;omega,fun x hx=>?_⟩
   have:=List.any_eq_false.1 h2 x hx;simp only[Bool.not_eq_true,Bool.not_eq_false'] at this
   exact X3.1 (by simpa using this)
def Xa5 (x:Bool×Int×List Int×Unit):Int:=cond (cond x.1 (cond (x.2.1 != 0) true (decide ((x.2.2.1.length:Int)>0))) false) 1 (cond (!inR x.2.1 0 46) 3 (X9 x.2.2.1))
theorem Xtv (x:Bool×Int×List Int×Unit):Xi8 x=some (Xa5 x):=by
 simp only[Xi8,Xa5,Xhh,Xon,Option.bind_some];simp only[Yvh]
def Xmm (l:List (Bool×Int×List Int×Unit)):Int:=cond (decide ((l.length:Int)>120)) 2 (Yeg Xa5 l)
theorem Xaw (n:Int) (g:Option Int):((some (cond (n != 0) (.inl n) (.inr ()):Int⊕Unit)).bind fun o=>sel o (fun b=>some b) (fun _=>g))=cond (n != 0) (some n) g:=by
 cases (n != 0)<;>rfl
theorem Xa2 (n:Int):cond (n != 0) (some n) (some 0)=some n:=by
 cases h:(n != 0)
 ·have:n=0:=by simpa using h
  rw[this];rfl
 ·rfl
theorem Xug (l:List (Bool×Int×List Int×Unit)):Xer l=some (Xmm l):=by
 simp only[Xer,Xmm]
 by_cases hl:l.length≤120
 ·have h:Xgk l 0=_:=Yus l Xa5 (fun i hi=>by
   simp only[Xgk.B,Yxm hi,Yxb hi,Yw4,toNat_cast,getD_lt _ hi,Xtv,Option.bind_some,Yvo (by omega:i<4294967296)]) (by
   simp only[Xgk.B,Yxe (Nat.le_refl _),Ywx])
  rw[h,show decide ((l.length:Int)>120)=false by simp;omega,Ywx,Ywx,Xaw,Xa2]
 ·rw[show decide ((l.length:Int)>120)=true by simp;omega];rfl
theorem Xme {α:Type} {xs:List α} (h:xs.length≤2147483648):Ymd xs=some xs:=by
 unfold Ymd;rw[show decide (xs.length≤2147483648)=true by simp;omega];rfl
theorem Xat {n:Nat} (h:n≤2147483648):decide (n≤2147483648)=true:=by simp;omega
def Xm5 (b:UInt8):Bool:=cond (decide ((b.toNat:Int)<97)) true (decide ((b.toNat:Int)>122))
def Xfb (s:List UInt8):Int:=cond (s.any Xm5) 5 (cond (s == []) 5 (cond (decide ((s.length:Int)>4)) 2 0))
theorem Xst (s:List UInt8) (hl:s.length≤2147483648):Xna s=some (Xfb s):=by
 have h:Xlh s 0=_:=Ywl s Xm5 (5:Int) (fun i hi=>by
  simp only[Xlh.B,Yxm hi,Yxb hi,Yw4,toNat_cast,getD_lt _ hi,Option.bind_some,Yvo (by omega:i<4294967296),Xm5,Yvm]) (by
  simp only[Xlh.B,Yxe (Nat.le_refl _),Ywx])
 simp only[Xna,h,Option.bind_some,Xfb];cases s.any Xm5
 ·simp only[Ywx,Ywu,Yvh]
 ·rfl
theorem Xs7 (s:List UInt8) (hl:s.length≤2147483648):Xih s=some (Xfb s):=by
 have h:Xfz s (s.length:Int) 0=_:=Ywl s Xm5 (5:Int) (fun i hi=>by
  simp only[Xfz.B,Yxm hi,Yxb hi,Yw4,toNat_cast,getD_lt _ hi,Option.bind_some,Yvo (by omega:i<4294967296),Xm5,Yvm]) (by
  simp only[Xfz.B,Yxe (Nat.le_refl _),Ywx])
 simp only[Xih,h,Option.bind_some,Xfb]
 cases s with
 |nil=>rfl
 |cons b s=>
  rw[show((b::s:List UInt8) == [])=false from rfl];simp only[Ywx];cases (b::s).any Xm5
  ·simp only[Ywx,Ywu,Yvh]
  ·rfl
theorem Xpb {s:List UInt8} (h:Xfb s=0):s≠[]∧s.length≤4∧s.any Xm5=false:=by
 unfold Xfb at h
 cases h1:s.any Xm5 with
 |true=>rw[h1] at h;cases h
 |false=>
  rw[h1] at h
  cases h2:(s == []) with
  |true=>rw[h2] at h;cases h
  |false=>
   rw[h2] at h
   cases h3:decide ((s.length:Int)>4) with
   |true=>rw[h3] at h;cases h
   |false=>exact⟨(by intro e;subst e;cases h2),(by simp at h3;omega),rfl⟩
def Xm9:List Int→List Int→Bool
 |_,[]=>false
 |a,x::l=>a.contains x || Xm9 (a++[x]) l
theorem Xdf {α:Type} (p:α→Bool) (l:List α) {o:Option (Int⊕Unit)} (h:o=some (match Ylg p 0 l with | some j=>.inl (j:Int) | none=>.inr ())):(o.bind fun o=>sel o (fun b=>some b) (fun c=>some (-1))).bind (fun r=>some (decide (r≥0)))=some (l.any p):=by
 rw[h];exact Xfl p l
theorem Xo8 (l:List Int) (v:Int) (hl:l.length≤2147483648):Xcd l v=some (l.contains v):=by
 have h:Xgj l v (l.length:Int) 0=_:=Yvx l (fun x=>v == x) (fun i hi=>by
  simp only[Xgj.B,Yxm hi,Yxb hi,Yw4,toNat_cast,getD_lt _ hi,Option.bind_some,Yvo (by omega:i<4294967296)]) (by
  simp only[Xgj.B,Yxe (Nat.le_refl _),Ywx]) 0 (Nat.zero_le _)
 simp only[Xcd,Xkj];rw[Xdf _ _ h,List.any_beq,List.drop_zero]
theorem Xr3 (l:List Int) (v:Int) (hl:l.length≤2147483648):Xlu l v=some (l.contains v):=by
 have h:Xk6 l v 0=_:=Ywl l (fun x=>x == v) true (fun i hi=>by
  simp only[Xk6.B,Yxm hi,Yxb hi,Yw4,toNat_cast,getD_lt _ hi,Option.bind_some,Yvo (by omega:i<4294967296)]) (by
  simp only[Xk6.B,Yxe (Nat.le_refl _),Ywx])
 simp only[Xlu,h,Option.bind_some];rw[←List.any_beq,show(fun x:Int=>x == v)=fun x=>v == x from funext fun x=>Bool.beq_comm]
 cases l.any fun x=>v == x<;>rfl
def Xmy (n:Int):Int:=w64 ((w64 ((w64 (n+8))-1)).tdiv 8)
def Xhl (x:Xa):Int:=cond (!inR x.2.1 1 60) 3 (cond (!inR x.2.2.1 0 32) 3 (cond ((x.2.2.2.1.length:Int) != Xmy x.2.2.1) 1 (cond (x.2.2.2.1.any fun b=>!inR b 0 19) 3 (cond (Xm9 [] x.2.2.2.1) 7 0))))
theorem Xry (x:Xa) (hl:x.2.2.2.1.length≤2147483648) (n:Nat) (hn:n<x.2.2.2.1.length):Xik x (n:Int) 0=some (cond ((x.2.2.2.1.take n).contains x.2.2.2.1[n]) (.inl 7) (.inr ())):=by
 have h:Xik x (n:Int) 0=_:=Ywl (x.2.2.2.1.take n) (fun y=>y == x.2.2.2.1[n]) (7:Int) (fun i hi=>by
  have hi':i<n:=by simp at hi;omega
  simp only[Xik.B,Yxm hi',Yxb (by omega:i<x.2.2.2.1.length),Yxb hn,Yw4,toNat_cast,getD_lt _ (by omega:i<x.2.2.2.1.length),getD_lt _ hn,Option.bind_some,Yvo (by omega:i<4294967296),List.getElem_take]) (by
  have:(x.2.2.2.1.take n).length=n:=by simp;omega
  rw[this]
  simp only[Xik.B,Yxe (Nat.le_refl _),Ywx])
 rw[h,←List.any_beq,show(fun y:Int=>y == x.2.2.2.1[n])=fun y=>x.2.2.2.1[n] == y from funext fun y=>Bool.beq_comm]
theorem Xjh (l:List Int):∀ (k n:Nat),n+k=l.length→Yba (τ:=Unit) (fun i y _=>cond ((l.take i).contains y) (.inr (.inl 7)) (.inl ())) (fun _=>(.inr ():Int⊕Unit)) n (l.drop n) ()=cond (Xm9 (l.take n) (l.drop n)) (.inl 7) (.inr ())
 |0,n,h=>by
  have:n=l.length:=by omega
  subst this
  simp[Yba,Xm9]
 |k+1,n,h=>by
  have hn:n<l.length:=by omega
  rw[List.drop_eq_getElem_cons hn];simp only[Yba,Xm9]
  have e:l.take n++[l[n]]=l.take (n+1):=by simp
  rw[e];cases (l.take n).contains l[n]
  ·simp only[Ywx,Yw2,Bool.false_or];exact Xjh l k (n+1) (by omega)
  ·rfl
theorem Xrz (x:Xa) (hl:x.2.2.2.1.length≤2147483648):Xgz x=some (Xhl x):=by
 have h0:Xld x 0=_:=Ywl x.2.2.2.1 (fun b=>!inR b 0 19) (3:Int) (fun i hi=>by
  simp only[Xld.B,Yxm hi,Yxb hi,Yw4,toNat_cast,getD_lt _ hi,Xhh,Option.bind_some,Yvo (by omega:i<4294967296)]) (by
  simp only[Xld.B,Yxe (Nat.le_refl _),Ywx])
 have h1:Xjd x 0=some (cond (Xm9 [] x.2.2.2.1) (.inl 7) (.inr ())):=by
  have:=Yfj (τ:=Unit) x.2.2.2.1 (f:=fun s=>Xjd.B x s) (fun i _=>(i:Int)) (fun i y _=>cond ((x.2.2.2.1.take i).contains y) (.inr (.inl 7)) (.inl ())) (fun _=>(.inr ():Int⊕Unit)) (fun i hi t=>by
   simp only[Xjd.B,Yxm hi,Yw4,Xry x hl i hi,Option.bind_some,Yvo (by omega:i<4294967296)]
   cases (x.2.2.2.1.take i).contains x.2.2.2.1[i]<;>rfl) (fun t=>by
   simp only[Xjd.B,Yxe (Nat.le_refl _),Ywx]) () (s:=0) rfl
  refine Eq.trans this ?_
  congr 1
  exact Xjh x.2.2.2.1 x.2.2.2.1.length 0 (by omega)
 have h8:(!((8:Int) == 0))=true:=rfl;simp only[Xgz,Xnf,Xnd,Xhh,Option.bind_some,h8,Yw4,h0,h1,Xhl,Xmy,Yvh];cases inR x.2.1 1 60
 ·rfl
 ·cases inR x.2.2.1 0 32
  ·rfl
  ·simp only[Bool.not_true,Ywx]
   cases ((x.2.2.2.1.length:Int) != w64 ((w64 ((w64 (x.2.2.1+8))-1)).tdiv 8))
   ·simp only[Ywx]
    cases x.2.2.2.1.any fun b=>!inR b 0 19
    ·simp only[Ywx,Ywu]
     cases Xm9 [] x.2.2.2.1<;>rfl
    ·rfl
   ·rfl
theorem Xsv (x:Xa) (hl:x.2.2.2.1.length≤2147483648):Xdn x=some (Xhl x):=by
 have h0:Xi6 x.2.2.2.1 ()=some (x.2.2.2.1.any fun b=>!inR b 0 19):=by
  have h:Xf2 x.2.2.2.1 () (x.2.2.2.1.length:Int) 0=_:=Yvx x.2.2.2.1 (fun b=>!inR b 0 19) (fun i hi=>by
   simp only[Xf2.B,Yxm hi,Yxb hi,Yw4,toNat_cast,getD_lt _ hi,Xkn,Xk0,Option.bind_some,Yvo (by omega:i<4294967296)]) (by
   simp only[Xf2.B,Yxe (Nat.le_refl _),Ywx]) 0 (Nat.zero_le _)
  simp only[Xi6,Xgb];exact Xdf _ _ h
 have h1:Xdy x x.2.2.2.1 (x.2.2.2.1.length:Int) 0=some (cond (Xm9 [] x.2.2.2.1) (.inl 7) (.inr ())):=by
  have:=Yfj (τ:=Unit) x.2.2.2.1 (f:=fun s=>Xdy.B x x.2.2.2.1 (x.2.2.2.1.length:Int) s) (fun i _=>(i:Int)) (fun i y _=>cond ((x.2.2.2.1.take i).contains y) (.inr (.inl 7)) (.inl ())) (fun _=>(.inr ():Int⊕Unit)) (fun i hi t=>by
   have e1:(decide ((0:Int)≤(i:Int))&&decide ((i:Int)≤(x.2.2.2.1.length:Int)))=true:=by simp;omega
   have e2:=Xo8 (x.2.2.2.1.take i) x.2.2.2.1[i] (by simp;omega)
   simp only[Xdy.B,Yxm hi,Yxb hi,Yw4,toNat_cast,getD_lt _ hi,e1,List.drop_zero,e2,Option.bind_some,Yvo (by omega:i<4294967296)]
   cases (x.2.2.2.1.take i).contains x.2.2.2.1[i]<;>rfl) (fun t=>by
   simp only[Xdy.B,Yxe (Nat.le_refl _),Ywx]) () (s:=0) rfl
  refine Eq.trans this ?_
  congr 1
  exact Xjh x.2.2.2.1 x.2.2.2.1.length 0 (by omega)
 have h8:(!((8:Int) == 0))=true:=rfl;simp only[Xdn,Xkl,Xbs,Xk0,Option.bind_some,h8,Yw4,h0,h1,Xhl,Xmy,Yvh];cases inR x.2.1 1 60
 ·rfl
 ·cases inR x.2.2.1 0 32
  ·rfl
  ·simp only[Bool.not_true,Ywx]
   cases ((x.2.2.2.1.length:Int) != w64 ((w64 ((w64 (x.2.2.1+8))-1)).tdiv 8))
   ·simp only[Ywx]
    cases x.2.2.2.1.any fun b=>!inR b 0 19
    ·simp only[Ywx]
     cases Xm9 [] x.2.2.2.1<;>rfl
    ·rfl
   ·rfl
def Xh0 (prev:Option (List UInt8)) (e:Xg):Int:=
 cond (Xfb e.1 != 0) (Xfb e.1) (cond (!inR e.2.1 0 9) 3 (match prev with | none=>0 | some p=>cond (leB p e.1) 0 1))
def Xe8:Option (List UInt8)→List Xg→Int
 |_,[]=>0
 |p,e::l=>cond (Xh0 p e != 0) (Xh0 p e) (Xe8 (some e.1) l)
def Xm7 (x:Xa):Int:=cond (decide ((x.2.2.2.2.1.length:Int)>6)) 2 (Xe8 none x.2.2.2.2.1)
theorem Xoh:∀ (a b:List UInt8),(leB a b || a == b) = !leB b a
 |[],[]=>rfl
 |[],_::_=>rfl
 |_::_,[]=>by simp[leB]
 |x::a,y::b=>by
  have ih:=Xoh a b;simp only[leB]
  by_cases e:x=y
  ·subst e
   have h:¬ x<x:=UInt8.lt_irrefl x;simp only[h,decide_false,Bool.false_or,beq_self_eq_true,Bool.true_and]
   rw[←ih,show(x::a == x::b)=(a == b) by simp]
  ·have e':¬ y=x:=fun h=>e h.symm
   rw[show(x == y)=false by simp[e],show(y == x)=false by simp[e'],show(x::a == y::b)=false by simp[e]]
   simp only[Bool.false_and,Bool.or_false]
   by_cases h1:x<y
   ·have:¬ y<x:=fun h=>absurd (UInt8.lt_trans h1 h) (UInt8.lt_irrefl x)
    simp[h1,this]
   ·have:y<x:=by
     rw[UInt8.lt_iff_toNat_lt] at *;have:x.toNat≠y.toNat:=fun h=>e (UInt8.toNat_inj.1 h);omega
    simp[h1,this]
def Xei (l:List Xg):Nat→Option (List UInt8)
 |0=>none
 |j+1=>(l[j]?).map (·.1)
theorem Xjt (l:List Xg):∀ (k n:Nat),n+k=l.length→Yba (τ:=Unit) (fun i e _=>cond (Xh0 (Xei l i) e != 0) (.inr (.inl (Xh0 (Xei l i) e))) (.inl ())) (fun _=>(.inr ():Int⊕Unit)) n (l.drop n) () =
  cond (Xe8 (Xei l n) (l.drop n) != 0) (.inl (Xe8 (Xei l n) (l.drop n))) (.inr ())
 |0,n,h=>by
  have:n=l.length:=by omega
  subst this
  simp[Yba,Xe8]
 |k+1,n,h=>by
  have hn:n<l.length:=by omega
  have hp:Xei l (n+1)=some l[n].1:=by simp[Xei,hn]
  have ih:=Xjt l k (n+1) (by omega)
  rw[hp] at ih;rw[List.drop_eq_getElem_cons hn];simp only[Yba,Xe8];generalize Xei l n=p;cases hc:(Xh0 p l[n] != 0)
  ·simp only[Ywx,Yw2];exact ih
  ·simp only[Yw4,Ywu,hc]
theorem Xt7 (x:Xa) (hb:Bd Xb x):Xjg x=some (Xm7 x):=by
 simp only[Xjg,Xm7]
 cases hd:decide ((x.2.2.2.2.1.length:Int)>6) with
 |true=>rfl
 |false=>
  have hl:x.2.2.2.2.1.length≤6:=by simp at hd;omega
  have h:Xjk x 0=some (cond (Xe8 none x.2.2.2.2.1 != 0) (.inl (Xe8 none x.2.2.2.2.1)) (.inr ())):=by
   have:=Yfj (τ:=Unit) x.2.2.2.2.1 (f:=fun s=>Xjk.B x s) (fun i _=>(i:Int)) (fun i e _=>cond (Xh0 (Xei x.2.2.2.2.1 i) e != 0) (.inr (.inl (Xh0 (Xei x.2.2.2.2.1 i) e))) (.inl ())) (fun _=>(.inr ():Int⊕Unit)) (fun i hi t=>by
    have hn:(x.2.2.2.2.1[i]).1.length≤2147483648:=(hb.2.2.2.2.1.2 _ (List.getElem_mem hi)).1
    simp only[Xjk.B,Yxm hi,Yxb hi,Yw4,toNat_cast,getD_lt _ hi,Xhh,Xst _ hn,Option.bind_some,Yvo (by omega:i<4294967296)]
    simp only[Xh0];cases hc:(Xfb (x.2.2.2.2.1[i]).1 != 0)
    ·simp only[Ywx]
     cases inR (x.2.2.2.2.1[i]).2.1 0 9
     ·rfl
     ·simp only[Bool.not_true,Ywx]
      cases i with
      |zero=>rfl
      |succ j=>
       have hj:j<x.2.2.2.2.1.length:=by omega
       have hw:w64 (((j+1:Nat):Int)-1)=(j:Int):=by rw[Yq5 (by omega) (by omega)];omega
       rw[show decide (((j+1:Nat):Int)>0)=true by simp]
       simp only[Yw4,hw,Yxb hj,toNat_cast,getD_lt _ hj,Xei,List.getElem?_eq_getElem hj,Option.map_some,Xoh]
       cases leB (x.2.2.2.2.1[j]).1 (x.2.2.2.2.1[j+1]).1<;>rfl
    ·simp only[Yw4,hc];rfl) (fun t=>by
    simp only[Xjk.B,Yxe (Nat.le_refl _),Ywx]) () (s:=0) rfl
   refine Eq.trans this ?_
   congr 1
   exact Xjt x.2.2.2.2.1 x.2.2.2.2.1.length 0 (by omega)
  rw[h,Ywx,Ywx,Xaw,Xa2]
theorem Xt3 (x:Xa) (hb:Bd Xb x):Xel x=some (Xm7 x):=by
 simp only[Xel,Xm7]
 cases hd:decide ((x.2.2.2.2.1.length:Int)>6) with
 |true=>rfl
 |false=>
  have hl:x.2.2.2.2.1.length≤6:=by simp at hd;omega
  have h:Xd8 x x.2.2.2.2.1 (x.2.2.2.2.1.length:Int) 0=some (cond (Xe8 none x.2.2.2.2.1 != 0) (.inl (Xe8 none x.2.2.2.2.1)) (.inr ())):=by
   have:=Yfj (τ:=Unit) x.2.2.2.2.1 (f:=fun s=>Xd8.B x x.2.2.2.2.1 (x.2.2.2.2.1.length:Int) s) (fun i _=>(i:Int)) (fun i e _=>cond (Xh0 (Xei x.2.2.2.2.1 i) e != 0) (.inr (.inl (Xh0 (Xei x.2.2.2.2.1 i) e))) (.inl ())) (fun _=>(.inr ():Int⊕Unit)) (fun i hi t=>by
    have hn:(x.2.2.2.2.1[i]).1.length≤2147483648:=(hb.2.2.2.2.1.2 _ (List.getElem_mem hi)).1
    simp only[Xd8.B,Yxm hi,Yxb hi,Yw4,toNat_cast,getD_lt _ hi,Xk0,Xs7 _ hn,Option.bind_some,Yvo (by omega:i<4294967296)]
    simp only[Xh0];cases hc:(Xfb (x.2.2.2.2.1[i]).1 != 0)
    ·simp only[Ywx]
     cases inR (x.2.2.2.2.1[i]).2.1 0 9
     ·rfl
     ·simp only[Bool.not_true,Ywx]
      cases i with
      |zero=>rfl
      |succ j=>
       have hj:j<x.2.2.2.2.1.length:=by omega
       have hw:w64 (((j+1:Nat):Int)-1)=(j:Int):=by rw[Yq5 (by omega) (by omega)];omega
       rw[show decide (((j+1:Nat):Int)>0)=true by simp]
       simp only[Yw4,hw,Yxb hj,toNat_cast,getD_lt _ hj,Xei,List.getElem?_eq_getElem hj,Option.map_some]
       cases leB (x.2.2.2.2.1[j]).1 (x.2.2.2.2.1[j+1]).1<;>rfl
    ·simp only[Yw4,hc];rfl) (fun t=>by
    simp only[Xd8.B,Yxe (Nat.le_refl _),Ywx]) () (s:=0) rfl
   refine Eq.trans this ?_
   congr 1
   exact Xjt x.2.2.2.2.1 x.2.2.2.2.1.length 0 (by omega)
  rw[h,Ywx,Ywx,Xaw,Xa2]
def Xv (x:Xa):Int:=
 cond (!inR x.1 0 2) 1 (cond (cond (cond (x.1 != 1) (cond (cond (x.2.1 != 0) true (x.2.2.1 != 0)) true (decide ((x.2.2.2.1.length:Int)>0))) false) true (cond (x.1 != 2) (decide ((x.2.2.2.2.1.length:Int)>0)) false)) 1
  (cond (x.1 == 1) (Xhl x) (cond (x.1 == 2) (Xm7 x) 0)))
theorem Xqz (x:Xa) (hb:Bd Xb x):Xhx x=some (Xv x):=by
 simp only[Xhx,Xv,Xhh,Xrz x hb.2.2.2.1.1,Xt7 x hb,Option.bind_some];simp only[Yvh]
theorem Xoc (n:Nat):decide ((n:Int)>0) = !((n:Int) == 0):=by
 rw[Bool.eq_iff_iff];simp only[decide_eq_true_eq,Bool.not_eq_true',beq_eq_false_iff_ne,ne_eq];omega
theorem not_bne (a b:Int):(a == b) = !(a != b):=(Bool.not_not _).symm
theorem Xqx (x:Xa) (hb:Bd Xb x):Xem x=some (Xv x):=by
 simp only[Xem,Xv,Xk0,Xsv x hb.2.2.2.1.1,Xt3 x hb,Option.bind_some];cases inR x.1 0 2
 ·rfl
 ·simp only[Bool.not_true,Ywx]
  have e1:(cond (cond (x.2.1 == 0) (x.2.2.1 == 0) false) ((x.2.2.2.1.length:Int) == 0) false) = !(cond (cond (x.2.1 != 0) true (x.2.2.1 != 0)) true (decide ((x.2.2.2.1.length:Int)>0))):=by
   rw[show(x.2.1 != 0) = !(x.2.1 == 0) from rfl,show(x.2.2.1 != 0) = !(x.2.2.1 == 0) from rfl,Xoc]
   cases (x.2.1 == 0)<;>cases (x.2.2.1 == 0)<;>cases ((x.2.2.2.1.length:Int) == 0)<;>rfl
  have e2:(!((x.2.2.2.2.1.length:Int) == 0))=decide ((x.2.2.2.2.1.length:Int)>0):=(Xoc _).symm;rw[e1,e2,Bool.not_not]
  cases (cond (cond (x.2.1 != 0) true (x.2.2.1 != 0)) true (decide ((x.2.2.2.1.length:Int)>0)))<;>cases h1:(x.1 != 1)<;>cases h2:(x.1 != 2)<;>cases hd:decide ((x.2.2.2.2.1.length:Int)>0)<;>simp only[Yw4,Ywx]
  all_goals (rw[not_bne x.1 1,not_bne x.1 2,h1,h2])
  all_goals simp only[Bool.not_true,Bool.not_false,Yw4,Ywx]
  all_goals first | rfl | skip
  all_goals (
   have hz:x.2.2.2.2.1=[]:=by simp at hd;exact hd
   have:Xm7 x=0:=by simp[Xm7,hz,Xe8]
   rw[this])
def X4 (l:List Xa):Int:=cond (decide ((l.length:Int)>10)) 2 (Yeg Xv l)
theorem Xum (l:List Xa) (hb:Bd (.sl Xb) l):Xkc l=some (X4 l):=by
 simp only[Xkc,X4]
 cases hd:decide ((l.length:Int)>10) with
 |true=>rfl
 |false=>
  have hl:l.length≤10:=by simp at hd;omega
  have h:Xlg l 0=_:=Yus l Xv (fun i hi=>by
   simp only[Xlg.B,Yxm hi,Yxb hi,Yw4,toNat_cast,getD_lt _ hi,Xqz _ (hb.2 _ (List.getElem_mem hi)),Option.bind_some,Yvo (by omega:i<4294967296)]) (by
   simp only[Xlg.B,Yxe (Nat.le_refl _),Ywx])
  rw[h,Ywx,Ywx,Xaw,Xa2]
theorem Xsw (l:List Xa) (hb:Bd (.sl Xb) l):Xeq l=some (X4 l):=by
 simp only[Xeq,X4]
 cases hd:decide ((l.length:Int)>10) with
 |true=>rfl
 |false=>
  have hl:l.length≤10:=by simp at hd;omega
  have h:Xgf l (l.length:Int) 0=_:=Yus l Xv (fun i hi=>by
   simp only[Xgf.B,Yxm hi,Yxb hi,Yw4,toNat_cast,getD_lt _ hi,Xqx _ (hb.2 _ (List.getElem_mem hi)),Option.bind_some,Yvo (by omega:i<4294967296)]) (by
   simp only[Xgf.B,Yxe (Nat.le_refl _),Ywx])
  rw[h,Ywx,Ywx,Xaw,Xa2]
def Xw (l:List Xa):List Int:=l.flatMap fun x=>x.2.2.2.1
theorem Xar {x:Xa} (h:Xv x=0):x.2.2.2.1.length≤4∧(∀ b∈x.2.2.2.1,0≤b∧b≤19)∧(x.1≠1→x.2.2.2.1=[])∧(x.1=1→Xhl x=0):=by
 unfold Xv at h
 cases h1:inR x.1 0 2 with
 |false=>rw[h1] at h;cases h
 |true=>
  rw[h1] at h;simp only[Bool.not_true,Ywx] at h
  by_cases e:x.1=1
  ·rw[show(x.1 != 1)=false by simp[e]] at h
   cases h2:cond (cond false (cond (cond (x.2.1 != 0) true (x.2.2.1 != 0)) true (decide ((x.2.2.2.1.length:Int)>0))) false) true (cond (x.1 != 2) (decide ((x.2.2.2.2.1.length:Int)>0)) false) with
   |true=>rw[h2] at h;cases h
   |false=>
    rw[h2,show(x.1 == 1)=true by simp[e]] at h
    simp only[Ywx,Yw4] at h;have hf:=h;unfold Xhl at h
    cases h3:inR x.2.1 1 60 with
    |false=>rw[h3] at h;cases h
    |true=>
     rw[h3] at h
     cases h4:inR x.2.2.1 0 32 with
     |false=>rw[h4] at h;cases h
     |true=>
      rw[h4] at h;simp only[Bool.not_true,Ywx] at h
      cases h5:((x.2.2.2.1.length:Int) != Xmy x.2.2.1) with
      |true=>rw[h5] at h;cases h
      |false=>
       rw[h5] at h;simp only[Ywx] at h
       cases h6:(x.2.2.2.1.any fun b=>!inR b 0 19) with
       |true=>rw[h6] at h;cases h
       |false=>
        refine⟨?_,fun b hb=>?_,fun h=>absurd e h,fun _=>hf⟩
        ·have hs:=X3.1 h4
         have:(x.2.2.2.1.length:Int)=Xmy x.2.2.1:=by simpa using h5
         unfold Xmy at this
         rw[Yq5 (x:=x.2.2.1+8) (by omega) (by omega),Yq5 (x:=x.2.2.1+8-1) (by omega) (by omega),Int.tdiv_eq_ediv_of_nonneg (by omega),Yq5 (by omega) (by omega)] at this
         omega
        ·have:=List.any_eq_false.1 h6 b hb
         exact X3.1 (by simpa using this)
  ·rw[show(x.1 != 1)=true by simp[e]] at h
   cases h2:decide ((x.2.2.2.1.length:Int)>0) with
   |true=>
    rw[h2] at h;simp only[Yw4,Yvm] at h
    cases h
   |false=>
    have hz:x.2.2.2.1=[]:=by simp at h2;exact h2
    exact⟨by simp[hz],by simp[hz],fun _=>hz,fun h=>absurd h e⟩
theorem Xao {α:Type} {c:α→Int}:∀ {l:List α},Yeg c l=0↔∀ x∈l,c x=0
 |[]=>by simp[Yeg]
 |x::l=>by
  simp only[Yeg,List.mem_cons,forall_eq_or_imp];cases h:(c x != 0)
  ·have:c x=0:=by simpa using h
   simp only[Ywx,this,true_and];exact Xao
  ·have:c x≠0:=by simpa using h
   simp only[Yw4];exact⟨fun e=>absurd e this,fun e=>absurd e.1 this⟩
theorem Xac {l:List Xa} (h:X4 l=0):l.length≤10∧∀ x∈l,Xv x=0:=by
 unfold X4 at h
 cases h1:decide ((l.length:Int)>10) with
 |true=>rw[h1] at h;cases h
 |false=>rw[h1] at h;exact⟨by simp at h1;omega,Xao.1 h⟩
structure Xa8 (l:List Xa):Prop where
 len:l.length≤10
 blk:∀ x∈l,x.2.2.2.1.length≤4∧∀ b∈x.2.2.2.1,0≤b∧b≤19
theorem Xa8.of {l:List Xa} (h:X4 l=0):Xa8 l:=
 ⟨(Xac h).1,fun x hx=>⟨(Xar ((Xac h).2 x hx)).1,(Xar ((Xac h).2 x hx)).2.1⟩⟩
theorem Xnr:∀ {l:List Xa},(∀ x∈l,x.2.2.2.1.length≤4)→(Xw l).length≤4*l.length
 |[],h=>by simp[Xw]
 |x::l,h=>by
  have h1:=h x (List.mem_cons_self ..);have:=Xnr (l:=l) fun y hy=>h y (List.mem_cons_of_mem _ hy);simp only[Xw,List.flatMap_cons,List.length_append,List.length_cons] at *;omega
theorem Xa8.all {l:List Xa} (h:Xa8 l):(Xw l).length≤40∧∀ b∈Xw l,0≤b∧b≤19:=by
 refine⟨by have:=Xnr (l:=l) fun x hx=>(h.blk x hx).1;have:=h.len;omega,fun b hb=>?_⟩
 obtain⟨x,hx,hb⟩:=List.mem_flatMap.1 hb;exact(h.blk x hx).2 b hb
theorem Xuk (l:List Xa) (at_:Int) (i:Nat) (hi:i<l.length) (n:Nat) (hb:l[i].2.2.2.1.length≤4) (hn:n≤1000):Xiz l at_ (i:Int) ((n:Int),0)=some (((n+l[i].2.2.2.1.count at_:Nat):Int)):=by
 have h:=Ym3 (τ:=Nat) l[i].2.2.2.1 (f:=fun s=>Xiz.B l at_ (i:Int) s.1 s.2) (fun k m=>((m:Int),(k:Int))) (fun _ y m=>.inl (m+(if y == at_ then 1 else 0))) (fun m=>((m:Nat):Int)) (fun k m=>m≤n+k)
  (fun k hk m hm=>by
   simp only[Xiz.B,Yxb hi,Yw4,toNat_cast,getD_lt _ hi,Option.bind_some,Yxm hk,Yxb hk,getD_lt _ hk,Yvo (by omega:k<4294967296),Yvo (by omega:m<4294967296),sel]
   cases h:(l[i].2.2.2.1[k] == at_)<;>simp[h])
  (fun k hk m m' hm e=>by cases e;split<;>omega)
  (fun m hm=>by
   simp only[Xiz.B,Yxb hi,Yw4,toNat_cast,getD_lt _ hi,Option.bind_some,Yxe (Nat.le_refl _),Ywx]) n (by omega) (s:=((n:Int),0)) rfl
 refine Eq.trans h ?_;rw[Yfm]
 congr 2
 have:∀ (l:List Int) (m:Nat),l.foldl (fun t y=>t+(if y == at_ then 1 else 0)) m=m+l.count at_:=by
  intro l
  induction l with
  |nil=>intro m;simp
  |cons y l ih=>intro m;rw[List.foldl_cons,ih,List.count_cons];omega
 exact this _ _
theorem Xpq (l:List Xa) (hok:Xa8 l) (at_:Int):Xjv l at_=some ((((Xw l).count at_:Nat):Int)):=by
 have h:=Ym3 (τ:=Nat) l (f:=fun s=>Xka.B l at_ s.1 s.2) (fun k m=>((m:Int),(k:Int))) (fun _ x m=>.inl (m+x.2.2.2.1.count at_)) (fun m=>((m:Nat):Int)) (fun k m=>m≤4*k)
  (fun k hk m hm=>by
   have hl:=hok.len
   simp only[Xka.B,Yxm hk,Yw4,Xuk l at_ k hk m (hok.blk _ (List.getElem_mem hk)).1 (by omega),Option.bind_some,Yvo (by omega:k<4294967296),sel])
  (fun k hk m m' hm e=>by cases e;have:=(hok.blk _ (List.getElem_mem hk)).1;have:=List.count_le_length (a:=at_) (l:=l[k].2.2.2.1);omega)
  (fun m hm=>by simp only[Xka.B,Yxe (Nat.le_refl _),Ywx]) 0 (by omega) (s:=(0,0)) rfl
 have h':Xka l at_ (0,0)=_:=h;simp only[Xjv,h',Option.bind_some];rw[Yfm]
 have:∀ (l:List Xa) (m:Nat),l.foldl (fun t x=>t+x.2.2.2.1.count at_) m=m+(Xw l).count at_:=by
  intro l
  induction l with
  |nil=>intro m;simp[Xw]
  |cons y l ih=>intro m;rw[List.foldl_cons,ih];simp only[Xw,List.flatMap_cons,List.count_append];omega
 rw[this,Nat.zero_add]
def r20:List Int:=(List.range 20).map Int.ofNat
theorem Xmz:r20.length=20:=by simp[r20]
theorem Xh3 (k:Nat) (h:k<r20.length):r20[k]=(k:Int):=by simp[r20]
theorem Xms (a:Int):a∈r20↔0≤a∧a≤19:=by
 simp only[r20,List.mem_map,List.mem_range]
 constructor
 ·rintro⟨k,h1,rfl⟩;simp;omega
 ·intro h;exact⟨a.toNat,by omega,by simp;omega⟩
def Xaz (l:List Xa):List Int:=r20.filter fun b=>(Xw l).contains b
def Xbt (l:List Xa):Bool:=decide (Xw l).Nodup
theorem Xq4 (l:List Xa) (hok:Xa8 l):Xg9 l=some (Xaz l,Xbt l):=by
 have h:=Ym3 (τ:=Bool×List Int) r20 (f:=fun s=>Xle.B l s.1 s.2.1 s.2.2) (fun k t=>(t.1,((k:Int),t.2))) (fun _ b t=>.inl (t.1&&decide ((Xw l).count b≤1),cond ((Xw l).contains b) (t.2++[b]) t.2)) (fun t=>t) (fun k t=>t.2.length≤k)
  (fun k hk t ht=>by
   have hk':k<20:=by rw[Xmz] at hk;exact hk
   rw[Xh3 k hk]
   have h20:decide ((k:Int)<20)=true:=by simp;omega
   simp only[Xle.B,h20,Yw4,Xpq l hok,Option.bind_some,Yvo (by omega:k<4294967296),sel]
   have e1:decide ((((Xw l).count (k:Int):Nat):Int)>0)=(Xw l).contains (k:Int):=by
    rw[Bool.eq_iff_iff];simp only[decide_eq_true_eq,List.contains_iff_mem,←List.count_pos_iff];omega
   have e2:cond t.1 (decide ((((Xw l).count (k:Int):Nat):Int)≤1)) false=(t.1&&decide ((Xw l).count (k:Int)≤1)):=by
    cases t.1
    ·rfl
    ·simp only[Yw4,Bool.true_and];rw[Bool.eq_iff_iff];simp;omega
   rw[e1,e2,Xat (by simp;omega)]
   cases (Xw l).contains (k:Int)<;>rfl)
  (fun k hk t t' ht e=>by cases e;simp only;cases (Xw l).contains _<;>simp<;>omega)
  (fun t ht=>by
   rw[Xmz];rfl) (true,[]) (by simp) (s:=(true,0,[])) rfl
 have h':Xle l (true,0,[])=_:=h;simp only[Xg9,h',Option.bind_some];rw[Yfm]
 have hf:∀ (m:List Int) (t:Bool×List Int),m.foldl (fun t b=>(t.1&&decide ((Xw l).count b≤1),cond ((Xw l).contains b) (t.2++[b]) t.2)) t=(t.1&&m.all fun b=>decide ((Xw l).count b≤1),t.2++m.filter fun b=>(Xw l).contains b):=by
  intro m
  induction m with
  |nil=>intro t;simp
  |cons b m ih=>
   intro t;rw[List.foldl_cons,ih,List.all_cons,List.filter_cons]
   cases (Xw l).contains b<;>simp[Bool.and_assoc]
 rw[hf];simp only[Bool.true_and,List.nil_append]
 congr 2
 rw[Bool.eq_iff_iff];simp only[Xbt,List.all_eq_true,decide_eq_true_eq,List.nodup_iff_count]
 constructor
 ·intro h a
  by_cases ha:a∈Xw l
  ·have:=hok.all.2 a ha
   exact h a ((Xms a).2 this)
  ·rw[List.count_eq_zero.2 ha];omega
 ·intro h a _;exact h a
theorem Xl0 (s0:List Int) (k0:Nat) (h0:0<k0) (h1:k0<s0.length) (hl:s0.length≤2147483648):∀ (m j k:Nat) (s:List Int),j+m=s0.length-k0→0<j→s.length=s0.length→k<k0+j→∃ (k':Nat) (s':List Int),Xby k0 (s0.length-k0) ((k:Int),(j:Int),s)=some ((k':Int),s')∧s'.length=s0.length∧k'<s0.length
 |0,j,k,s,hj,h2,h3,h4=>by
  refine⟨k,s,Y5 ?_,h3,by omega⟩
  simp only[Xby.B,show decide ((j:Int)<((s0.length-k0:Nat):Int))=false by simp;omega,Ywx]
 |m+1,j,k,s,hj,h2,h3,h4=>by
  have hw:w64 ((j:Int)-1)=((j-1:Nat):Int):=by rw[Yq5 (by omega) (by omega)];omega
  have hst:∃ k' s',Xby.B k0 (s0.length-k0) (k:Int) (j:Int) s=some (.inl ((k':Nat),((j+1:Nat):Int),s'))∧s'.length=s0.length∧k'<k0+(j+1):=by
   simp only[Xby.B,show decide ((j:Int)<((s0.length-k0:Nat):Int))=true by simp;omega,Yxb (by omega:j<s0.length-k0),hw,Yxb (by omega:j-1<s0.length-k0),Yxb (by omega:k<s.length),Yw4,Option.bind_some,toNat_cast,Yvo (by omega:j<4294967296),Yvo (by omega:k<4294967296)]
   cases (s.getD (k0+j) 0 != s.getD (k0+(j-1)) 0)
   ·exact⟨k,s,rfl,h3,by omega⟩
   ·exact⟨k+1,_,rfl,by simpa using h3,by omega⟩
  obtain⟨k1,s1,e1,e2,e3⟩:=hst
  obtain⟨k',s',q1,q2,q3⟩:=Xl0 s0 k0 h0 h1 hl m (j+1) k1 s1 (by omega) (by omega) e2 (by omega)
  refine⟨k',s',?_,q2,q3⟩;unfold Xby;rw[Yaq (s':=((k1:Int),((j+1:Nat):Int),s1)) e1];exact q1
theorem Xlo (s:List Int) (hl:s.length≤2147483648):∀ (m n:Nat),n+m=s.length→0<n→
  (Xba s (n:Int)=some (.inr ())∧∀ i,n≤i→(h:i<s.length)→s[i]≠s[i-1])∨(∃ (k:Nat) (s':List Int),Xba s (n:Int)=some (.inl (0,k-0,s'))∧s'.length=s.length∧k<s.length∧∃ i,n≤i∧∃ h:i<s.length,s[i]=s[i-1])
 |0,n,hn,h0=>by
  have:n=s.length:=by omega
  subst this
  refine .inl ⟨Y5 ?_,fun i h1 h2=>by omega⟩
  simp only[Xba.B,Yxe (Nat.le_refl _),Ywx]
 |m+1,n,hn,h0=>by
  have hlt:n<s.length:=by omega
  have hw:w64 ((n:Int)-1)=((n-1:Nat):Int):=by rw[Yq5 (by omega) (by omega)];omega
  by_cases he:s[n]=s[n-1]
  ·refine .inr ?_
   obtain⟨k',s',q1,q2,q3⟩:=Xl0 s n h0 hlt hl (s.length-n-1) 1 n s (by omega) (by omega) rfl (by omega)
   refine⟨k',splice s' k' (List.replicate (s'.length-k') 0),Y5 ?_,by simp[splice];omega,q3,n,Nat.le_refl _,hlt,he⟩
   have q1':Xby n (s.length-n) ((n:Int),1,s)=some ((k':Int),s'):=q1
   simp only[Xba.B,Yxm hlt,Yxb hlt,hw,Yxb (by omega:n-1<s.length),Yw4,Option.bind_some,toNat_cast,getD_lt _ hlt,getD_lt _ (by omega:n-1<s.length),he,beq_self_eq_true,q1']
   rw[show(decide ((0:Int)≤(n:Int))&&decide ((n:Int)≤(s.length:Int)))=true by simp;omega,show(decide ((0:Int)≤(k':Int))&&decide ((k':Int)≤(s'.length:Int)))=true by simp;omega,
    show(decide ((0:Int)≤(k':Int))&&decide ((k':Int)≤((splice s' k' (List.replicate (s'.length-k') 0)).length:Int)))=true by simp[splice];omega]
   rfl
  ·have hst:Xba.B s (n:Int)=some (.inl ((n+1:Nat):Int)):=by
    simp only[Xba.B,Yxm hlt,Yxb hlt,hw,Yxb (by omega:n-1<s.length),Yw4,Option.bind_some,toNat_cast,getD_lt _ hlt,getD_lt _ (by omega:n-1<s.length),Yvo (by omega:n<4294967296)]
    rw[show(s[n] == s[n-1])=false by simp[he]]
    rfl
   unfold Xba;rw[Yaq (f:=fun s_1=>Xba.B s s_1) hst]
   rcases Xlo s hl m (n+1) (by omega) (by omega) with ⟨q1,q2⟩ | ⟨k,s',q1,q2,q3,i,q4,q5,q6⟩
   ·refine .inl ⟨q1,fun i h1 h2=>?_⟩
    by_cases e:i=n
    ·subst e;exact he
    ·exact q2 i (by omega) h2
   ·exact .inr ⟨k,s',q1,q2,q3,i,by omega,q5,q6⟩
theorem Xny (s:List Int) (hl:s.length≤2147483648) (hs:s.Pairwise fun a b=>a≤b):∃ r,Xim s=some r∧((r.length:Int) == (s.length:Int))=decide s.Nodup:=by
 simp only[Xim]
 by_cases h2:s.length<2
 ·rw[show decide ((s.length:Int)<2)=true by simp;omega]
  refine⟨s,rfl,?_⟩
  have:s.Nodup:=by
   match s,h2 with
   |[],_=>simp
   |[x],_=>simp
  simp[this]
 ·rw[show decide ((s.length:Int)<2)=false by simp;omega]
  simp only[Ywx]
  have hle:∀ i j,(hij:i≤j)→(hj:j<s.length)→s[i]≤s[j]:=by
   intro i j hij hj;rcases Nat.lt_or_eq_of_le hij with h | h
   ·exact List.pairwise_iff_getElem.1 hs i j _ hj h
   ·subst h;exact Int.le_refl _
  rcases Xlo s hl (s.length-1) 1 (by omega) (by omega) with ⟨q1,q2⟩ | ⟨k,s',q1,q2,q3,i,q4,q5,q6⟩
  ·have q1':Xba s 1=some (.inr ()):=q1
   rw[q1'];refine⟨s,rfl,?_⟩
   have:s.Nodup:=by
    rw[List.Nodup,List.pairwise_iff_getElem];intro i j hi hj hij he
    have h1:=hle i (j-1) (by omega) (by omega)
    have h2:=hle (j-1) j (by omega) hj
    exact q2 j (by omega) hj (by omega)
   simp[this]
  ·have q1':Xba s 1=some (.inl (0,k-0,s')):=q1
   rw[q1'];refine⟨_,rfl,?_⟩
   have:¬ s.Nodup:=by
    intro hn
    exact List.pairwise_iff_getElem.1 hn (i-1) i (by omega) q5 (by omega) q6.symm
   simp only[this,decide_false]
   have hlen:((List.drop 0 s').take (k-0)).length=k:=by simp;omega
   rw[hlen];simp;omega
def Xab (l:List Int):List Int:=l.mergeSort fun x y=>decide (x≤y)
theorem Xij (l:List Int):(Xab l).Pairwise fun a b=>a≤b:=by
 have:=List.pairwise_mergeSort (le:=fun x y:Int=>decide (x≤y)) (fun a b c h1 h2=>by simp at *;omega) (fun a b=>by simp;omega) l
 simpa [Xab] using this
theorem Xas (l:List Int):(Xab l).Perm l:=List.mergeSort_perm _ _
theorem Xma (l:List Int):(Xab l).length=l.length:=(Xas l).length_eq
theorem Xo3 {l:List Int} (h:l.length≤2147483648):Yub l=some (Xab l):=by
 unfold Yub Xab;rw[Xat h];rfl
theorem Xod (l:List Xa) (hok:Xa8 l):Xaj l=some (Xab (Xw l),Xbt l):=by
 have hall:=hok.all
 have h:Xe0 l (l.length:Int) (0,[])=some (l.foldl (fun t x=>t++x.2.2.2.1) []):=
  Yib l (f:=fun s=>Xe0.B l (l.length:Int) s.1 s.2) (fun t x=>t++x.2.2.2.1) id (fun i t=>t.length≤4*i) (fun i hi t ht=>by
   have h4:=(hok.blk _ (List.getElem_mem hi)).1;have hl:=hok.len
   refine⟨?_,by simp;omega⟩
   simp only[Xe0.B,Yxm hi,Yxb hi,Yw4,toNat_cast,getD_lt _ hi,Option.bind_some,Yvo (by omega:i<4294967296)]
   rw[Xat (by simp;omega)];rfl) (fun t ht=>by
   simp only[Xe0.B,Yxe (Nat.le_refl _),Ywx,id]) [] (by simp)
 have h2:∀ (l:List Xa) (t:List Int),l.foldl (fun t x=>t++x.2.2.2.1) t=t++Xw l:=by
  intro l
  induction l with
  |nil=>intro t;simp[Xw]
  |cons x l ih=>intro t;rw[List.foldl_cons,ih];simp[Xw]
 rw[h2,List.nil_append] at h
 obtain⟨r,hr1,hr2⟩:=Xny (Xab (Xw l)) (by rw[Xma];omega) (Xij _)
 simp only[Xaj,h,Option.bind_some,Xkt,Xo3 (by omega:(Xw l).length≤2147483648),Xal,Xme (by rw[Xma];omega:(Xab (Xw l)).length≤2147483648),hr1,hr2]
 congr 2
 rw[Bool.eq_iff_iff];simp only[Xbt,decide_eq_true_eq];exact(Xas _).nodup_iff
theorem Xo2 (l:List Xa) (hok:Xa8 l) (h:Xbt l=true):Xab (Xw l)=Xaz l:=by
 have hn:(Xw l).Nodup:=by simpa [Xbt] using h
 refine List.Perm.eq_of_pairwise (le:=fun a b=>a≤b) (fun a b _ _ h1 h2=>by omega) (Xij _) ?_ ?_
 ·refine List.Pairwise.filter _ ?_
  rw[List.pairwise_iff_getElem];intro i j hi hj hij;rw[Xh3,Xh3];omega
 ·refine(Xas _).trans ?_
  rw[List.perm_iff_count];intro a
  have hr:r20.Nodup:=by
   rw[List.Nodup,List.pairwise_iff_getElem];intro i j hi hj hij;rw[Xh3,Xh3];omega
  have hu:(Xaz l).Nodup:=List.Pairwise.filter _ hr;rw[hn.count,hu.count]
  congr 1
  rw[Xaz,List.mem_filter,Xms];simp only[List.contains_iff_mem,eq_iff_iff];exact⟨fun h=>⟨hok.all.2 a h,h⟩,fun h=>h.2⟩
theorem Xnp:∀ {p:Option (List UInt8)} {l:List Xg},Xe8 p l=0→∀ e∈l,Xfb e.1=0∧0≤e.2.1∧e.2.1≤9
 |p,[],h,e,he=>by cases he
 |p,x::l,h,e,he=>by
  simp only[Xe8] at h
  cases hc:(Xh0 p x != 0) with
  |true=>
   rw[hc] at h
   have:Xh0 p x≠0:=by simpa using hc
   exact absurd h this
  |false=>
   rw[hc] at h;rcases List.mem_cons.1 he with rfl | he
   ·have h0:Xh0 p e=0:=by simpa using hc
    unfold Xh0 at h0
    cases h1:(Xfb e.1 != 0) with
    |true=>rw[h1] at h0;exact absurd h0 (by simpa using h1)
    |false=>
     rw[h1] at h0
     cases h2:inR e.2.1 0 9 with
     |false=>rw[h2] at h0;cases h0
     |true=>exact⟨by simpa using h1,X3.1 h2⟩
   ·exact Xnp h e he
theorem Xa3 {x:Xa} (h:Xv x=0):(0≤x.1∧x.1≤2)∧x.2.2.2.2.1.length≤6∧(x.1≠2→x.2.2.2.2.1=[])∧(x.1=2→Xm7 x=0)∧(x.1≠1→x.2.1=0∧x.2.2.1=0)∧∀ e∈x.2.2.2.2.1,Xfb e.1=0∧0≤e.2.1∧e.2.1≤9:=by
 unfold Xv at h
 cases h1:inR x.1 0 2 with
 |false=>rw[h1] at h;cases h
 |true=>
  rw[h1] at h;simp only[Bool.not_true,Ywx] at h;have hk:=X3.1 h1
  have hz:x.1≠1→x.2.1=0∧x.2.2.1=0:=by
   intro e
   rw[show(x.1 != 1)=true by simp[e]] at h
   cases h2:(x.2.1 != 0) with
   |true=>rw[h2] at h;cases h
   |false=>
    cases h3:(x.2.2.1 != 0) with
    |true=>rw[h2,h3] at h;cases h
    |false=>exact⟨by simpa using h2,by simpa using h3⟩
  cases h2:cond (cond (x.1 != 1) (cond (cond (x.2.1 != 0) true (x.2.2.1 != 0)) true (decide ((x.2.2.2.1.length:Int)>0))) false) true (cond (x.1 != 2) (decide ((x.2.2.2.2.1.length:Int)>0)) false) with
  |true=>rw[h2] at h;cases h
  |false=>
   rw[h2] at h
   by_cases e:x.1=2
   ·rw[show(x.1 == 1)=false by simp[e],show(x.1 == 2)=true by simp[e]] at h
    simp only[Ywx,Yw4] at h;have hd:=h;unfold Xm7 at h
    cases h3:decide ((x.2.2.2.2.1.length:Int)>6) with
    |true=>rw[h3] at h;cases h
    |false=>
     rw[h3] at h
     exact⟨hk,by simp at h3;omega,fun hh=>absurd e hh,fun _=>hd,hz,Xnp h⟩
   ·rw[show(x.1 != 2)=true by simp[e]] at h2
    have:x.2.2.2.2.1=[]:=by
     cases h3:decide ((x.2.2.2.2.1.length:Int)>0) with
     |true=>
      rw[h3] at h2;exfalso
      revert h2
      generalize cond (x.1 != 1) (cond (cond (x.2.1 != 0) true (x.2.2.1 != 0)) true (decide ((x.2.2.2.1.length:Int)>0))) false=b
      cases b<;>intro h2<;>cases h2
     |false=>simp at h3;exact h3
    exact⟨hk,by simp[this],fun _=>this,fun hh=>absurd hh e,hz,by simp[this]⟩
def Xap (l:List Xa) (e:Xg):Bool:=cond (decide (e.2.1≥(l.length:Int))) true ((l.getD e.2.1.toNat Xc).1 == 0)
def Xgx (f:Fs_):Int:=cond (X4 f.1 != 0) (X4 f.1) (cond (cond (cond ((f.1.length:Int) == 0) true ((f.1.getD 0 Xc).1 != 2)) true ((f.2.1.length:Int) != 20)) 1 0)
def Xbx (f:Fs_):Int:=cond (Xgx f != 0) (Xgx f)
 (cond (f.2.1.any fun b=>decide ((b.length:Int)>8)) 2 (cond (!Xbt f.1) 7 (cond (f.1.any fun x=>x.2.2.2.2.1.any (Xap f.1)) 4 0)))
structure Xhr (l:List Xa):Prop where
 ent:∀ x∈l,x.2.2.2.2.1.length≤6∧∀ e∈x.2.2.2.2.1,0≤e.2.1∧e.2.1≤9
theorem Xhr.of {l:List Xa} (h:X4 l=0):Xhr l:=
 ⟨fun x hx=>⟨(Xa3 ((Xac h).2 x hx)).2.1,fun e he=>((Xa3 ((Xac h).2 x hx)).2.2.2.2.2 e he).2⟩⟩
theorem Xsi (f:Fs_) (hok:Xa8 f.1) (hen:Xhr f.1) (n:Nat) (hn:n<f.1.length):Xis f (n:Int) 0=some (cond (f.1[n].2.2.2.2.1.any (Xap f.1)) (.inl 4) (.inr ())):=
 Ywl f.1[n].2.2.2.2.1 (f:=fun s=>Xis.B f (n:Int) s) (Xap f.1) (4:Int) (fun i hi=>by
  have hx:=hen.ent _ (List.getElem_mem hn);have he:=hx.2 _ (List.getElem_mem hi)
  simp only[Xis.B,Yxb hn,Yw4,toNat_cast,getD_lt _ hn,Option.bind_some,Yxm hi,Yxb hi,getD_lt _ hi,Yvo (by omega:i<4294967296),Xap]
  by_cases hh:(f.1[n].2.2.2.2.1[i]).2.1≥(f.1.length:Int)
  ·rw[show decide ((f.1[n].2.2.2.2.1[i]).2.1≥(f.1.length:Int))=true by simp[hh]];rfl
  ·rw[show decide ((f.1[n].2.2.2.2.1[i]).2.1≥(f.1.length:Int))=false by simp;omega,show inB (f.1[n].2.2.2.2.1[i]).2.1 f.1.length=true from Yu7 he.1 (by omega)]
   rfl) (by
  simp only[Xis.B,Yxb hn,Yw4,toNat_cast,getD_lt _ hn,Option.bind_some,Yxe (Nat.le_refl _),Ywx])
theorem Xq1 (f:Fs_) (hb:Bd Xo f):Xe1 f=some (Xbx f):=by
 simp only[Xe1,Xbx,Xgx,Xum f.1 hb.1,Option.bind_some]
 cases hi:(X4 f.1 != 0) with
 |true=>simp only[Yw4,hi]
 |false=>
  have h0:X4 f.1=0:=by simpa using hi
  have hok:=Xa8.of h0;have hen:=Xhr.of h0;simp only[Ywx]
  have e1:cond (!((f.1.length:Int) == 0)) (inB 0 f.1.length) true=true:=by
   cases hl:((f.1.length:Int) == 0) with
   |true=>rfl
   |false=>exact Yxb (i:=0) (by
     have:(f.1.length:Int)≠0:=by simpa using hl
     omega)
  rw[e1];simp only[Yw4,show(0:Int).toNat=0 from rfl]
  cases hr:cond (cond ((f.1.length:Int) == 0) true ((f.1.getD 0 Xc).1 != 2)) true ((f.2.1.length:Int) != 20) with
  |true=>rfl
  |false=>
   have hd:f.2.1.length=20:=by
    cases h20:((f.2.1.length:Int) != 20) with
    |false=>have:(f.2.1.length:Int)=20:=by simpa using h20
            omega
    |true=>rw[h20] at hr;cases hh:(cond ((f.1.length:Int) == 0) true ((f.1.getD 0 Xc).1 != 2))<;>rw[hh] at hr<;>cases hr
   have h1:Xk7 f 0=_:=Ywl f.2.1 (fun b=>decide ((b.length:Int)>8)) (2:Int) (fun i hi=>by
    simp only[Xk7.B,Yxm hi,Yxb hi,Yw4,toNat_cast,getD_lt _ hi,Option.bind_some,Yvo (by omega:i<4294967296)]) (by
    simp only[Xk7.B,Yxe (Nat.le_refl _),Ywx])
   have h2:Xk4 f 0=_:=Ywl f.1 (fun x=>x.2.2.2.2.1.any (Xap f.1)) (4:Int) (fun i hi=>by
    have hl:=hok.len
    simp only[Xk4.B,Yxm hi,Yw4,Xsi f hok hen i hi,Option.bind_some,Yvo (by omega:i<4294967296)]
    cases (f.1[i].2.2.2.2.1.any (Xap f.1))<;>rfl) (by
    simp only[Xk4.B,Yxe (Nat.le_refl _),Ywx])
   simp only[Ywx,h1,h2,Option.bind_some,Xq4 f.1 hok];cases f.2.1.any fun b=>decide ((b.length:Int)>8)
   ·simp only[Ywx,Ywu]
    cases Xbt f.1
    ·rfl
    ·simp only[Bool.not_true,Ywx]
     cases f.1.any fun x=>x.2.2.2.2.1.any (Xap f.1)<;>rfl
   ·rfl
theorem Xs2 (f:Fs_) (hb:Bd Xo f):Xiq f=some (Xgx f):=by
 simp only[Xiq,Xgx,Xsw f.1 hb.1,Option.bind_some]
 cases hi:(X4 f.1 != 0) with
 |true=>simp only[Yw4]
 |false=>
  simp only[Ywx]
  have e1:cond (!((f.1.length:Int) == 0)) (inB 0 f.1.length) true=true:=by
   cases hl:((f.1.length:Int) == 0) with
   |true=>rfl
   |false=>exact Yxb (i:=0) (by
     have:(f.1.length:Int)≠0:=by simpa using hl
     omega)
  rw[e1];simp only[Yw4,show(0:Int).toNat=0 from rfl,Yvh]
theorem Xnb {f:Fs_} (h:Xgx f=0):X4 f.1=0∧0<f.1.length∧(f.1.getD 0 Xc).1=2∧f.2.1.length=20:=by
 unfold Xgx at h
 cases hi:(X4 f.1 != 0) with
 |true=>rw[hi] at h;exact absurd h (by simpa using hi)
 |false=>
  rw[hi] at h
  refine⟨by simpa using hi,?_⟩
  cases h1:((f.1.length:Int) == 0) with
  |true=>rw[h1] at h;cases h
  |false=>
   rw[h1] at h
   cases h2:((f.1.getD 0 Xc).1 != 2) with
   |true=>rw[h2] at h;cases h
   |false=>
    rw[h2] at h
    cases h3:((f.2.1.length:Int) != 20) with
    |true=>rw[h3] at h;cases h
    |false=>
     have a1:(f.1.length:Int)≠0:=by simpa using h1
     have a3:(f.2.1.length:Int)=20:=by simpa using h3
     exact⟨by omega,by simpa using h2,by omega⟩
theorem Xrn (f:Fs_) (hok:Xa8 f.1) (hen:Xhr f.1) (v2 v3:Int) (x:Xa) (hx:x∈f.1):Xcw f f.1 v2 v3 x.2.2.2.2.1 (x.2.2.2.2.1.length:Int) 0=some (cond (x.2.2.2.2.1.any (Xap f.1)) (.inl 4) (.inr ())):=
 Ywl x.2.2.2.2.1 (f:=fun s=>Xcw.B f f.1 v2 v3 x.2.2.2.2.1 (x.2.2.2.2.1.length:Int) s) (Xap f.1) (4:Int) (fun i hi=>by
  have hx:=hen.ent _ hx;have he:=hx.2 _ (List.getElem_mem hi)
  simp only[Xcw.B,Xf7,Yw4,toNat_cast,Option.bind_some,Yxm hi,Yxb hi,getD_lt _ hi,Yvo (by omega:i<4294967296),Xap]
  by_cases hh:(x.2.2.2.2.1[i]).2.1≥(f.1.length:Int)
  ·rw[show decide ((x.2.2.2.2.1[i]).2.1≥(f.1.length:Int))=true by simp[hh]];rfl
  ·rw[show decide ((x.2.2.2.2.1[i]).2.1≥(f.1.length:Int))=false by simp;omega,show inB (x.2.2.2.2.1[i]).2.1 f.1.length=true from Yu7 he.1 (by omega)]
   rfl) (by
  simp only[Xcw.B,Yxe (Nat.le_refl _),Ywx])
theorem Xqv (f:Fs_) (hb:Bd Xo f):Xbd f=some (Xbx f):=by
 simp only[Xbd,Xbx,Xs2 f hb,Option.bind_some]
 cases hi:(Xgx f != 0) with
 |true=>simp only[Yw4]
 |false=>
  have h0:Xgx f=0:=by simpa using hi
  obtain⟨g1,g2,g3,g4⟩:=Xnb h0;have hok:=Xa8.of g1;have hen:=Xhr.of g1
  have h1:Xir f.2.1 ()=some (f.2.1.any fun b=>decide ((b.length:Int)>8)):=by
   have h:Xgl f.2.1 () (f.2.1.length:Int) 0=_:=Yvx f.2.1 (fun b=>decide ((b.length:Int)>8)) (fun i hi=>by
    simp only[Xgl.B,Yxm hi,Yxb hi,Yw4,toNat_cast,getD_lt _ hi,Xkp,Option.bind_some,Yvo (by omega:i<4294967296)]) (by
    simp only[Xgl.B,Yxe (Nat.le_refl _),Ywx]) 0 (Nat.zero_le _)
   simp only[Xir,Xf4];rw[Xdf _ _ h,List.drop_zero]
  have h2:Xge f f.1 (f.1.length:Int) 0=_:=Ywl f.1 (fun x=>x.2.2.2.2.1.any (Xap f.1)) (4:Int) (fun i hi=>by
   have hl:=hok.len
   simp only[Xge.B,Yxm hi,Yxb hi,Yw4,toNat_cast,getD_lt _ hi,Option.bind_some,Xrn f hok hen _ _ _ (List.getElem_mem hi),Yvo (by omega:i<4294967296)]
   cases (f.1[i].2.2.2.2.1.any (Xap f.1))<;>rfl) (by
   simp only[Xge.B,Yxe (Nat.le_refl _),Ywx])
  simp only[Ywx,h1,h2,Option.bind_some,Xod f.1 hok];cases f.2.1.any fun b=>decide ((b.length:Int)>8)
  ·simp only[Ywx]
   cases Xbt f.1
   ·rfl
   ·simp only[Bool.not_true,Ywx]
    cases f.1.any fun x=>x.2.2.2.2.1.any (Xap f.1)<;>rfl
  ·rfl
structure X8 (f:Fs_):Prop where
 inod:X4 f.1=0
 pos:0<f.1.length
 root:(f.1.getD 0 Xc).1=2
 dat:f.2.1.length=20
 dl:∀ b∈f.2.1,b.length≤8
 once:Xbt f.1=true
 ent:∀ x∈f.1,∀ e∈x.2.2.2.2.1,0≤e.2.1∧e.2.1<(f.1.length:Int)∧(f.1.getD e.2.1.toNat Xc).1≠0
theorem X8.of {f:Fs_} (h:Xbx f=0):X8 f:=by
 unfold Xbx at h
 cases hi:(Xgx f != 0) with
 |true=>rw[hi] at h;exact absurd h (by simpa using hi)
 |false=>
  rw[hi] at h
  obtain⟨g1,g2,g3,g4⟩:=Xnb (by simpa using hi:Xgx f=0)
  cases h1:(f.2.1.any fun b=>decide ((b.length:Int)>8)) with
  |true=>rw[h1] at h;cases h
  |false=>
   rw[h1] at h
   cases h2:Xbt f.1 with
   |false=>rw[h2] at h;cases h
   |true=>
    rw[h2] at h
    cases h3:(f.1.any fun x=>x.2.2.2.2.1.any (Xap f.1)) with
    |true=>rw[h3] at h;cases h
    |false=>
     refine⟨g1,g2,g3,g4,fun b hb=>?_,h2,fun x hx e he=>?_⟩
     ·have:=List.any_eq_false.1 h1 b hb
      simp at this;omega
     ·have hh:=List.any_eq_false.1 h3 x hx
      have hh2:(x.2.2.2.2.1.any (Xap f.1))=false:=by simpa using hh
      have hb:=List.any_eq_false.1 hh2 e he
      have hb2:Xap f.1 e=false:=by simpa using hb
      have h0:=((Xhr.of g1).ent x hx).2 e he;unfold Xap at hb2
      cases h4:decide (e.2.1≥(f.1.length:Int)) with
      |true=>rw[h4] at hb2;cases hb2
      |false=>
       rw[h4] at hb2
       exact⟨h0.1,by simp at h4;omega,by simpa using hb2⟩
abbrev Xad (l:List Xa) (a:Nat):List Xg:=(l.getD a Xc).2.2.2.2.1
inductive Reach (l:List Xa) (s:Nat):Nat→Prop
 |refl:Reach l s s
 |step {a b:Nat}:Reach l s a→(∃ e∈Xad l a,e.2.1=(b:Int))→Reach l s b
def Xgq (l:List Xa):Prop:=∀ x∈l,x.2.2.2.2.1.length≤6∧∀ e∈x.2.2.2.2.1,0≤e.2.1∧e.2.1<(l.length:Int)
theorem X8.Xqt {f:Fs_} (h:X8 f):Xgq f.1:=fun x hx=>⟨((Xhr.of h.inod).ent x hx).1,fun e he=>⟨(h.ent x hx e he).1,(h.ent x hx e he).2.1⟩⟩
theorem Xce {l:List Xa} (h:Xgq l) {a:Nat} {e:Xg} (he:e∈Xad l a):0≤e.2.1∧e.2.1<(l.length:Int):=by
 unfold Xad at he
 by_cases ha:a<l.length
 ·rw[getD_lt _ ha] at he;exact(h _ (List.getElem_mem ha)).2 e he
 ·rw[List.getD_eq_getElem?_getD,List.getElem?_eq_none (by omega)] at he;cases he
theorem Reach.lt {l:List Xa} (h:Xgq l) {s a:Nat} (hs:s<l.length) (hr:Reach l s a):a<l.length:=by
 induction hr with
 |refl=>exact hs
 |step _ he _=>obtain⟨e,he,h2⟩:=he;have:=Xce h he;omega
abbrev on (b:List Bool) (i:Nat):Prop:=b.getD i false=true
theorem Xfo {b:List Bool} {i j:Nat}:on (b.set i true) j↔on b j∨(i=j∧i<b.length):=by
 unfold on;rw[List.getD_eq_getElem?_getD,List.getD_eq_getElem?_getD,List.getElem?_set]
 by_cases e:i=j
 ·subst e
  by_cases h:i<b.length
  ·simp[h]
  ·simp[h]
 ·simp[e]
theorem Xo6 {b:List Bool} {i:Nat} (h:on b i):i<b.length:=by
 unfold on at h
 by_cases hh:i<b.length
 ·exact hh
 ·rw[List.getD_eq_getElem?_getD,List.getElem?_eq_none (by omega)] at h;cases h
theorem Xre {b:List Bool} {i:Nat} (h:on b i):b.set i true=b:=by
 have hl:=Xo6 h;unfold on at h;rw[getD_lt _ hl] at h
 conv=>lhs;rw[←h]
 exact List.set_getElem_self hl
def Xgi (b:List Bool) (es:List Xg):List Bool:=es.foldl (fun b e=>b.set e.2.1.toNat true) b
theorem Xg6:∀ (es:List Xg) (b:List Bool),(Xgi b es).length=b.length
 |[],b=>rfl
 |e::es,b=>by simp only[Xgi,List.foldl_cons];exact(Xg6 es _).trans (by simp)
theorem Xgt:∀ (es:List Xg) (b:List Bool) (j:Nat),on (Xgi b es) j↔on b j∨(j<b.length∧∃ e∈es,e.2.1.toNat=j)
 |[],b,j=>by simp[Xgi]
 |e::es,b,j=>by
  have ih:=Xgt es (b.set e.2.1.toNat true) j;have:on (Xgi b (e::es)) j↔on (Xgi (b.set e.2.1.toNat true) es) j:=Iff.rfl;rw[this,ih,Xfo,List.length_set]
  constructor
  ·rintro((h | ⟨h1,h2⟩) | ⟨h1,e',h2,h3⟩)
   ·exact .inl h
   ·exact .inr ⟨by omega,e,List.mem_cons_self ..,h1⟩
   ·exact .inr ⟨h1,e',List.mem_cons_of_mem _ h2,h3⟩
  ·rintro(h | ⟨h1,e',h2,h3⟩)
   ·exact .inl (.inl h)
   ·rcases List.mem_cons.1 h2 with rfl | h2
    ·exact .inl (.inr ⟨h3,by omega⟩)
    ·exact .inr ⟨h1,e',h2,h3⟩
theorem Xlj:∀ (es:List Xg) (b:List Bool),(∀ e∈es,on b e.2.1.toNat)→Xgi b es=b
 |[],b,h=>rfl
 |e::es,b,h=>by
  simp only[Xgi,List.foldl_cons];rw[Xre (h e (List.mem_cons_self ..))];exact Xlj es b fun x hx=>h x (List.mem_cons_of_mem _ hx)
def Xa4 (l:List Xa):List Nat→List Bool→List Bool
 |[],b=>b
 |i::is,b=>Xa4 l is (cond (b.getD i false) (Xgi b (Xad l i)) b)
def Xg7 (l:List Xa) (b:List Bool):Prop:=∀ i,on b i→∀ e∈Xad l i,on b e.2.1.toNat
def Xg3 (l:List Xa) (s:Nat) (b:List Bool):Prop:=∀ j,on b j→Reach l s j
theorem Xhu (l:List Xa):∀ (is:List Nat) (b:List Bool),(Xa4 l is b).length=b.length
 |[],b=>rfl
 |i::is,b=>by simp only[Xa4];rw[Xhu l is];cases b.getD i false<;>simp[Xg6]
theorem Xc5 (l:List Xa):∀ (is:List Nat) (b:List Bool) (j:Nat),on b j→on (Xa4 l is b) j
 |[],b,j,h=>h
 |i::is,b,j,h=>by
  refine Xc5 l is _ j ?_;cases b.getD i false
  ·exact h
  ·exact(Xgt _ _ _).2 (.inl h)
theorem Xi9 {l:List Xa} (hl:Xgq l) {s:Nat}:∀ (is:List Nat) (b:List Bool),Xg3 l s b→Xg3 l s (Xa4 l is b)
 |[],b,h=>h
 |i::is,b,h=>by
  refine Xi9 hl is _ ?_;cases hi:b.getD i false
  ·exact h
  ·intro j hj
   rcases(Xgt _ _ _).1 hj with hj | ⟨_,e,he,h2⟩
   ·exact h j hj
   ·have:=Xce hl he
    exact .step (h i hi) ⟨e,he,by omega⟩
theorem Xk2 {l:List Xa}:∀ (is:List Nat) (b:List Bool) (i:Nat),i∈is→on b i→∀ e∈Xad l i,e.2.1.toNat<b.length→on (Xa4 l is b) e.2.1.toNat
 |k::is,b,i,hi,hb,e,he,hlt=>by
  rcases List.mem_cons.1 hi with rfl | hi
  ·refine Xc5 l is _ _ ?_
   rw[hb];exact(Xgt _ _ _).2 (.inr ⟨hlt,e,he,rfl⟩)
  ·refine Xk2 is _ i hi ?_ e he ?_
   ·cases b.getD k false
    ·exact hb
    ·exact(Xgt _ _ _).2 (.inl hb)
   ·cases b.getD k false
    ·exact hlt
    ·simpa [Xg6] using hlt
theorem Xbl {l:List Xa}:∀ (is:List Nat) (b:List Bool),Xg7 l b→Xa4 l is b=b
 |[],b,h=>rfl
 |i::is,b,h=>by
  simp only[Xa4];cases hi:b.getD i false
  ·exact Xbl is b h
  ·simp only[Yw4]
   rw[Xlj _ _ (h i hi)];exact Xbl is b h
theorem Xpi:∀ (b c:List Bool),b.length=c.length→(∀ j,on b j→on c j)→b.count true≤c.count true
 |[],[],_,_=>Nat.le_refl _
 |x::b,y::c,hl,h=>by
  have ih:=Xpi b c (by simpa using hl) fun j hj=>h (j+1) hj
  have h0:=h 0;simp only[List.count_cons]
  cases x<;>cases y<;>simp[on] at h0 ⊢<;>omega
theorem cnt_lt:∀ (b c:List Bool),b.length=c.length→(∀ j,on b j→on c j)→(∃ j,on c j∧¬ on b j)→b.count true<c.count true
 |[],[],_,_,⟨j,h,_⟩=>by have:=Xo6 h;simp at this
 |x::b,y::c,hl,h,⟨j,h1,h2⟩=>by
  have h0:=h 0;simp only[List.count_cons]
  cases j with
  |zero=>
   have ih:=Xpi b c (by simpa using hl) fun j hj=>h (j+1) hj
   cases x<;>cases y<;>simp[on] at h1 h2 h0 ⊢<;>omega
  |succ j=>
   have ih:=cnt_lt b c (by simpa using hl) (fun j hj=>h (j+1) hj) ⟨j,h1,h2⟩
   cases x<;>cases y<;>simp[on] at h0 ⊢<;>omega
def Xam (l:List Xa):Nat→List Bool→List Bool
 |0,b=>b
 |n+1,b=>Xam l n (Xa4 l (List.range l.length) b)
theorem Xhp {l:List Xa} (hl:Xgq l):∀ (n:Nat) (b:List Bool),b.length=l.length→l.length≤n+b.count true→Xg7 l (Xam l n b)∧(Xam l n b).length=l.length∧(∀ j,on b j→on (Xam l n b) j)∧∀ s,Xg3 l s b→Xg3 l s (Xam l n b)
 |0,b,hb,hn=>by
  refine⟨fun i hi e he=>?_,hb,fun _ h=>h,fun _ h=>h⟩
  have hall:b.count true=b.length:=by have:=List.count_le_length (a:=true) (l:=b);omega
  have hlt:=(Xce hl he)
  have:b.getD e.2.1.toNat false=b[e.2.1.toNat]'(by omega):=getD_lt _ _
  show b.getD e.2.1.toNat false=true;rw[this]
  exact(List.count_eq_length.1 hall _ (List.getElem_mem _)).symm
 |n+1,b,hb,hn=>by
  simp only[Xam];have hlen:=Xhu l (List.range l.length) b
  by_cases hc:Xg7 l b
  ·rw[Xbl _ _ hc]
   have:∀ n,Xam l n b=b:=by
    intro n
    induction n with
    |zero=>rfl
    |succ n ih=>simp only[Xam];rw[Xbl _ _ hc];exact ih
   rw[this];exact⟨hc,hb,fun _ h=>h,fun _ h=>h⟩
  ·obtain⟨i,h1,e,h2,h3⟩:∃ i,on b i∧∃ e∈Xad l i,¬ on b e.2.1.toNat:=by
    unfold Xg7 at hc;simp only[Classical.not_forall] at hc;obtain⟨i,h1,e,h2,h3⟩:=hc;exact⟨i,h1,e,h2,h3⟩
   have hlt:=Xce hl h2;have hi:=Xo6 h1
   have hs:=cnt_lt b _ hlen.symm (Xc5 l _ b) ⟨_,Xk2 (List.range l.length) b i (List.mem_range.2 (by omega)) h1 e h2 (by omega),h3⟩
   obtain⟨q1,q2,q3,q4⟩:=Xhp hl n _ (by omega) (by omega:l.length≤n+(Xa4 l (List.range l.length) b).count true)
   exact⟨q1,q2,fun j hj=>q3 j (Xc5 l _ b j hj),fun s hs=>q4 s (Xi9 hl _ _ hs)⟩
open Classical in
noncomputable def Xah (l:List Xa) (s:Nat):List Int:=((List.range l.length).filter fun i=>decide (Reach l s i)).map Int.ofNat
theorem Xrf {l:List Xa} (hl:Xgq l) {s:Nat} (hs:s<l.length) {a:Nat}:(a:Int)∈Xah l s↔Reach l s a:=by
 unfold Xah;simp only[List.mem_map,List.mem_filter,List.mem_range,decide_eq_true_eq]
 constructor
 ·rintro⟨i,⟨_,h⟩,e⟩
  have:i=a:=Int.ofNat.inj e;subst this;exact h
 ·intro h;exact⟨a,⟨h.lt hl hs,h⟩,rfl⟩
theorem Xrj {l:List Xa} {s:Nat} {v:Int} (h:v∈Xah l s):0≤v∧v<(l.length:Int):=by
 unfold Xah at h;simp only[List.mem_map,List.mem_filter,List.mem_range] at h;obtain⟨i,⟨h1,_⟩,rfl⟩:=h;simp;omega
theorem Xlq (l:List Xa) (s:Nat):(Xah l s).length≤l.length:=by
 unfold Xah;rw[List.length_map]
 exact Nat.le_trans (List.length_filter_le _ _) (by simp)
open Classical in
theorem Xlm {l:List Xa} {s:Nat} {b:List Bool} (hb:b.length=l.length) (hc:Xg7 l b) (hs:Xg3 l s b) (h0:on b s):((List.range b.length).filter fun i=>b.getD i false).map Int.ofNat=Xah l s:=by
 unfold Xah;rw[hb]
 congr 1
 refine List.filter_congr fun i hi=>?_;clear hi;rw[Bool.eq_iff_iff,decide_eq_true_eq]
 constructor
 ·exact hs i
 ·intro h
  induction h with
  |refl=>exact h0
  |step _ he ih=>obtain⟨e,he,h2⟩:=he;have:=hc _ ih e he;rw[h2] at this;exact this
theorem Xpk (b:List Bool) {f:Int×List Int→Option ((Int×List Int)⊕List Int)} (hl:b.length≤1000)
  (hs:∀ (i:Nat) (h:i<b.length) (t:List Int),t.length≤i→f ((i:Int),t)=cond b[i] (some (.inl (((i+1:Nat):Int),t++[(i:Int)]))) (some (.inl (((i+1:Nat):Int),t)))) (he:∀ t,f ((b.length:Int),t)=some (.inr t)) :
  Y9 f (0,[])=some (((List.range b.length).filter fun i=>b.getD i false).map Int.ofNat):=by
 have h:=Ym3 (τ:=List Int) b (f:=f) (fun i t=>((i:Int),t)) (fun i x t=>.inl (cond x (t++[(i:Int)]) t)) id (fun i t=>t.length≤i)
  (fun i hi t ht=>by rw[hs i hi t ht];cases b[i]<;>rfl) (fun i hi t t' ht e=>by cases e;cases b[i]<;>simp<;>omega) (fun t ht=>he t) [] (by simp) (s:=(0,[])) rfl
 rw[h]
 congr 1
 clear h hs he hl
 have:∀ (m:List Bool) (n:Nat) (t:List Int),Yba (fun i x t=>.inl (cond x (t++[(i:Int)]) t)) id n m t=t++((List.range' n m.length).filter fun i=>m.getD (i-n) false).map Int.ofNat:=by
  intro m
  induction m with
  |nil=>intro n t;simp[Yba]
  |cons x m ih=>
   intro n t;simp only[Yba,Yw2];rw[ih,List.length_cons,List.range'_succ,List.filter_cons]
   have e:(List.range' (n+1) m.length).filter (fun i=>(x::m).getD (i-n) false)=(List.range' (n+1) m.length).filter (fun i=>m.getD (i-(n+1)) false):=by
    refine List.filter_congr fun i hi=>?_;have:=(List.mem_range'_1.1 hi).1
    rw[show i-n=(i-(n+1))+1 by omega];rfl
   rw[e]
   cases x<;>simp
 rw[this b 0 [],List.nil_append,List.range_eq_range'];rfl
theorem Xsz (f:Fs_) (hl:Xgq f.1) (hn:f.1.length≤10) (rd:Int) (i:Nat) (hi:i<f.1.length) (b:List Bool) (hb:b.length=f.1.length):Xhb f rd (i:Int) (0,b)=some (cond (b.getD i false) (Xgi b (Xad f.1 i)) b):=by
 have hx:=hl _ (List.getElem_mem hi)
 have he:Xad f.1 i=f.1[i].2.2.2.2.1:=by unfold Xad;rw[getD_lt _ hi]
 cases h0:b.getD i false with
 |false=>
  refine Y5 ?_
  simp only[Xhb.B,Yxb (by omega:i<b.length),Yw4,toNat_cast,h0,Ywx,Option.bind_some]
 |true=>
  rw[he]
  have h:=Yib f.1[i].2.2.2.2.1 (f:=fun s=>Xhb.B f rd (i:Int) s.1 s.2) (fun(b:List Bool) e=>b.set e.2.1.toNat true) id (fun k c=>c.length=f.1.length∧on c i) (fun k hk c hc=>by
   have hek:=hx.2 _ (List.getElem_mem hk)
   refine⟨?_,by simpa using hc.1,Xfo.2 (.inl hc.2)⟩
   have h1:c.getD i false=true:=hc.2
   simp only[Xhb.B,Yxb (by omega:i<c.length),Yw4,toNat_cast,h1,Yxb hi,getD_lt _ hi,Yxm hk,Option.bind_some,Yxb hk,getD_lt _ hk,Yvo (by omega:k<4294967296)]
   rw[show inB (f.1[i].2.2.2.2.1[k]).2.1 c.length=true from Yu7 hek.1 (by omega)];rfl) (fun c hc=>by
   have h1:c.getD i false=true:=hc.2
   simp only[Xhb.B,Yxb (by omega:i<c.length),Yw4,toNat_cast,h1,Yxb hi,getD_lt _ hi,Yxe (Nat.le_refl _),Option.bind_some,Ywx,id]) b ⟨hb,h0⟩
  exact h
theorem Xr2 (f:Fs_) (hl:Xgq f.1) (hn:f.1.length≤10) (rd:Int) (b:List Bool) (hb:b.length=f.1.length):Xh6 f rd (0,b)=some (Xa4 f.1 (List.range f.1.length) b):=by
 have h:=Ym3 (τ:=List Bool) f.1 (f:=fun s=>Xh6.B f rd s.1 s.2) (fun i b=>((i:Int),b)) (fun i x b=>.inl (cond (b.getD i false) (Xgi b (Xad f.1 i)) b)) id (fun i b=>b.length=f.1.length)
  (fun i hi c hc=>by
   simp only[Xh6.B,Yxm hi,Yw4,Xsz f hl hn rd i hi c hc,Option.bind_some,Yvo (by omega:i<4294967296),sel]) (fun i hi c c' hc e=>by cases e;cases c.getD i false<;>simp[Xg6,hc]) (fun c hc=>by
   simp only[Xh6.B,Yxe (Nat.le_refl _),Ywx,id]) b hb (s:=(0,b)) rfl
 refine Eq.trans h ?_
 congr 1
 have:∀ (m:List Xa) (n:Nat) (b:List Bool),Yba (fun i (x:Xa) b=>.inl (cond (b.getD i false) (Xgi b (Xad f.1 i)) b)) id n m b=Xa4 f.1 (List.range' n m.length) b:=by
  intro m
  induction m with
  |nil=>intro n b;rfl
  |cons x m ih=>intro n b;simp only[Yba,Yw2,List.length_cons,List.range'_succ,Xa4];exact ih _ _
 rw[this,List.range_eq_range']
theorem Xs6 (f:Fs_) (hl:Xgq f.1) (hn:f.1.length≤10) (h0:0<f.1.length):Xm2 f=some (Xah f.1 0):=by
 have hz:(List.replicate f.1.length false).length=f.1.length:=by simp
 let b0:=(List.replicate f.1.length false).set 0 true
 have hb0:b0.length=f.1.length:=by simp[b0]
 have hon:on b0 0:=Xfo.2 (.inr ⟨rfl,by omega⟩)
 have hcnt:1≤b0.count true:=by
  have:true∈b0:=by
   have h1:b0[0]'(by omega)=true:=by rw[←getD_lt false (by omega:0<b0.length)];exact hon
   rw[←h1];exact List.getElem_mem _
  exact List.count_pos_iff.2 this
 have hsnd:Xg3 f.1 0 b0:=by
  intro j hj;rcases Xfo.1 hj with h | ⟨rfl,_⟩
  ·unfold on at h;rw[List.getD_eq_getElem?_getD,List.getElem?_replicate] at h;split at h<;>simp at h
  ·exact .refl
 obtain⟨q1,q2,q3,q4⟩:=Xhp hl f.1.length b0 hb0 (by omega)
 have h1:Xjq f (0,b0)=some (Xam f.1 f.1.length b0):=by
  have h:=Ym3 (τ:=List Bool) f.1 (f:=fun s=>Xjq.B f s.1 s.2) (fun i b=>((i:Int),b)) (fun i x b=>.inl (Xa4 f.1 (List.range f.1.length) b)) id (fun i b=>b.length=f.1.length)
   (fun i hi c hc=>by
    simp only[Xjq.B,Yxm hi,Yw4,Xr2 f hl hn i c hc,Option.bind_some,Yvo (by omega:i<4294967296),sel]) (fun i hi c c' hc e=>by cases e;rw[Xhu,hc]) (fun c hc=>by
    simp only[Xjq.B,Yxe (Nat.le_refl _),Ywx,id]) b0 hb0 (s:=(0,b0)) rfl
  refine Eq.trans h ?_
  congr 1
  have:∀ (m:List Xa) (n:Nat) (b:List Bool),Yba (fun i (x:Xa) b=>.inl (Xa4 f.1 (List.range f.1.length) b)) id n m b=Xam f.1 m.length b:=by
   intro m
   induction m with
   |nil=>intro n b;rfl
   |cons x m ih=>intro n b;simp only[Yba,Yw2,List.length_cons,Xam];exact ih _ _
  exact this _ _ _
 have h3:Xjz (Xam f.1 f.1.length b0) (0,[])=some (Xah f.1 0):=by
  have h:=Xpk (Xam f.1 f.1.length b0) (f:=fun s=>Xjz.B (Xam f.1 f.1.length b0) s.1 s.2) (by omega) (fun i hi t ht=>by
   simp only[Xjz.B,Yxm hi,Yxb hi,Yw4,toNat_cast,getD_lt _ hi,Yvo (by omega:i<4294967296)]
   rw[Xat (by simp;omega)];rfl) (fun t=>by
   simp only[Xjz.B,Yxe (Nat.le_refl _),Ywx])
  refine Eq.trans h ?_;rw[Xlm q2 q1 (q4 0 hsnd) (q3 0 hon)]
 simp only[Xm2]
 rw[show(decide ((0:Int)≤(f.1.length:Int))&&(decide ((f.1.length:Int)≤(f.1.length:Int))&&decide ((f.1.length:Int)≤2147483648)))=true by simp;omega]
 rw[show((f.1.length:Int)).toNat=f.1.length from toNat_cast _,hz,show inB 0 f.1.length=true from Yxb (i:=0) h0];simp only[Yw4,Option.bind_some,show(0:Int).toNat=0 from rfl];rw[show(List.replicate f.1.length false).set 0 true=b0 from rfl,h1];simp only[Option.bind_some,h3]
theorem Xok:∀ (b:List Bool) (i:Nat),i<b.length→b.getD i false=false→(b.set i true).count false+1=b.count false
 |x::b,0,h,hf=>by
  have:x=false:=by simpa using hf
  subst this;simp
 |x::b,i+1,h,hf=>by
  have ih:=Xok b i (by simpa using h) (by simpa using hf)
  simp only[List.set_cons_succ,List.count_cons];omega
theorem Xue (l:List Xa) (es:List Xg) (v2:Int) (hv:v2=(es.length:Int)) (seen:List Bool) (op:List Int) (h6:es.length≤6) (ho:op.length≤1000):Xdb l es v2 seen (0,op)=some (op++es.map fun e=>e.2.1):=by
 subst hv
 exact Yvg es (f:=fun s=>Xdb.B l es (es.length:Int) seen s.1 s.2) (fun e=>e.2.1) id op.length (fun i hi t ht=>by
  simp only[Xdb.B,Yxm hi,Yxb hi,Yw4,toNat_cast,getD_lt _ hi,Yvo (by omega:i<4294967296)]
  rw[Xat (by simp;omega)];rfl) (fun t ht=>by
  simp only[Xdb.B,Yxe (Nat.le_refl _),Ywx,id]) op rfl
theorem Xl2 {op:List Int} (h:0<op.length):op.take (op.length-1)++[op.getD (op.length-1) 0]=op:=by
 have h1:op.length-1<op.length:=by omega
 rw[getD_lt _ h1];have:=List.take_append_drop (op.length-1) op
 rw[List.drop_eq_getElem_cons h1,show op.length-1+1=op.length by omega,List.drop_length] at this
 exact this
theorem Xpp {l:List Xa} (hl:Xgq l) (hn:l.length≤10) (s:Nat) (hs:s<l.length):∀ (m:Nat) (seen:List Bool) (op:List Int),7*seen.count false+op.length≤m→m≤100→seen.length=l.length→Xg3 l s seen→
  (∀ v∈op,∃ a:Nat,v=(a:Int)∧Reach l s a)→(∀ i,on seen i→∀ e∈Xad l i,on seen e.2.1.toNat∨e.2.1∈op)→
  ∃ b,Xbn l (seen,op)=some b∧b.length=l.length∧Xg7 l b∧Xg3 l s b∧(∀ j,on seen j→on b j)∧∀ v∈op,on b v.toNat
 |m,seen,op,hm,hm2,h1,h2,h3,h4=>by
  by_cases ho:op.length=0
  ·have:op=[]:=List.length_eq_zero_iff.1 ho
   subst this
   refine⟨seen,Y5 ?_,h1,fun i hi e he=>?_,h2,fun _ h=>h,fun v hv=>by cases hv⟩
   ·simp only[Xbn.B];rfl
   ·rcases h4 i hi e he with h | h
    ·exact h
    ·cases h
  ·have hpos:0<op.length:=by omega
   have hw:w64 ((op.length:Int)-1)=((op.length-1:Nat):Int):=by rw[Yq5 (by omega) (by omega)];omega
   have hsp:=Xl2 hpos;generalize hv:op.getD (op.length-1) 0=v at hsp;generalize hq:op.take (op.length-1)=q at hsp
   have hql:q.length=op.length-1:=by rw[←hq];simp
   obtain⟨a,rfl,ha⟩:=h3 v (by rw[←hsp];simp)
   have hal:=ha.lt hl hs
   have hB:Xbn.B l seen op=cond (seen.getD a false) (some (.inl (seen,q))) (some (.inl (seen.set a true,q++(Xad l a).map fun e=>e.2.1))):=by
    have e6:(Xad l a).length≤6:=by unfold Xad;rw[getD_lt _ hal];exact(hl _ (List.getElem_mem hal)).1
    simp only[Xbn.B,show decide ((op.length:Int)>0)=true by simp;omega,Yw4,hw,Yxb (by omega:op.length-1<op.length),toNat_cast,hv,Option.bind_some]
    rw[show(decide ((0:Int)≤((op.length-1:Nat):Int))&&decide (((op.length-1:Nat):Int)≤(op.length:Int)))=true by rw[Bool.and_eq_true,decide_eq_true_eq,decide_eq_true_eq];omega,List.drop_zero,Nat.sub_zero,hq]
    simp only[Yw4,Yxb (by omega:a<seen.length),Yxb hal,Xue l (Xad l a) _ rfl _ q e6 (by omega),Option.bind_some]
   cases hsn:seen.getD a false with
   |true=>
    rw[hsn] at hB
    obtain⟨b,q1,q2,q3,q4,q5,q6⟩:=Xpp hl hn s hs (m-1) seen q (by omega) (by omega) h1 h2 (fun v hv=>h3 v (by rw[←hsp];simp[hv])) (fun i hi e he=>by
     rcases h4 i hi e he with h | h
     ·exact .inl h
     ·rw[←hsp] at h
      rcases List.mem_append.1 h with h | h
      ·exact .inr h
      ·have:e.2.1=(a:Int):=by simpa using h
       rw[this];exact .inl hsn)
    refine⟨b,?_,q2,q3,q4,q5,fun v hv=>?_⟩
    ·unfold Xbn
     rw[Yaq (f:=fun s=>Xbn.B l s.1 s.2) (s:=(seen,op)) (s':=(seen,q)) hB];exact q1
    ·rw[←hsp] at hv
     rcases List.mem_append.1 hv with h | h
     ·exact q6 v h
     ·have:v=(a:Int):=by simpa using h
      rw[this];exact q5 a hsn
   |false=>
    rw[hsn] at hB
    have e6:(Xad l a).length≤6:=by unfold Xad;rw[getD_lt _ hal];exact(hl _ (List.getElem_mem hal)).1
    have hc:=Xok seen a (by omega) hsn
    have hon:on (seen.set a true) a:=Xfo.2 (.inr ⟨rfl,by omega⟩)
    obtain⟨b,q1,q2,q3,q4,q5,q6⟩:=Xpp hl hn s hs (m-1) (seen.set a true) (q++(Xad l a).map fun e=>e.2.1) (by simp;omega) (by omega) (by simpa using h1) (fun j hj=>by
      rcases Xfo.1 hj with h | ⟨rfl,_⟩
      ·exact h2 j h
      ·exact ha) (fun v hv=>by
      rcases List.mem_append.1 hv with h | h
      ·exact h3 v (by rw[←hsp];simp[h])
      ·obtain⟨e,he,rfl⟩:=List.mem_map.1 h
       have:=Xce hl he
       exact⟨e.2.1.toNat,by omega,.step ha ⟨e,he,by omega⟩⟩) (fun i hi e he=>by
      rcases Xfo.1 hi with h | ⟨rfl,_⟩
      ·rcases h4 i h e he with h | h
       ·exact .inl (Xfo.2 (.inl h))
       ·rw[←hsp] at h
        rcases List.mem_append.1 h with h | h
        ·exact .inr (List.mem_append_left _ h)
        ·have:e.2.1=(a:Int):=by simpa using h
         rw[this];exact .inl hon
      ·exact .inr (List.mem_append_right _ (List.mem_map.2 ⟨e,he,rfl⟩)))
    refine⟨b,?_,q2,q3,q4,fun j hj=>q5 j (Xfo.2 (.inl hj)),fun v hv=>?_⟩
    ·unfold Xbn
     rw[Yaq (f:=fun s=>Xbn.B l s.1 s.2) (s:=(seen,op)) (s':=(seen.set a true,q++(Xad l a).map fun e=>e.2.1)) hB];exact q1
    ·rw[←hsp] at hv
     rcases List.mem_append.1 hv with h | h
     ·exact q6 v (List.mem_append_left _ h)
     ·have:v=(a:Int):=by simpa using h
      rw[this];exact q5 a hon
termination_by m=>m
decreasing_by all_goals omega
theorem Xt8 {l:List Xa} (hl:Xgq l) (hn:l.length≤10) (s:Nat) (hs:s<l.length):Xhq l (s:Int)=some (Xah l s):=by
 obtain⟨b,q1,q2,q3,q4,_,q6⟩:=Xpp hl hn s hs 71 (List.replicate l.length false) [(s:Int)] (by simp;omega) (by omega) (by simp) (fun j hj=>by
   unfold on at hj;rw[List.getD_eq_getElem?_getD,List.getElem?_replicate] at hj;split at hj<;>simp at hj) (fun v hv=>⟨s,by simpa using hv,.refl⟩) (fun j hj=>by
   unfold on at hj;rw[List.getD_eq_getElem?_getD,List.getElem?_replicate] at hj;split at hj<;>simp at hj)
 have h2:Xdk (b.length:Int) b (0,[])=some (Xah l s):=by
  have h:=Xpk b (f:=fun s=>Xdk.B (b.length:Int) b s.1 s.2) (by omega) (fun i hi t ht=>by
   simp only[Xdk.B,Yxm hi,Yxb hi,Yw4,toNat_cast,getD_lt _ hi,Yvo (by omega:i<4294967296)]
   rw[Xat (by simp;omega)];rfl) (fun t=>by
   simp only[Xdk.B,Yxe (Nat.le_refl _),Ywx])
  refine Eq.trans h ?_;rw[Xlm q2 q3 q4 (q6 _ (List.mem_cons_self ..))]
 simp only[Xhq]
 rw[show(decide ((0:Int)≤(l.length:Int))&&(decide ((l.length:Int)≤(l.length:Int))&&decide ((l.length:Int)≤2147483648)))=true by simp;omega,show((l.length:Int)).toNat=l.length from toNat_cast _]
 simp only[Yw4,q1,Option.bind_some,h2]
def Xn2 (l:List Xa):List Int:=l.flatMap fun x=>x.2.2.2.2.1.map fun e=>e.2.1
def Xbg (l:List Xa) (a:Int):Int:=(((Xn2 l).count a:Nat):Int)
theorem Xln (a:Int):∀ (l:List Xg) (m:Nat),l.foldl (fun t e=>t+(if e.2.1 == a then 1 else 0)) m=m+(l.map fun e=>e.2.1).count a
 |[],m=>by simp
 |y::l,m=>by rw[List.foldl_cons,Xln a l,List.map_cons,List.count_cons];omega
theorem Xs8 (l:List Xa) (hl:∀ x∈l,x.2.2.2.2.1.length≤6) (hn:l.length≤10) (a:Int):Xmo l a=some (Xbg l a):=by
 have h1:∀ (i:Nat) (hi:i<l.length) (n:Nat),n≤1000→Xh7 l a (i:Int) ((n:Int),0)=some (((n+(l[i].2.2.2.2.1.map fun e=>e.2.1).count a:Nat):Int)):=by
  intro i hi n hn;have h6:=hl _ (List.getElem_mem hi)
  have h:=Ym3 (τ:=Nat) l[i].2.2.2.2.1 (f:=fun s=>Xh7.B l a (i:Int) s.1 s.2) (fun k m=>((m:Int),(k:Int))) (fun _ e m=>.inl (m+(if e.2.1 == a then 1 else 0))) (fun m=>((m:Nat):Int)) (fun k m=>m≤n+k)
   (fun k hk m hm=>by
    simp only[Xh7.B,Yxb hi,Yw4,toNat_cast,getD_lt _ hi,Option.bind_some,Yxm hk,Yxb hk,getD_lt _ hk,Yvo (by omega:k<4294967296),Yvo (by omega:m<4294967296),sel]
    cases h:((l[i].2.2.2.2.1[k]).2.1 == a)<;>simp[h])
   (fun k hk m m' hm e=>by cases e;split<;>omega)
   (fun m hm=>by
    simp only[Xh7.B,Yxb hi,Yw4,toNat_cast,getD_lt _ hi,Option.bind_some,Yxe (Nat.le_refl _),Ywx]) n (by omega) (s:=((n:Int),0)) rfl
  refine Eq.trans h ?_;rw[Yfm,Xln]
 have h:=Ym3 (τ:=Nat) l (f:=fun s=>Xjj.B l a s.1 s.2) (fun k m=>((m:Int),(k:Int))) (fun _ x m=>.inl (m+(x.2.2.2.2.1.map fun e=>e.2.1).count a)) (fun m=>((m:Nat):Int)) (fun k m=>m≤6*k)
  (fun k hk m hm=>by
   simp only[Xjj.B,Yxm hk,Yw4,h1 k hk m (by omega),Option.bind_some,Yvo (by omega:k<4294967296),sel])
  (fun k hk m m' hm e=>by cases e;have:=hl _ (List.getElem_mem hk);have:=List.count_le_length (a:=a) (l:=l[k].2.2.2.2.1.map fun e=>e.2.1);simp at this;omega)
  (fun m hm=>by simp only[Xjj.B,Yxe (Nat.le_refl _),Ywx]) 0 (by omega) (s:=(0,0)) rfl
 have h':Xjj l a (0,0)=_:=h;simp only[Xmo,h',Option.bind_some];rw[Yfm]
 have:∀ (l:List Xa) (m:Nat),l.foldl (fun t x=>t+(x.2.2.2.2.1.map fun e=>e.2.1).count a) m=m+(Xn2 l).count a:=by
  intro l
  induction l with
  |nil=>intro m;simp[Xn2]
  |cons y l ih=>intro m;rw[List.foldl_cons,ih];simp only[Xn2,List.flatMap_cons,List.count_append];omega
 rw[this,Nat.zero_add];rfl
theorem Xuf (l:List Xa) (hl:∀ x∈l,x.2.2.2.2.1.length≤6) (hn:l.length≤10) (a:Int):Xh2 l a=some (Xbg l a):=by
 have h1:∀ (v v2:Int) (x:Xa) (h6:x.2.2.2.2.1.length≤6) (n:Nat),n≤1000→Xdd a l v v2 x.2.2.2.2.1 (x.2.2.2.2.1.length:Int) ((n:Int),0)=some (((n+(x.2.2.2.2.1.map fun e=>e.2.1).count a:Nat):Int)):=by
  intro v v2 x h6 n hn
  have h:=Ym3 (τ:=Nat) x.2.2.2.2.1 (f:=fun s=>Xdd.B a l v v2 x.2.2.2.2.1 (x.2.2.2.2.1.length:Int) s.1 s.2) (fun k m=>((m:Int),(k:Int))) (fun _ e m=>.inl (m+(if e.2.1 == a then 1 else 0))) (fun m=>((m:Nat):Int)) (fun k m=>m≤n+k)
   (fun k hk m hm=>by
    simp only[Xdd.B,Yw4,toNat_cast,Option.bind_some,Yxm hk,Yxb hk,getD_lt _ hk,Yvo (by omega:k<4294967296),Yvo (by omega:m<4294967296),sel]
    cases h:((x.2.2.2.2.1[k]).2.1 == a)<;>simp[h])
   (fun k hk m m' hm e=>by cases e;split<;>omega)
   (fun m hm=>by
    simp only[Xdd.B,Yxe (Nat.le_refl _),Ywx]) n (by omega) (s:=((n:Int),0)) rfl
  refine Eq.trans h ?_;rw[Yfm,Xln]
 have h:=Ym3 (τ:=Nat) l (f:=fun s=>Xev.B a l (l.length:Int) s.1 s.2) (fun k m=>((m:Int),(k:Int))) (fun _ x m=>.inl (m+(x.2.2.2.2.1.map fun e=>e.2.1).count a)) (fun m=>((m:Nat):Int)) (fun k m=>m≤6*k)
  (fun k hk m hm=>by
   simp only[Xev.B,Yxm hk,Yxb hk,Yw4,toNat_cast,getD_lt _ hk,h1 _ _ _ (hl _ (List.getElem_mem hk)) m (by omega),Option.bind_some,Yvo (by omega:k<4294967296),sel])
  (fun k hk m m' hm e=>by cases e;have:=hl _ (List.getElem_mem hk);have:=List.count_le_length (a:=a) (l:=l[k].2.2.2.2.1.map fun e=>e.2.1);simp at this;omega)
  (fun m hm=>by simp only[Xev.B,Yxe (Nat.le_refl _),Ywx]) 0 (by omega) (s:=(0,0)) rfl
 have h':Xev a l (l.length:Int) (0,0)=_:=h;simp only[Xh2,h',Option.bind_some];rw[Yfm]
 have:∀ (l:List Xa) (m:Nat),l.foldl (fun t x=>t+(x.2.2.2.2.1.map fun e=>e.2.1).count a) m=m+(Xn2 l).count a:=by
  intro l
  induction l with
  |nil=>intro m;simp[Xn2]
  |cons y l ih=>intro m;rw[List.foldl_cons,ih];simp only[Xn2,List.flatMap_cons,List.count_append];omega
 rw[this,Nat.zero_add];rfl
noncomputable def Xfq (l:List Xa) (i:Nat) (x:Xa):Bool:=
 cond (x.1 == 0) false (cond (x.1 == 1) (cond (Xbg l i != x.2.1) true (!(Xah l 0).contains (i:Int))) (cond ((i:Int) == 0) (cond (Xbg l i != 0) true (!(Xah l 0).contains (i:Int))) (cond (Xbg l i != 1) true (!(Xah l 0).contains (i:Int)))))
noncomputable def Xbq (l:List Xa):Bool:=(List.range l.length).any fun i=>Xfq l i (l.getD i Xc)
theorem Xau {α ρ:Type} (l:List α) (d:α) {f:Int→Option (Int⊕(ρ⊕Unit))} (p:Nat→α→Bool) (r:ρ)
  (hs:∀ (i:Nat) (h:i<l.length),f (i:Int)=cond (p i l[i]) (some (.inr (.inl r))) (some (.inl ((i+1:Nat):Int)))) (he:f (l.length:Int)=some (.inr (.inr ()))) :
  Y9 f 0=some (cond ((List.range l.length).any fun i=>p i (l.getD i d)) (.inl r) (.inr ())):=by
 refine Ywl (List.range l.length) (fun i=>p i (l.getD i d)) r (fun i hi=>?_) (by rw[List.length_range];exact he)
 have hi':i<l.length:=by simpa using hi
 rw[hs i hi',List.getElem_range,getD_lt _ hi']
theorem Xsf (f:Fs_) (h:X8 f):Xj3 f=some (!Xbq f.1):=by
 have hn:=(Xa8.of h.inod).len;have h6:∀ x∈f.1,x.2.2.2.2.1.length≤6:=fun x hx=>((Xhr.of h.inod).ent x hx).1;have hrl:=Xlq f.1 0
 have hl:Xlf f (Xah f.1 0) 0=_:=Xau f.1 Xc (Xfq f.1) false (fun i hi=>by
  simp only[Xlf.B,Yxm hi,Yxb hi,Yw4,toNat_cast,getD_lt _ hi,Xs8 f.1 h6 hn,Xr3 _ _ (by omega:(Xah f.1 0).length≤2147483648),Option.bind_some,Yvo (by omega:i<4294967296),Xfq]
  cases (f.1[i].1 == 0)
  ·simp only[Ywx]
   cases (f.1[i].1 == 1)
   ·simp only[Ywx]
    cases ((i:Int) == 0)
    ·simp only[Ywx]
     cases (Xbg f.1 (i:Int) != 1)
     ·simp only[Ywx]
     ·rfl
    ·simp only[Yw4]
     cases (Xbg f.1 (i:Int) != 0)
     ·simp only[Ywx]
     ·rfl
   ·simp only[Yw4]
    cases (Xbg f.1 (i:Int) != f.1[i].2.1)
    ·simp only[Ywx]
    ·rfl
  ·rfl) (by simp only[Xlf.B,Yxe (Nat.le_refl _),Ywx])
 simp only[Xj3,Xs6 f h.Xqt hn h.pos,Option.bind_some,hl,Xbq]
 cases (List.range f.1.length).any fun i=>Xfq f.1 i (f.1.getD i Xc)<;>rfl
theorem Xr5 (f:Fs_) (h:X8 f):Xej f=some (cond (Xbq f.1) 1 0):=by
 have hn:=(Xa8.of h.inod).len;have h6:∀ x∈f.1,x.2.2.2.2.1.length≤6:=fun x hx=>((Xhr.of h.inod).ent x hx).1;have hrl:=Xlq f.1 0
 have hl:Xgd f f.1 (f.1.length:Int) (Xah f.1 0) 0=_:=Xau f.1 Xc (Xfq f.1) (1:Int) (fun i hi=>by
  have hk:=(Xa3 ((Xac h.inod).2 _ (List.getElem_mem hi))).1
  simp only[Xgd.B,Yxm hi,Yxb hi,Yw4,toNat_cast,getD_lt _ hi,Xuf f.1 h6 hn,Xo8 _ _ (by omega:(Xah f.1 0).length≤2147483648),Option.bind_some,Yvo (by omega:i<4294967296),Xfq]
  generalize hx:f.1[i]=x at hk
  by_cases e0:x.1=0
  ·rw[show(x.1 == 0)=true by simp[e0],show(x.1 == 1)=false by simp[e0],show(x.1 == 2)=false by simp[e0],show(x.1 != 0)=false by simp[e0]];rfl
  ·by_cases e1:x.1=1
   ·rw[show(x.1 == 0)=false by simp[e0],show(x.1 == 1)=true by simp[e1],show(x.1 == 2)=false by simp[e1],show(x.1 != 0)=true by simp[e0],show(x.2.1 != Xbg f.1 (i:Int))=(Xbg f.1 (i:Int) != x.2.1) by rw[bne,bne,Bool.beq_comm]]
    simp only[Yw4,Ywx]
    cases (Xbg f.1 (i:Int) != x.2.1)<;>rfl
   ·have e2:x.1=2:=by omega
    rw[show(x.1 == 0)=false by simp[e0],show(x.1 == 1)=false by simp[e1],show(x.1 == 2)=true by simp[e2],show(x.1 != 0)=true by simp[e0]]
    simp only[Yw4,Ywx]
    cases i with
    |zero=>
     rw[show(((0:Nat):Int) == 0)=true from rfl,show decide (((0:Nat):Int)>0)=false from rfl];simp only[Yw4,Ywx]
     cases (Xbg f.1 ((0:Nat):Int) != 0)<;>rfl
    |succ j=>
     rw[show(((j+1:Nat):Int) == 0)=false by simp;omega,show decide (((j+1:Nat):Int)>0)=true by simp]
     simp only[Yw4,Ywx]
     cases (Xbg f.1 ((j+1:Nat):Int) != 1)<;>rfl) (by simp only[Xgd.B,Yxe (Nat.le_refl _),Ywx])
 have hr:Xhq f.1 0=some (Xah f.1 0):=Xt8 h.Xqt hn 0 h.pos;simp only[Xej,hr,Option.bind_some,hl,Xbq]
 cases (List.range f.1.length).any fun i=>Xfq f.1 i (f.1.getD i Xc)<;>rfl
def Xls (a b:Int):Int:=cond (decide (a<b)) a b
theorem Xq9 (a b:Int):Xk9 a b=some (Xls a b):=by simp only[Xk9,Xls,Yvh]
theorem Xpy (a b:Int):cond (decide (a<b)) a b=Xls b a:=by
 unfold Xls
 by_cases h1:a<b
 ·rw[show decide (a<b)=true by simp[h1],show decide (b<a)=false by simp;omega];rfl
 ·by_cases h2:b<a
  ·rw[show decide (a<b)=false by simp;omega,show decide (b<a)=true by simp[h2]];rfl
  ·have:a=b:=by omega
   subst this;simp
def Xfw (x:Xa):Nat→List Int→List Int→List Int
 |_,[],w=>w
 |k,b::bs,w=>Xfw x (k+1) bs (w.set b.toNat (Xls 8 (w64 (x.2.2.1-w64 ((k:Int)*8)))))
def Xks:List Xa→List Int→List Int
 |[],w=>w
 |x::l,w=>Xks l (Xfw x 0 x.2.2.2.1 w)
def Xaa (l:List Xa):List Int:=Xks l (List.replicate 20 0)
theorem Xg4 (x:Xa):∀ (bs:List Int) (k:Nat) (w:List Int),(Xfw x k bs w).length=w.length
 |[],k,w=>rfl
 |b::bs,k,w=>by simp only[Xfw];rw[Xg4 x bs];simp
theorem Xmc:∀ (l:List Xa) (w:List Int),(Xks l w).length=w.length
 |[],w=>rfl
 |x::l,w=>by simp only[Xks];rw[Xmc l,Xg4]
theorem Xmh (l:List Xa):(Xaa l).length=20:=by unfold Xaa;rw[Xmc];simp
theorem Xhz (x:Xa):∀ (bs:List Int) (k:Nat) (w:List Int),Yba (fun k b w=>.inl (w.set b.toNat (Xls 8 (w64 (x.2.2.1-w64 ((k:Int)*8)))))) id k bs w=Xfw x k bs w
 |[],k,w=>rfl
 |b::bs,k,w=>by simp only[Yba,Yw2,Xfw];exact Xhz x bs _ _
theorem Xht:∀ (l:List Xa) (k:Nat) (w:List Int),Yba (fun _ x w=>.inl (Xfw x 0 x.2.2.2.1 w)) id k l w=Xks l w
 |[],k,w=>rfl
 |x::l,k,w=>by simp only[Yba,Yw2,Xks];exact Xht l _ _
theorem Xse (f:Fs_) (i:Int) (x:Xa) (h4:x.2.2.2.1.length≤4) (hb:∀ b∈x.2.2.2.1,0≤b∧b≤19) (w:List Int) (hw:w.length=20):Xh4 f i x (0,w)=some (Xfw x 0 x.2.2.2.1 w):=by
 have h:=Ym3 (τ:=List Int) x.2.2.2.1 (f:=fun s=>Xh4.B f i x s.1 s.2) (fun k w=>((k:Int),w)) (fun k b w=>.inl (w.set b.toNat (Xls 8 (w64 (x.2.2.1-w64 ((k:Int)*8)))))) id (fun k w=>w.length=20)
  (fun k hk w hw=>by
   have h2:=hb _ (List.getElem_mem hk)
   simp only[Xh4.B,Yxm hk,Yxb hk,Yw4,toNat_cast,getD_lt _ hk,Xq9,Option.bind_some,Yvo (by omega:k<4294967296),sel]
   rw[show inB (x.2.2.2.1[k]) w.length=true from Yu7 h2.1 (by omega)];rfl) (fun k hk w w' hw e=>by cases e;simpa using hw) (fun w hw=>by
   simp only[Xh4.B,Yxe (Nat.le_refl _),Ywx,id]) w hw (s:=(0,w)) rfl
 rw[Xhz] at h;exact h
theorem Xua (l:List Xa) (v v2:Int) (v3:List Int) (x:Xa) (h4:x.2.2.2.1.length≤4) (hb:∀ b∈x.2.2.2.1,0≤b∧b≤19) (w:List Int) (hw:w.length=20):Xcv l v v2 x.2.2.2.1 (x.2.2.2.1.length:Int) v3 x (0,w)=some (Xfw x 0 x.2.2.2.1 w):=by
 have h:=Ym3 (τ:=List Int) x.2.2.2.1 (f:=fun s=>Xcv.B l v v2 x.2.2.2.1 (x.2.2.2.1.length:Int) v3 x s.1 s.2) (fun k w=>((k:Int),w)) (fun k b w=>.inl (w.set b.toNat (Xls 8 (w64 (x.2.2.1-w64 ((k:Int)*8)))))) id (fun k w=>w.length=20)
  (fun k hk w hw=>by
   have h2:=hb _ (List.getElem_mem hk)
   simp only[Xcv.B,Yxm hk,Yxb hk,Yw4,toNat_cast,getD_lt _ hk,Xpy,Option.bind_some,Yvo (by omega:k<4294967296),sel]
   rw[show inB (x.2.2.2.1[k]) 20=true from Yu7 h2.1 (by omega)];rfl) (fun k hk w w' hw e=>by cases e;simpa using hw) (fun w hw=>by
   simp only[Xcv.B,Yxe (Nat.le_refl _),Ywx,id]) w hw (s:=(0,w)) rfl
 rw[Xhz] at h;exact h
theorem Xq7 (l:List Xa) (hok:Xa8 l):Xf1 l=some (Xaa l):=by
 have hl:=hok.len
 have h:=Ym3 (τ:=List Int) l (f:=fun s=>Xe6.B l (l.length:Int) (List.replicate 20 0) s.1 s.2) (fun k w=>((k:Int),w)) (fun _ x w=>.inl (Xfw x 0 x.2.2.2.1 w)) id (fun k w=>w.length=20)
  (fun k hk w hw=>by
   have h2:=hok.blk _ (List.getElem_mem hk)
   simp only[Xe6.B,Yxm hk,Yxb hk,Yw4,toNat_cast,getD_lt _ hk,Option.bind_some,Xua l _ _ _ _ h2.1 h2.2 w hw,Yvo (by omega:k<4294967296),sel]) (fun k hk w w' hw e=>by cases e;rw[Xg4];exact hw) (fun w hw=>by
   simp only[Xe6.B,Yxe (Nat.le_refl _),Ywx,id]) (List.replicate 20 0) (by simp) (s:=(0,List.replicate 20 0)) rfl
 rw[Xht] at h;have h':Xe6 l (l.length:Int) (List.replicate 20 0) (0,List.replicate 20 0)=some (Xaa l):=h;simp only[Xf1,h',Option.bind_some]
def Xbp (f:Fs_):Bool:=(List.range 20).any fun i=>((f.2.1.getD i []).length:Int) != (Xaa f.1).getD i 0
theorem Xsc (f:Fs_) (h:X8 f):Xgv f=some (!Xbp f):=by
 have hok:=Xa8.of h.inod;have hl:=hok.len;have hd:=h.dat
 have h1:=Ym3 (τ:=List Int) f.1 (f:=fun s=>Xjl.B f s.1 s.2) (fun k w=>((k:Int),w)) (fun _ x w=>.inl (Xfw x 0 x.2.2.2.1 w)) id (fun k w=>w.length=20)
  (fun k hk w hw=>by
   have h2:=hok.blk _ (List.getElem_mem hk)
   simp only[Xjl.B,Yxm hk,Yxb hk,Yw4,toNat_cast,getD_lt _ hk,Option.bind_some,Xse f _ _ h2.1 h2.2 w hw,Yvo (by omega:k<4294967296),sel]) (fun k hk w w' hw e=>by cases e;rw[Xg4];exact hw) (fun w hw=>by
   simp only[Xjl.B,Yxe (Nat.le_refl _),Ywx,id]) (List.replicate 20 0) (by simp) (s:=(0,List.replicate 20 0)) rfl
 rw[Xht] at h1;have h1':Xjl f (0,List.replicate 20 0)=some (Xaa f.1):=h1;have hwl:=Xmh f.1
 have h2:Xlb f (Xaa f.1) 0=_:=Xau f.2.1 [] (fun i b=>(b.length:Int) != (Xaa f.1).getD i 0) false (fun i hi=>by
  simp only[Xlb.B,Yxm hi,Yxb hi,Yxb (by omega:i<(Xaa f.1).length),Yw4,toNat_cast,getD_lt _ hi,Option.bind_some,Yvo (by omega:i<4294967296)]) (by
  simp only[Xlb.B,Yxe (Nat.le_refl _),Ywx])
 simp only[Xgv];rw[show(decide ((0:Int)≤(20:Int))&&(decide ((20:Int)≤(20:Int))&&decide ((20:Int)≤2147483648)))=true from rfl,show(20:Int).toNat=20 from rfl];simp only[Yw4,h1',Option.bind_some,h2,Xbp,hd]
 cases (List.range 20).any fun i=>((f.2.1.getD i []).length:Int) != (Xaa f.1).getD i 0<;>rfl
theorem Xro (f:Fs_) (h:X8 f):Xe7 f=some (cond (Xbp f) 1 0):=by
 have hok:=Xa8.of h.inod;have hd:=h.dat
 have h2:Xg1 f (Xaa f.1) 0=_:=Ywl (List.range 20) (fun i=>((f.2.1.getD i []).length:Int) != (Xaa f.1).getD i 0) (1:Int) (fun i hi=>by
  have hi':i<20:=by simpa using hi
  simp only[Xg1.B,show decide ((i:Int)<20)=true by simp;omega,Yxb hi',Yxb (by omega:i<f.2.1.length),Yw4,toNat_cast,Xku,Option.bind_some,Yvo (by omega:i<4294967296),List.getElem_range]) (by
  rw[List.length_range];rfl)
 simp only[Xe7,Xq7 f.1 hok,Option.bind_some,h2,Xbp]
 cases (List.range 20).any fun i=>((f.2.1.getD i []).length:Int) != (Xaa f.1).getD i 0<;>rfl
noncomputable def fsF (f:Fs_):Int:=cond (Xbx f != 0) (Xbx f) (cond (Xbq f.1) 1 (cond (Xbp f) 1 0))
theorem Xoo (f:Fs_) (hb:Bd Xo f):Xhd f=some (fsF f):=by
 simp only[Xhd,fsF,Xq1 f hb,Option.bind_some]
 cases h:(Xbx f != 0) with
 |true=>simp only[Yw4]
 |false=>
  have ht:=X8.of (by simpa using h:Xbx f=0)
  simp only[Ywx,Xsf f ht,Xsc f ht,Option.bind_some,Bool.not_not,Yvh]
theorem Xpd (f:Fs_) (hb:Bd Xo f):Xc7 f=some (fsF f):=by
 simp only[Xc7,fsF,Xqv f hb,Option.bind_some]
 cases h:(Xbx f != 0) with
 |true=>simp only[Yw4]
 |false=>
  have ht:=X8.of (by simpa using h:Xbx f=0)
  simp only[Ywx,Xr5 f ht,Xro f ht,Option.bind_some]
  cases Xbq f.1<;>cases Xbp f<;>rfl
structure Xl9 (f:Fs_):Prop where
 tree:X8 f
 lnk:Xbq f.1=false
 siz:Xbp f=false
theorem Xl9.of {f:Fs_} (h:fsF f=0):Xl9 f:=by
 unfold fsF at h
 cases h0:(Xbx f != 0) with
 |true=>rw[h0] at h;exact absurd h (by simpa using h0)
 |false=>
  rw[h0] at h
  cases h1:Xbq f.1 with
  |true=>rw[h1] at h;cases h
  |false=>
   rw[h1] at h
   cases h2:Xbp f with
   |true=>rw[h2] at h;cases h
   |false=>exact⟨X8.of (by simpa using h0),h1,h2⟩
theorem Xkd (l:List Xa):(Xaz l).length≤20:=by
 have:=List.length_filter_le (fun b=>(Xw l).contains b) r20;rw[Xmz] at this;exact this
theorem Xm0 (k:IntKind):∀ xs:List Int,(xs.map (wt (.int k))).sum=xs.length
 |[]=>rfl
 |x::xs=>by rw[List.map_cons,List.sum_cons,Xm0 k xs,Yw6,List.length_cons];omega
def Xae (e:Xg):List Int:=[e.2.1,(e.1.length:Int)]++e.1.map fun b=>(b.toNat:Int)
def Xai (x:Xa):List Int:=cond (x.1 != 2) ([x.1,x.2.1,x.2.2.1]++x.2.2.2.1) (([x.1,x.2.1,x.2.2.1]++x.2.2.2.1)++[(x.2.2.2.2.1.length:Int)]++x.2.2.2.2.1.flatMap Xae)
structure Xaf (x:Xa):Prop where
 blk:x.2.2.2.1.length≤4
 ent:x.2.2.2.2.1.length≤6
 nam:∀ e∈x.2.2.2.2.1,e.1.length≤4
theorem Xaf.of {x:Xa} (h:Xv x=0):Xaf x:=
 ⟨(Xar h).1,(Xa3 h).2.1,fun e he=>(Xpb ((Xa3 h).2.2.2.2.2 e he).1).2.1⟩
theorem Xj4 {e:Xg} (h:e.1.length≤4):(Xae e).length≤6:=by simp[Xae];omega
theorem Xlx:∀ {l:List Xg},(∀ e∈l,e.1.length≤4)→(l.flatMap Xae).length≤6*l.length
 |[],_=>by simp
 |e::l,h=>by
  have h1:=Xj4 (h e (List.mem_cons_self ..));have:=Xlx fun x hx=>h x (List.mem_cons_of_mem _ hx);simp only[List.flatMap_cons,List.length_append,List.length_cons];omega
theorem Xjf {x:Xa} (h:Xaf x):(Xai x).length≤44:=by
 unfold Xai;have:=Xlx h.nam;have:=h.blk;have:=h.ent;cases (x.1 != 2)
 ·simp only[Ywx,List.length_append,List.length_cons,List.length_nil];omega
 ·simp only[Yw4,List.length_append,List.length_cons,List.length_nil];omega
theorem Xpl (b:UInt8):w64 (b.toNat:Int)=(b.toNat:Int):=by
 have:=b.toNat_lt
 exact Yq5 (by omega) (by omega)
theorem Xj5 (g:Xg→List Int):∀ (l:List Xg) (t:List Int),l.foldl (fun t e=>t++g e) t=t++l.flatMap g
 |[],t=>by simp
 |e::l,t=>by rw[List.foldl_cons,Xj5 g l];simp
theorem Xqu (x:Xa) (h:Xaf x):Xh1 x=some (Xai x):=by
 have hb:=h.blk
 have h1:∀ (i:Int) (e:Xg) (t:List Int),e.1.length≤4→t.length≤1000→Xh5 x i e (0,t)=some (t++e.1.map fun b=>(b.toNat:Int)):=by
  intro i e t he ht
  exact Yvg e.1 (f:=fun s=>Xh5.B x i e s.1 s.2) (fun b=>(b.toNat:Int)) id t.length (fun k hk t ht=>by
   simp only[Xh5.B,Yxm hk,Yxb hk,Yw4,toNat_cast,getD_lt _ hk,Xpl,Option.bind_some,Yvo (by omega:k<4294967296)]
   rw[Xat (by simp;omega)];rfl) (fun t ht=>by
   simp only[Xh5.B,Yxe (Nat.le_refl _),Ywx,id]) t rfl
 have h0:∀ t:List Int,t.length≤10→Xke x (0,t)=some (t++x.2.2.2.2.1.flatMap Xae):=by
  intro t ht
  have:=Yib x.2.2.2.2.1 (f:=fun s=>Xke.B x s.1 s.2) (fun t e=>t++Xae e) id (fun k t=>t.length≤10+6*k) (fun k hk t ht=>by
   have he:=h.nam _ (List.getElem_mem hk);have hn:=h.ent;have hp:=Xj4 he
   refine⟨?_,by simp;omega⟩
   simp only[Xke.B,Yxm hk,Yxb hk,Yw4,toNat_cast,getD_lt _ hk,Option.bind_some,Yvo (by omega:k<4294967296)]
   rw[Xat (by simp;omega)]
   simp only[Yw4,h1 _ _ _ he (by simp;omega:(t++[(x.2.2.2.2.1[k]).2.1,((x.2.2.2.2.1[k]).1.length:Int)]).length≤1000),Option.bind_some,Xae,List.append_assoc]) (fun t ht=>by
   simp only[Xke.B,Yxe (Nat.le_refl _),Ywx,id]) t (by omega)
  rw[Xj5] at this;exact this
 simp only[Xh1,Xai]
 rw[Xat (by simp;omega)]
 simp only[Yw4];cases (x.1 != 2)
 ·simp only[Ywx,Option.bind_some]
  rw[Xat (by simp;omega)]
  simp only[Yw4,h0 _ (by simp;omega:(([x.1,x.2.1,x.2.2.1]++x.2.2.2.1)++[(x.2.2.2.2.1.length:Int)]).length≤10),Option.bind_some]
 ·rfl
theorem Xqq (x:Xa) (h:Xaf x):Xa9 x=some (Xai x):=by
 have hb:=h.blk
 have h1:∀ (v:List Xg) (v2 v3:Int) (e:Xg) (t:List Int),e.1.length≤4→t.length≤1000→Xc0 v v2 v3 (e.1.length:Int) e (0,t)=some (t++e.1.map fun b=>(b.toNat:Int)):=by
  intro v v2 v3 e t he ht
  exact Yvg e.1 (f:=fun s=>Xc0.B v v2 v3 (e.1.length:Int) e s.1 s.2) (fun b=>(b.toNat:Int)) id t.length (fun k hk t ht=>by
   simp only[Xc0.B,Yxm hk,Yxb hk,Yw4,toNat_cast,getD_lt _ hk,Xpl,Option.bind_some,Yvo (by omega:k<4294967296)]
   rw[Xat (by simp;omega)];rfl) (fun t ht=>by
   simp only[Xc0.B,Yxe (Nat.le_refl _),Ywx,id]) t rfl
 have h0:∀ t:List Int,t.length≤10→Xec x.2.2.2.2.1 (x.2.2.2.2.1.length:Int) (0,t)=some (t++x.2.2.2.2.1.flatMap Xae):=by
  intro t ht
  have:=Yib x.2.2.2.2.1 (f:=fun s=>Xec.B x.2.2.2.2.1 (x.2.2.2.2.1.length:Int) s.1 s.2) (fun t e=>t++Xae e) id (fun k t=>t.length≤10+6*k) (fun k hk t ht=>by
   have he:=h.nam _ (List.getElem_mem hk);have hn:=h.ent;have hp:=Xj4 he
   refine⟨?_,by simp;omega⟩
   simp only[Xec.B,Yxm hk,Yxb hk,Yw4,toNat_cast,getD_lt _ hk,Option.bind_some,Yvo (by omega:k<4294967296)]
   rw[Xat (by simp;omega)]
   simp only[Yw4,h1 _ _ _ _ _ he (by simp;omega:(t++[(x.2.2.2.2.1[k]).2.1,((x.2.2.2.2.1[k]).1.length:Int)]).length≤1000),Option.bind_some,Xae,List.append_assoc]) (fun t ht=>by
   simp only[Xec.B,Yxe (Nat.le_refl _),Ywx,id]) t (by omega)
  rw[Xj5] at this;exact this
 simp only[Xa9,Xai,Xki]
 rw[Xat (by simp;omega)]
 simp only[Yw4];cases (x.1 != 2)
 ·simp only[Ywx,Option.bind_some]
  rw[Xat (by simp;omega)]
  simp only[Yw4,h0 _ (by simp;omega:(([x.1,x.2.1,x.2.2.1]++x.2.2.2.1)++[(x.2.2.2.2.1.length:Int)]).length≤10),Option.bind_some]
 ·rfl
def Xu (l:List Xa):List Xj:=(List.range 10).map fun i:Nat=>((17:Int)+(i:Int),cond (decide (i<l.length)) (Xai (l.getD i Xc)) [],())
theorem Xly {β:Type} (n:Nat) {f:Int×List β→Option ((Int×List β)⊕List β)} (g:Nat→β)
  (hs:∀ (k:Nat) (h:k<n) (t:List β),t.length=k→f ((k:Int),t)=some (.inl (((k+1:Nat):Int),t++[g k]))) (he:∀ t,f ((n:Int),t)=some (.inr t)):Y9 f (0,[])=some ((List.range n).map g):=by
 have:=Yvg (List.range n) (f:=f) g id 0 (fun i hi t ht=>by
  have hi':i<n:=by simpa using hi
  rw[List.getElem_range];exact hs i hi' t (by omega)) (fun t ht=>by rw[List.length_range];exact he t) [] rfl
 simpa using this
theorem Xt0 (f:Fs_) (h:X4 f.1=0):Xd0 f=some (Xu f.1):=by
 have hl:=(Xa8.of h).len
 have h0:Xf8 f (0,[])=some (Xu f.1):=Xly 10 (f:=fun s=>Xf8.B f s.1 s.2) (fun i:Nat=>((17:Int)+(i:Int),cond (decide (i<f.1.length)) (Xai (f.1.getD i Xc)) [],())) (fun k hk t ht=>by
  simp only[Xf8.B,show decide ((k:Int)<10)=true by simp;omega,Yw4,Yq5 (x:=17+(k:Int)) (by omega) (by omega),Yvo (by omega:k<4294967296)]
  rw[Xat (by simp;omega)]
  by_cases hk2:k<f.1.length
  ·rw[Yxm hk2,show decide (k<f.1.length)=true by simp[hk2]]
   simp only[Yw4,Yxb hk2,toNat_cast,getD_lt _ hk2,Xqu _ (Xaf.of ((Xac h).2 _ (List.getElem_mem hk2))),Option.bind_some]
   rw[Xat (by simp;omega)];rfl
  ·rw[Yxe (by omega),show decide (k<f.1.length)=false by simp;omega];rfl) (fun t=>rfl)
 simp only[Xd0,h0,Option.bind_some]
theorem Xr8 (f:Fs_) (h:X4 f.1=0):Xff f=some (Xu f.1):=by
 have hl:=(Xa8.of h).len
 have h0:Xf3 f (0,[])=some (Xu f.1):=Xly 10 (f:=fun s=>Xf3.B f s.1 s.2) (fun i:Nat=>((17:Int)+(i:Int),cond (decide (i<f.1.length)) (Xai (f.1.getD i Xc)) [],())) (fun k hk t ht=>by
  simp only[Xf3.B,Xf7,Option.bind_some,show decide ((k:Int)<10)=true by simp;omega,Yw4,Yq5 (x:=17+(k:Int)) (by omega) (by omega),Yvo (by omega:k<4294967296)]
  rw[Xat (by simp;omega)]
  by_cases hk2:k<f.1.length
  ·rw[Yxm hk2,show decide (k<f.1.length)=true by simp[hk2]]
   simp only[Yw4,Yxb hk2,toNat_cast,getD_lt _ hk2,Xqq _ (Xaf.of ((Xac h).2 _ (List.getElem_mem hk2))),Option.bind_some]
   rw[Xat (by simp;omega)];rfl
  ·rw[Yxe (by omega),show decide (k<f.1.length)=false by simp;omega];rfl) (fun t=>rfl)
 simp only[Xff,h0,Option.bind_some]
theorem Xqk {l:List Xj} {n B:Nat} (hl:l.length≤n) (h:∀ p∈l,p.2.1.length≤B):wt (.sl Xl) l≤n*(B+2)+1:=by
 rw[Yug]
 have:=Ysy (wt Xl) (B+2) (xs:=l) fun p hp=>by
  have:=h p hp;have e:=Xm0 .i64 p.2.1;simp only[Yo6,Yug,Yw6,Ywr];show 1+((List.map (wt (.int .i64)) p.2.1).sum+1+0)≤_;rw[e];omega
 have:=Nat.mul_le_mul_right (B+2) hl;omega
theorem Xj7 {l:List Xa} (h:X4 l=0):∀ p∈Xu l,p.2.1.length≤44:=by
 intro p hp;obtain⟨i,hi,rfl⟩:=List.mem_map.1 hp;simp only
 by_cases h2:i<l.length
 ·rw[show decide (i<l.length)=true by simp[h2],getD_lt _ h2]
  exact Xjf (Xaf.of ((Xac h).2 _ (List.getElem_mem h2)))
 ·rw[show decide (i<l.length)=false by simp;omega];simp
def Xb2 (f:Fs_) (b:Int):Xj:=((27:Int)+b,f.2.1.getD b.toNat [],())
def X6 (f:Fs_):List Xj:=(Xaz f.1).map (Xb2 f)
def Xdg (f:Fs_):Prop:=∀ b∈f.2.1,∀ v∈b,0≤v∧v≤255
theorem Xt5 (f:Fs_) (ht:X8 f) (hby:Xdg f) (i:Nat) (out:List Xj) (v:List Int) (b3:Bool) (hi:i<v.length) (hv:0≤v[i]∧v[i]≤19) (a:Int):Xde f (i:Int) out v b3 () (0,(a,[],()))=some (a,f.2.1.getD v[i].toNat [],()):=by
 have hd:=ht.dat
 have hv1:v[i].toNat<f.2.1.length:=by omega
 have hm:=List.getElem_mem hv1;have hl:=ht.dl _ hm;rw[getD_lt _ hv1]
 have:=Ym3 (τ:=List Int) f.2.1[v[i].toNat] (f:=fun s=>Xde.B f (i:Int) out v b3 () s.1 s.2) (fun k t=>((k:Int),(a,t,()))) (fun _ x t=>.inl (t++[x])) (fun t=>((a,t,()):Xj)) (fun k t=>t.length≤k) (fun k hk t ht=>by
  have hx:=hby _ hm _ (List.getElem_mem hk)
  simp only[Xde.B,Yxb hi,Yw4,toNat_cast,getD_lt _ hi,show inB v[i] f.2.1.length=true from Yu7 hv.1 (by omega),getD_lt _ hv1,Option.bind_some,Yxm hk,Yxb hk,getD_lt _ hk,Yq5 (x:=f.2.1[v[i].toNat][k]) (by omega) (by omega),Yvo (by omega:k<4294967296),sel]
  rw[Xat (by simp;omega)];rfl) (fun k hk t t' h e=>by cases e;simp;omega) (fun t h=>by
  simp only[Xde.B,Yxb hi,Yw4,toNat_cast,getD_lt _ hi,show inB v[i] f.2.1.length=true from Yu7 hv.1 (by omega),getD_lt _ hv1,Option.bind_some,Yxe (Nat.le_refl _),Ywx]) [] (by simp) (s:=(0,(a,[],()))) rfl
 refine Eq.trans this ?_;have e:=Yqy (fun x:Int=>x) (fun t=>((a,t,()):Xj)) f.2.1[v[i].toNat] 0 [];rw[e];simp
theorem Xee {l:List Xa} {b:Int} (h:b∈Xaz l):0≤b∧b≤19:=(Xms b).1 (List.mem_filter.1 h).1
theorem Xsx (f:Fs_) (ht:X8 f) (hby:Xdg f):Xca f=some (X6 f):=by
 have hok:=Xa8.of ht.inod;have hu:=Xkd f.1
 have h0:Xd3 f (Xaz f.1) (Xbt f.1) () (0,[])=some ([]++(Xaz f.1).map (Xb2 f)):=Yvg (Xaz f.1) (f:=fun s=>Xd3.B f (Xaz f.1) (Xbt f.1) () s.1 s.2) (Xb2 f) id 0 (fun i hi t ht2=>by
  have hb:=Xee (List.getElem_mem hi)
  simp only[Xd3.B,Yxm hi,Yxb hi,Yw4,toNat_cast,getD_lt _ hi,Yq5 (x:=27+(Xaz f.1)[i]) (by omega) (by omega),Xt5 f ht hby i _ _ _ hi hb,Option.bind_some,Yvo (by omega:i<4294967296)]
  rw[Xat (by simp;omega)];rfl) (fun t ht=>by
  simp only[Xd3.B,Yxe (Nat.le_refl _),Ywx,id]) [] rfl
 simp only[Xca,Xq4 f.1 hok,Option.bind_some,h0,List.nil_append,X6]
theorem Xsa (f:Fs_) (v v2:Int) (list:List Xj) (v3:List Int) (v4:Bool) (b:List Int) (hl:b.length≤8) (hby:∀ x∈b,0≤x∧x≤255) (a:Int):Xda f v v2 b (b.length:Int) list v3 v4 () (0,(a,[],()))=some (a,b,()):=by
 have:=Ym3 (τ:=List Int) b (f:=fun s=>Xda.B f v v2 b (b.length:Int) list v3 v4 () s.1 s.2) (fun k t=>((k:Int),(a,t,()))) (fun _ x t=>.inl (t++[x])) (fun t=>((a,t,()):Xj)) (fun k t=>t.length≤k) (fun k hk t ht=>by
  have hx:=hby _ (List.getElem_mem hk)
  simp only[Xda.B,Yxm hk,Yxb hk,Yw4,toNat_cast,getD_lt _ hk,Yq5 (x:=b[k]) (by omega) (by omega),Yvo (by omega:k<4294967296),sel]
  rw[Xat (by simp;omega)];rfl) (fun k hk t t' h e=>by cases e;simp;omega) (fun t h=>by
  simp only[Xda.B,Yxe (Nat.le_refl _),Ywx]) [] (by simp) (s:=(0,(a,[],()))) rfl
 refine Eq.trans this ?_;have e:=Yqy (fun x:Int=>x) (fun t=>((a,t,()):Xj)) b 0 [];rw[e];simp
theorem Xtu (f:Fs_) (ht:X8 f) (hby:Xdg f):Xb6 f=some (X6 f):=by
 have hok:=Xa8.of ht.inod;have hu:=Xkd f.1;have hd:=ht.dat
 have h0:Xe5 f ((Xaz f.1).length:Int) (Xaz f.1) (Xbt f.1) () (0,[])=some ([]++(Xaz f.1).map (Xb2 f)):=Yvg (Xaz f.1) (f:=fun s=>Xe5.B f ((Xaz f.1).length:Int) (Xaz f.1) (Xbt f.1) () s.1 s.2) (Xb2 f) id 0 (fun i hi t ht2=>by
  have hb:=Xee (List.getElem_mem hi)
  have hlt:(Xaz f.1)[i].toNat<f.2.1.length:=by omega
  have hm:=List.getElem_mem hlt
  simp only[Xe5.B,Yxm hi,Yxb hi,Yw4,toNat_cast,getD_lt _ hi,show inB (Xaz f.1)[i] f.2.1.length=true from Yu7 hb.1 (by omega),getD_lt _ hlt,Yq5 (x:=27+(Xaz f.1)[i]) (by omega) (by omega),Xsa f _ _ _ _ _ _ (ht.dl _ hm) (hby _ hm),Option.bind_some,Yvo (by omega:i<4294967296),Xb2]
  rw[Xat (by simp;omega)];rfl) (fun t ht=>by
  simp only[Xe5.B,Yxe (Nat.le_refl _),Ywx,id]) [] rfl
 simp only[Xb6,Xod f.1 hok,Xo2 f.1 hok ht.once,Option.bind_some,h0,List.nil_append,X6]
theorem Xov {f:Fs_} (h:Fit Xo f):Xdg f:=by
 intro b hb v hv;have h1:Fit (.sl (.sl (.int .u8))) f.2.1:=h.2.1;have h2:=h1 b hb v hv;exact h2
theorem Xfp {n:Int} (h : -9223372036854775808≤n) (h':n<9223372036854775808):w64 n=n:=Yq5 h (by omega)
def Xnu (n:Int) (p:Xj):Int:=cond (!inR p.1 0 n) 3 (X9 p.2.1)
def Xb0 (d:Xd):Int:=cond (cond (decide ((d.1.length:Int)>60)) true (decide ((d.2.1.length:Int)>200))) 2 (cond (Yeg X9 d.1 != 0) (Yeg X9 d.1) (Yeg (Xnu ((d.1.length:Int)-1)) d.2.1))
theorem Xmx {d:Xd} (h1:d.1.length≤60) (h2:d.2.1.length≤200):cond (decide ((d.1.length:Int)>60)) true (decide ((d.2.1.length:Int)>200))=false:=by
 rw[show decide ((d.1.length:Int)>60)=false by simp;omega,show decide ((d.2.1.length:Int)>200)=false by simp;omega];rfl
theorem Xnz {d:Xd} (h:¬ (d.1.length≤60∧d.2.1.length≤200)):cond (decide ((d.1.length:Int)>60)) true (decide ((d.2.1.length:Int)>200))=true:=by
 by_cases h1:d.1.length≤60
 ·rw[show decide ((d.2.1.length:Int)>200)=true by simp;omega];cases decide ((d.1.length:Int)>60)<;>rfl
 ·rw[show decide ((d.1.length:Int)>60)=true by simp;omega];rfl
theorem Xn6 (d:Xd):Xb1 d=some (Xb0 d):=by
 simp only[Xb1,Xb0,Option.bind_some]
 by_cases hb:d.1.length≤60∧d.2.1.length≤200
 ·obtain⟨b1,b2⟩:=hb
  have h:Xli d 0=_:=Yus d.1 X9 (fun i hi=>by
   simp only[Xli.B,Yxm hi,Yxb hi,Yw4,toNat_cast,getD_lt _ hi,Xon,Option.bind_some,Yvo (by omega:i<4294967296)]) (by
   simp only[Xli.B,Yxe (Nat.le_refl _),Ywx])
  have hw:w64 ((d.1.length:Int)-1)=(d.1.length:Int)-1:=Xfp (by omega) (by omega)
  have h':Xlc d 0=_:=Yus d.2.1 (Xnu ((d.1.length:Int)-1)) (fun i hi=>by
   simp only[Xlc.B,Yxm hi,Yxb hi,Yw4,toNat_cast,getD_lt _ hi,Xon,Xhh,hw,Option.bind_some,Yvo (by omega:i<4294967296),Xnu]
   cases inR d.2.1[i].1 0 ((d.1.length:Int)-1)<;>rfl) (by
   simp only[Xlc.B,Yxe (Nat.le_refl _),Ywx])
  rw[Xmx b1 b2,Ywx,Ywx,h,h',Xaw,Xaw,Xa2]
  cases (Yeg X9 d.1 != 0)<;>rfl
 ·rw[Xnz hb];rfl
theorem Xrw (d:Xd):Xcg d=some (Xb0 d):=by
 simp only[Xcg,Xb0,Option.bind_some]
 by_cases hb:d.1.length≤60∧d.2.1.length≤200
 ·obtain⟨b1,b2⟩:=hb
  have h:Xfy d d.1 (d.1.length:Int) 0=_:=Yus d.1 X9 (fun i hi=>by
   simp only[Xfy.B,Yxm hi,Yxb hi,Yw4,toNat_cast,getD_lt _ hi,Xpc,Option.bind_some,Yvo (by omega:i<4294967296)]) (by
   simp only[Xfy.B,Yxe (Nat.le_refl _),Ywx])
  have hw:w64 ((d.1.length:Int)-1)=(d.1.length:Int)-1:=Xfp (by omega) (by omega)
  have h':Xf9 d d.2.1 (d.2.1.length:Int) 0=_:=Yus d.2.1 (Xnu ((d.1.length:Int)-1)) (fun i hi=>by
   simp only[Xf9.B,Xkv,Yxm hi,Yxb hi,Yw4,toNat_cast,getD_lt _ hi,Xpc,Xk0,hw,Option.bind_some,Yvo (by omega:i<4294967296),Xnu]
   cases inR d.2.1[i].1 0 ((d.1.length:Int)-1)<;>rfl) (by
   simp only[Xf9.B,Yxe (Nat.le_refl _),Ywx])
  rw[Xmx b1 b2,Ywx,Ywx,h,h',Xaw,Xaw,Xa2]
  cases (Yeg X9 d.1 != 0)<;>rfl
 ·rw[Xnz hb];rfl
structure Xy (d:Xd):Prop where
 l1:d.1.length≤60
 l2:d.2.1.length≤200
 w1:∀ w∈d.1,w.length≤64∧∀ x∈w,0≤x∧x≤65535
 w2:∀ p∈d.2.1,(0≤p.1∧p.1≤(d.1.length:Int)-1)∧p.2.1.length≤64∧∀ x∈p.2.1,0≤x∧x≤65535
theorem Xy.of {d:Xd} (h:Xb0 d=0):Xy d:=by
 unfold Xb0 at h
 by_cases hb:d.1.length≤60∧d.2.1.length≤200
 ·obtain⟨b1,b2⟩:=hb
  rw[Xmx b1 b2,Ywx] at h
  cases hc:(Yeg X9 d.1 != 0) with
  |true=>rw[hc,Yw4] at h;simp[h] at hc
  |false=>
   rw[hc,Ywx] at h
   refine⟨b1,b2,fun w hw=>Xeg (Xao.1 (by simpa using hc) w hw),fun p hp=>?_⟩
   have hp:=Xao.1 h p hp;unfold Xnu at hp
   cases hr:inR p.1 0 ((d.1.length:Int)-1) with
   |false=>rw[hr] at hp;cases hp
   |true=>rw[hr] at hp;exact⟨X3.1 hr,Xeg hp⟩
 ·rw[Xnz hb] at h;cases h
def Xq (d:Xd) (at_:Int):List Int:=match Yfg d.2.1 at_ d.2.1.length with
 |some j=>(d.2.1.getD j (0,[],())).2.1
 |none=>d.1.getD at_.toNat []
theorem Xox {d:Xd} (h:d.2.1.length≤200) {at_:Int} (h0:0≤at_) (h1:at_<(d.1.length:Int)):Yl3 d at_=some (Xq d at_):=by
 simp only[Yl3,Xq]
 rw[show decide (d.2.1.length≤2147483648)=true by simp;omega,Yw4]
 cases Yfg d.2.1 at_ d.2.1.length with
 |some j=>rfl
 |none=>simp only[inB,decide_eq_true h0,decide_eq_true h1,Bool.and_self,Yw4]
theorem Xn9 {d:Xd} (h:d.2.1.length≤200) {at_:Int} (h0:0≤at_) (h1:at_<(d.1.length:Int)):Xck d at_=some (Xq d at_):=Xox h h0 h1
theorem Xqo {d:Xd} (h:d.2.1.length≤200) (at_:Int):∀ (k:Nat),k≤d.2.1.length→Xfr d at_ ((k:Int)-1)=some (match Yfg d.2.1 at_ k with | some j=>.inl (d.2.1.getD j (0,[],())).2.1 | none=>.inr ())
 |0,_=>Y5 (by
  show Xfr.B d at_ (((0:Nat):Int)-1)=some (.inr (.inr ()));unfold Xfr.B
  rw[show decide ((((0:Nat):Int)-1)≥0)=false by simp];rfl)
 |k+1,hk=>by
  have e:((k+1:Nat):Int)-1=(k:Int):=by omega
  have hlt:k<d.2.1.length:=by omega
  rw[e]
  have hB:Xfr.B d at_ (k:Int)=cond (d.2.1[k].1 == at_) (some (.inr (.inl d.2.1[k].2.1))) (some (.inl ((k:Int)-1))):=by
   simp only[Xfr.B,Yxb hlt,toNat_cast,getD_lt _ hlt,Yw4,show decide ((k:Int)≥0)=true by simp,Xfp (by omega : -9223372036854775808≤(k:Int)-1) (by omega)]
  have eg:d.2.1.getD k (0,[],())=d.2.1[k]:=getD_lt _ hlt
  by_cases hc:d.2.1[k].1=at_
  ·rw[show Xfr d at_ (k:Int)=some (.inl d.2.1[k].2.1) from Y5 (by
    show Xfr.B d at_ (k:Int)=_
    rw[hB,show(d.2.1[k].1 == at_)=true by simpa using hc,Yw4])]
   simp only[Yfg,eg,if_pos hc]
  ·rw[show Xfr d at_ (k:Int)=Xfr d at_ ((k:Int)-1) from Yaq (by
    show Xfr.B d at_ (k:Int)=_
    rw[hB,show(d.2.1[k].1 == at_)=false by simpa using hc,Ywx]),Xqo h at_ k (by omega)]
   simp only[Yfg,eg,if_neg hc]
theorem Xn8 {d:Xd} (h:d.2.1.length≤200) {at_:Int} (h0:0≤at_) (h1:at_<(d.1.length:Int)):Xgm d at_=some (Xq d at_):=by
 simp only[Xgm,Xq]
 rw[Xfp (by omega : -9223372036854775808≤(d.2.1.length:Int)-1) (by omega),Xqo h at_ _ (Nat.le_refl _)]
 cases Yfg d.2.1 at_ d.2.1.length with
 |some j=>rfl
 |none=>simp only[Option.bind_some,sel,inB,decide_eq_true h0,decide_eq_true h1,Bool.and_self,Yw4]
def Xav (d:Xd):Int×Int:=cond (Xb0 d != 0) (0,Xb0 d) (cond ((d.1.length:Int) != 47) (0,1) (cond (cond (((Xq d 0).length:Int) != 2) true ((Xq d 0).getD 0 0 != 7)) (0,5) (cond (!inR ((Xq d 0).getD 1 0) 1 60000) (0,5) ((Xq d 0).getD 1 0,0))))
theorem Xo4 (d:Xd):Xdt d=some (Xav d):=by
 simp only[Xdt,Xav,Xrw,Option.bind_some]
 cases h:(Xb0 d != 0) with
 |true=>rfl
 |false=>
  have hok:=Xy.of (by simpa using h)
  simp only[Ywx]
  cases h1:((d.1.length:Int) != 47) with
  |true=>rfl
  |false=>
   have h47:(d.1.length:Int)=47:=by simpa using h1
   simp only[Ywx,Xn9 hok.l2 (Int.le_refl 0) (by omega),Option.bind_some]
   cases h2:(((Xq d 0).length:Int) != 2) with
   |true=>rfl
   |false=>
    have hl2:(Xq d 0).length=2:=by
      have:((Xq d 0).length:Int)=2:=by simpa using h2
      omega
    rw[hl2];simp only[Ywx,Yw4,Bool.not_false,show inB 0 2=true from rfl,show inB 1 2=true from rfl,Xkm,Xk0,Option.bind_some,Int.toNat_zero,show(1:Int).toNat=1 from rfl]
    cases ((Xq d 0).getD 0 0 != 7) with
    |true=>rfl
    |false=>cases inR ((Xq d 0).getD 1 0) 1 60000<;>rfl
theorem Xpf (d:Xd):Xhw d=some ((Xav d).2,(Xav d).1,()):=by
 simp only[Xhw,Xav,Xn6,Option.bind_some]
 cases h:(Xb0 d != 0) with
 |true=>rfl
 |false=>
  have hok:=Xy.of (by simpa using h)
  simp only[Ywx]
  cases h1:((d.1.length:Int) != 47) with
  |true=>rfl
  |false=>
   have h47:(d.1.length:Int)=47:=by simpa using h1
   simp only[Ywx,Xn8 hok.l2 (Int.le_refl 0) (by omega),Option.bind_some]
   cases h2:(((Xq d 0).length:Int) != 2) with
   |true=>rfl
   |false=>
    have hl2:(Xq d 0).length=2:=by
      have:((Xq d 0).length:Int)=2:=by simpa using h2
      omega
    rw[hl2];simp only[Ywx,Yw4,Bool.not_false,show inB 0 2=true from rfl,show inB 1 2=true from rfl,Xnj,Xhh,Option.bind_some,Int.toNat_zero,show(1:Int).toNat=1 from rfl]
    cases ((Xq d 0).getD 0 0 != 7) with
    |true=>rfl
    |false=>cases inR ((Xq d 0).getD 1 0) 1 60000<;>rfl
theorem Xol:∀ (a b:List Int) (c:List Int) (i:Nat),c.drop i=b→a.length=b.length→
  Yba (τ:=Unit) (fun i x _=>cond (x != c.getD i 0) (.inr (.inl false)) (.inl ())) (fun _=>(.inr ():Bool⊕Unit)) i a ()=cond (a == b) (.inr ()) (.inl false)
 |[],[],c,i,h,hl=>rfl
 |x::a,y::b,c,i,h,hl=>by
  have hc:c.getD i 0=y:=by
   have:(c.drop i)[0]? = some y:=by rw[h];rfl
   rw[List.getElem?_drop] at this;simp only[Nat.add_zero] at this;simp[List.getD,this]
  have hd:c.drop (i+1)=b:=by
   have:(c.drop i).drop 1=b:=by rw[h];rfl
   rwa [List.drop_drop] at this
  simp only[Yba,hc]
  cases he:(x != y) with
  |true=>
   have:(x::a == y::b)=false:=by
    have hne:x≠y:=by simpa using he
    simp[hne]
   rw[this];rfl
  |false=>
   have hxy:x=y:=by simpa using he
   subst hxy
   have ih:=Xol a b c (i+1) hd (by simpa using hl)
   simp only[Ywx,sel];rw[ih]
   have:(x::a == x::b)=(a == b):=by simp
   rw[this]
theorem Xn7 {f:Int→Option (Int⊕(Bool⊕Unit))} (a b:List Int) (hl:a.length=b.length)
  (hs:∀ (i:Nat) (h:i<a.length),f (i:Int)=cond (a[i] != b.getD i 0) (some (.inr (.inl false))) (some (.inl ((i+1:Nat):Int)))) (he:f (a.length:Int)=some (.inr (.inr ()))) :
  Y9 f 0=some (cond (a == b) (.inr ()) (.inl false)):=by
 rw[Yfj (τ:=Unit) a (fun i _=>(i:Int)) (fun i x _=>cond (x != b.getD i 0) (.inr (.inl false)) (.inl ())) (fun _=>(.inr ():Bool⊕Unit)) (fun i hi t=>by rw[hs i hi];cases (a[i] != b.getD i 0)<;>rfl) (fun t=>he) () (s:=0) rfl,Xol a b b 0 rfl hl]
theorem Xph {a b:List Int} (h:a.length≠b.length):(a == b)=false:=by
 have:a≠b:=fun e=>h (by rw[e])
 simpa using this
theorem Xpm (a b:List Int) (hl:a.length≤2147483648):Xgn a b=some (a == b):=by
 simp only[Xgn]
 by_cases h:a.length=b.length
 ·rw[show((a.length:Int) != (b.length:Int))=false by simp[h],Ywx]
  have:=Xn7 (f:=fun s=>Xkb.B a b s) a b h (fun i hi=>by
   simp only[Xkb.B,Yxm hi,Yxb hi,Yxb (show i<b.length by omega),Yw4,toNat_cast,getD_lt _ hi,Yvo (by omega:i<4294967296)]) (by
   simp only[Xkb.B,Yxe (Nat.le_refl _),Ywx])
  rw[show Xkb a b 0=_ from this]
  cases (a == b)<;>rfl
 ·rw[show((a.length:Int) != (b.length:Int))=true by simp;omega,Yw4,Xph h]
theorem Xpj (a b:List Int) (hl:a.length≤2147483648):Xcf a b=some (a == b):=by
 simp only[Xcf]
 by_cases h:a.length=b.length
 ·rw[show((a.length:Int) != (b.length:Int))=false by simp[h],Ywx]
  have:=Xn7 (f:=fun s=>Xdi.B a b (a.length:Int) s) a b h (fun i hi=>by
   simp only[Xdi.B,Yxm hi,Yxb hi,Yxb (show i<b.length by omega),Yw4,toNat_cast,getD_lt _ hi,Yvo (by omega:i<4294967296)]) (by
   simp only[Xdi.B,Yxe (Nat.le_refl _),Ywx])
  rw[show Xdi a b (a.length:Int) 0=_ from this]
  cases (a == b)<;>rfl
 ·rw[show((a.length:Int) != (b.length:Int))=true by simp;omega,Yw4,Xph h]
theorem Xp1 (a b:List Int):(a == b)=(b == a):=by
 by_cases h:a=b
 ·subst h;rfl
 ·have h':b≠a:=fun e=>h e.symm
  rw[beq_eq_false_iff_ne.2 h,beq_eq_false_iff_ne.2 h']
def chg (d:Xd) (p:Xj):Bool:=!(p.2.1 == Xq d p.1)
def X0 (d:Xd) (list:List Xj):List Xj:=list.filter (chg d)
theorem Xgr {α:Type} (k:α→Bool):∀ (l:List α) (t:List α),l.foldl (fun t x=>cond (k x) (t++[x]) t) t=t++l.filter k
 |[],t=>by simp
 |x::l,t=>by
  rw[List.foldl_cons,Xgr k l,List.filter_cons]
  cases k x<;>simp
theorem Xfm {d:Xd} (hok:Xy d) (at_:Int):(Xq d at_).length≤64:=by
 unfold Xq
 cases h:Yfg d.2.1 at_ d.2.1.length with
 |some j=>
  have hj:j<d.2.1.length:=by
   have:∀ (ps:List (Int×List Int×Unit)) (k j:Nat),Yfg ps at_ k=some j→j<k:=by
    intro ps k
    induction k with
    |zero=>intro j h;cases h
    |succ k ih=>
     intro j h;unfold Yfg at h
     split at h
     ·cases h;omega
     ·have:=ih j h;omega
   exact this _ _ _ h
  show(d.2.1.getD j (0,[],())).2.1.length≤64;rw[show d.2.1.getD j (0,[],())=d.2.1[j] from getD_lt _ hj]
  exact(hok.w2 _ (List.getElem_mem hj)).2.1
 |none=>
  show(d.1.getD at_.toNat []).length≤64;rw[List.getD_eq_getElem?_getD]
  cases h2:d.1[at_.toNat]? with
  |none=>simp
  |some w=>exact(hok.w1 w (List.mem_of_getElem? h2)).1
theorem Xqp {d:Xd} (hok:Xy d) {list:List Xj} (hl:list.length≤60) (hp:∀ p∈list,0≤p.1∧p.1<(d.1.length:Int)) (hw:∀ p∈list,p.2.1.length≤2147483648) :
  Xdc d list=some (X0 d list):=by
 have h:Xdv d list (0,[])=some (list.foldl (fun t x=>cond (chg d x) (t++[x]) t) []):=Yib list (f:=fun s=>Xdv.B d list s.1 s.2) _ (fun t=>t) (fun i t=>t.length≤i) (fun i hi t ht=>by
   have hm:=List.getElem_mem hi;obtain⟨p0,p1⟩:=hp _ hm;have hw:=hw _ hm
   constructor
   ·simp only[Xdv.B,Yxm hi,Yxb hi,Yw4,toNat_cast,getD_lt _ hi,Xn8 hok.l2 p0 p1,Option.bind_some,Xpm _ _ (Nat.le_trans (Xfm hok _) (by omega)),Xaq,List.nil_append,decide_eq_true hw,Yvo (by omega:i<4294967296),chg,Xp1 (Xq d list[i].1)]
    cases (list[i].2.1 == Xq d list[i].1) with
    |true=>rfl
    |false=>
     simp only[Bool.not_false,Yw4]
     rw[show decide ((t++[list[i]]).length≤2147483648)=true by simp;omega,Yw4]
   ·cases chg d list[i]
    ·exact Nat.le_succ_of_le ht
    ·simp;omega) (fun t ht=>by
   simp only[Xdv.B,Yxe (Nat.le_refl _),Ywx]) [] (Nat.le_refl _)
 simp only[Xdc,h,Option.bind_some,Xgr,List.nil_append,X0]
theorem Xqy {d:Xd} (hok:Xy d) {list:List Xj} (hl:list.length≤60) (hp:∀ p∈list,0≤p.1∧p.1<(d.1.length:Int)) (hw:∀ p∈list,p.2.1.length≤2147483648) :
  Xci d list=some (X0 d list):=by
 have h:Xdx d list (list.length:Int) (0,[])=some (list.foldl (fun t x=>cond (chg d x) (t++[x]) t) []):=Yib list (f:=fun s=>Xdx.B d list (list.length:Int) s.1 s.2) _ (fun t=>t) (fun i t=>t.length≤i) (fun i hi t ht=>by
   have hm:=List.getElem_mem hi;obtain⟨p0,p1⟩:=hp _ hm;have hw:=hw _ hm
   constructor
   ·simp only[Xdx.B,Yxm hi,Yxb hi,Yw4,toNat_cast,getD_lt _ hi,Xn9 hok.l2 p0 p1,Option.bind_some,Xpj _ _ hw,Yvo (by omega:i<4294967296),chg]
    cases (list[i].2.1 == Xq d list[i].1) with
    |true=>rfl
    |false=>
     simp only[Bool.not_false,Yw4]
     rw[show decide ((t++[list[i]]).length≤2147483648)=true by simp;omega,Yw4]
   ·cases chg d list[i]
    ·exact Nat.le_succ_of_le ht
    ·simp;omega) (fun t ht=>by
   simp only[Xdx.B,Yxe (Nat.le_refl _),Ywx]) [] (Nat.le_refl _)
 simp only[Xci,h,Option.bind_some,Xgr,List.nil_append,X0]
theorem Xl1 {l:List Xj} (h:l.length≤2147483648) (hw:∀ p∈l,p.2.1.length≤2147483648):Yfa l=some l:=by
 have:(decide (l.length≤2147483648)&&l.all (fun x=>decide (x.2.1.length≤2147483648)))=true:=by
  simp only[Bool.and_eq_true,decide_eq_true_eq,List.all_eq_true];exact⟨h,hw⟩
 simp only[Yfa,this,Yw4]
theorem Xix {d:Xd} (h:(Xav d).2=0):Xy d∧(d.1.length:Int)=47:=by
 unfold Xav at h
 cases h1:(Xb0 d != 0) with
 |true=>
  rw[h1,Yw4] at h;have h':Xb0 d=0:=h
  rw[h'] at h1;cases h1
 |false=>
  rw[h1,Ywx] at h
  refine⟨Xy.of (by simpa using h1),?_⟩
  cases h2:((d.1.length:Int) != 47) with
  |true=>rw[h2] at h;cases h
  |false=>simpa using h2
theorem Xh8 {l:List Xj} (h:l.length≤1048576) (hw:∀ p∈l,p.2.1.length≤2147483648):Ygy l=some (l.map toStep):=by
 have:(decide (l.length≤1048576)&&l.all (fun x=>decide (x.2.1.length≤2147483648)))=true:=by
  simp only[Bool.and_eq_true,decide_eq_true_eq,List.all_eq_true];exact⟨h,hw⟩
 simp only[Ygy,this,Yw4]
theorem Xq8 {l:List Xj} (h:l.length≤1048576) (hw:∀ p∈l,p.2.1.length≤2147483648):Xcl l=some (l.map toStep):=by
 have hh:Xew l (0,[])=some ([]++l.map toStep):=by
  rw[←foldl_map]
  exact Yib l (f:=fun s=>Xew.B l s.1 s.2) (fun t x=>t++[toStep x]) (fun t=>t) (fun i t=>t.length≤i) (fun i hi t ht=>by
   have hw:=hw _ (List.getElem_mem hi)
   constructor
   ·simp only[Xew.B,Yxm hi,Yxb hi,Yw4,toNat_cast,getD_lt _ hi,Option.bind_some,Xaq,List.nil_append,decide_eq_true hw,Yvo (by omega:i<4294967296),toStep]
    rw[show decide ((t++[((false,l[i].1,l[i].2.1,()):Xr)]).length≤2147483648)=true by simp;omega,Yw4]
   ·simp;omega) (fun t ht=>by
   simp only[Xew.B,Yxe (Nat.le_refl _),Ywx]) [] (Nat.le_refl _)
 simp only[Xcl,hh,Option.bind_some,List.nil_append]
theorem Xja {d:Xd} (h:(Xav d).2=0):1≤(Xav d).1∧(Xav d).1≤60000:=by
 unfold Xav at h ⊢
 cases h1:(Xb0 d != 0) with
 |true=>rw[h1,Yw4] at h;have h':Xb0 d=0:=h;rw[h'] at h1;cases h1
 |false=>
  rw[h1,Ywx] at h
  cases h2:((d.1.length:Int) != 47) with
  |true=>rw[h2] at h;cases h
  |false=>
   rw[h2,Ywx] at h
   cases h3:(cond (((Xq d 0).length:Int) != 2) true ((Xq d 0).getD 0 0 != 7)) with
   |true=>rw[h3] at h;cases h
   |false=>
    rw[h3,Ywx] at h
    cases h4:inR ((Xq d 0).getD 1 0) 1 60000 with
    |false=>rw[h4] at h;cases h
    |true=>exact X3.1 h4
theorem Xy.zero {d:Xd} (h:Xy d):Xb0 d=0:=by
 have hw:∀ w:List Int,w.length≤64→(∀ x∈w,0≤x∧x≤65535)→X9 w=0:=fun w h1 h2=>by
  unfold X9
  rw[show decide ((w.length:Int)>64)=false by simp;omega,Ywx]
  rw[show(w.any fun x=>!inR x 0 65535)=false from List.any_eq_false.2 (fun x hx=>by
   have:=X3.2 (h2 x hx);simp[this])]
  rfl
 unfold Xb0;rw[Xmx h.l1 h.l2,Ywx];rw[Xao.2 (fun w hm=>hw w (h.w1 w hm).1 (h.w1 w hm).2)];show cond ((0:Int) != 0) _ _=0;rw[show((0:Int) != 0)=false from rfl,Ywx];refine Xao.2 (fun p hm=>?_);obtain⟨h1,h2,h3⟩:=h.w2 p hm;unfold Xnu;rw[X3.2 h1];exact hw _ h2 h3
theorem Xp3 {α β:Type}:∀ (l:List α) (a:List α) (b:β),l.foldl (fun(t:List α×β) x=>(t.1++[x],t.2)) (a,b)=(a++l,b)
 |[],a,b=>by simp
 |x::l,a,b=>by rw[List.foldl_cons,Xp3 l];simp
theorem Xrb {α β γ:Type}:∀ (l:List α) (a:β) (b:List α) (c:γ),l.foldl (fun(t:β×List α×γ) x=>(t.1,t.2.1++[x],t.2.2)) (a,b,c)=(a,b++l,c)
 |[],a,b,c=>by simp
 |x::l,a,b,c=>by rw[List.foldl_cons,Xrb l];simp
theorem Xog {d:Xd} (h:Xy d):Xa0 d=some d:=by
 obtain⟨bs,ps,⟨⟩⟩:=d;have hl1:bs.length≤60:=h.l1;have hl2:ps.length≤200:=h.l2
 have h0:Xd9 (bs,ps,()) ([],[],()) (0,([],[],()))=some (bs.foldl (fun(t:List (List Int)×List Xj×Unit) x=>(t.1++[x],t.2)) ([],[],())):=
  Yib bs (f:=fun s=>Xd9.B (bs,ps,()) ([],[],()) s.1 s.2) _ (fun t=>t) (fun i t=>t.1.length≤i) (fun i hi t ht=>by
   have hw:bs[i].length≤64:=(h.w1 _ (List.getElem_mem hi)).1
   constructor
   ·simp only[Xd9.B,Yxm hi,Yxb hi,Yw4,toNat_cast,getD_lt _ hi,Xaq,List.nil_append,decide_eq_true (show bs[i].length≤2147483648 by omega),Option.bind_some,Yvo (by omega:i<4294967296)]
    rw[show decide ((t.1++[bs[i]]).length≤2147483648)=true by simp;omega,Yw4]
   ·simp;omega) (fun t ht=>by simp only[Xd9.B,Yxe (Nat.le_refl _),Ywx]) _ (Nat.le_refl _)
 have h1:Xef (bs,ps,()) ([],[],()) (0,(bs,[],()))=some (ps.foldl (fun(t:List (List Int)×List Xj×Unit) x=>(t.1,t.2.1++[x],t.2.2)) (bs,[],())):=
  Yib ps (f:=fun s=>Xef.B (bs,ps,()) ([],[],()) s.1 s.2) _ (fun t=>t) (fun i t=>t.2.1.length≤i) (fun i hi t ht=>by
   have hw:ps[i].2.1.length≤64:=(h.w2 _ (List.getElem_mem hi)).2.1
   constructor
   ·simp only[Xef.B,Yxm hi,Yxb hi,Yw4,toNat_cast,getD_lt _ hi,Xaq,List.nil_append,decide_eq_true (show ps[i].2.1.length≤2147483648 by omega),Option.bind_some,Yvo (by omega:i<4294967296)]
    rw[show decide ((t.2.1++[ps[i]]).length≤2147483648)=true by simp;omega,Yw4]
   ·simp;omega) (fun t ht=>by simp only[Xef.B,Yxe (Nat.le_refl _),Ywx]) _ (Nat.le_refl _)
 rw[Xp3] at h0;rw[Xrb] at h1;simp only[Xa0,h0,Option.bind_some,List.nil_append,h1]
theorem Xsu {d:Xd} (h:Xy d):Xdr d=some d:=by
 obtain⟨bs,ps,⟨⟩⟩:=d;have hl1:bs.length≤60:=h.l1;have hl2:ps.length≤200:=h.l2
 have h0:Xdu (bs,ps,()) bs (bs.length:Int) ([],[],()) (0,([],[],()))=some (bs.foldl (fun(t:List (List Int)×List Xj×Unit) x=>(t.1++[x],t.2)) ([],[],())):=
  Yib bs (f:=fun s=>Xdu.B (bs,ps,()) bs (bs.length:Int) ([],[],()) s.1 s.2) _ (fun t=>t) (fun i t=>t.1.length≤i) (fun i hi t ht=>by
   have hw:bs[i].length≤64:=(h.w1 _ (List.getElem_mem hi)).1
   constructor
   ·simp only[Xdu.B,Yxm hi,Yxb hi,Yw4,toNat_cast,getD_lt _ hi,Xal,Ymd,decide_eq_true (show bs[i].length≤2147483648 by omega),Option.bind_some,Yvo (by omega:i<4294967296)]
    rw[show decide ((t.1++[bs[i]]).length≤2147483648)=true by simp;omega,Yw4]
   ·simp;omega) (fun t ht=>by simp only[Xdu.B,Yxe (Nat.le_refl _),Ywx]) _ (Nat.le_refl _)
 rw[Xp3] at h0;simp only[Xdr,h0,Option.bind_some,List.nil_append,Xg0]
 rw[Xl1 (l:=ps) (by omega) (fun p hp=>Nat.le_trans (h.w2 p hp).2.1 (by omega))]
 rfl
def Xcb (d:Xd):Xd:=(Ybr d.1 d.2.1 (fun _=>true) d.2.1.length,[],())
theorem Xbh (bs:List (List Int)) (ps:List Xj) (pick:Nat→Bool):∀ k,(Ybr bs ps pick k).length=bs.length
 |0=>rfl
 |k+1=>by
  simp only[Ybr]
  split
  ·rw[List.length_set,Xbh bs ps pick k]
  ·exact Xbh bs ps pick k
theorem Xg5 {bs:List (List Int)} {ps:List Xj} {pick:Nat→Bool} {w:List Int}:∀ {k},k≤ps.length→w∈Ybr bs ps pick k→w∈bs∨∃ p∈ps,w=p.2.1
 |0,_,h=>.inl h
 |k+1,hk,h=>by
  simp only[Ybr] at h
  have hg:ps.getD k (0,[],())=ps[k]:=by simp[List.getD,show k<ps.length by omega]
  split at h
  ·rcases List.mem_or_eq_of_mem_set h with h | h
   ·exact Xg5 (by omega) h
   ·rw[hg] at h;exact .inr ⟨ps[k],List.getElem_mem _,h⟩
  ·exact Xg5 (by omega) h
theorem Xot {d:Xd} (h:Xy d):Xy (Xcb d) where
 l1:=by show(Ybr _ _ _ _).length≤60;rw[Xbh];exact h.l1
 l2:=Nat.zero_le _
 w1:=fun w hw=>by
  rcases Xg5 (Nat.le_refl _) hw with h1 | ⟨p,hp,rfl⟩
  ·exact h.w1 w h1
  ·exact(h.w2 p hp).2
 w2:=fun p hp=>by cases hp
theorem Xoq {d:Xd} (h:Xy d):Yl9 d=some (Xcb d):=by
 have:(decide (d.2.1.length≤1152921504606846976)&&d.2.1.all (fun p=>inB p.1 d.1.length))=true:=by
  simp only[Bool.and_eq_true,decide_eq_true_eq,List.all_eq_true]
  refine⟨by have:=h.l2;omega,fun p hp=>?_⟩
  have:=(h.w2 p hp).1;simp[inB];omega
 simp only[Yl9,this,Yw4,Xcb]
theorem Xq3 {d:Xd} (h:Xy d):∀ (k i:Nat),i+k=d.2.1.length→Xay [] true d ([],[],()) ((i:Int),(Ybr d.1 d.2.1 (fun _=>true) i,[],()))=some (Xcb d)
 |0,i,hi=>Y5 (by
  have e:i=d.2.1.length:=by omega
  subst e
  simp only[Xay.B,Yxe (Nat.le_refl _),Ywx,Xcb])
 |k+1,i,hi=>by
  have hlt:i<d.2.1.length:=by omega
  have hp:=h.w2 _ (List.getElem_mem hlt);have hl2:=h.l2
  have hin:inB d.2.1[i].1 (Ybr d.1 d.2.1 (fun _=>true) i).length=true:=by rw[Xbh];simp[inB];omega
  have hg:d.2.1.getD i (0,[],())=d.2.1[i]:=by simp[List.getD,hlt]
  rw[show Xay [] true d ([],[],()) ((i:Int),(Ybr d.1 d.2.1 (fun _=>true) i,[],()))=Xay [] true d ([],[],()) (((i+1:Nat):Int),(Ybr d.1 d.2.1 (fun _=>true) (i+1),[],())) from Yaq (by
   simp only[Xay.B,Yxm hlt,Yxb hlt,Yw4,Ywx,Bool.not_true,Bool.false_and,toNat_cast,getD_lt _ hlt,Option.bind_some,Xaq,List.nil_append,decide_eq_true (show d.2.1[i].2.1.length≤2147483648 by have:=hp.2.1;omega),hin,Yvo (by omega:i<4294967296),Ybr,hg,if_true])]
  exact Xq3 h k (i+1) (by omega)
theorem Xt4 {d:Xd} (h:Xy d):Xbo d [] true=some (Xcb d):=by
 have:=Xq3 h d.2.1.length 0 (by omega)
 simp only[Xbo,Xog h,Option.bind_some];rw[show Xay [] true d ([],[],()) (0,(d.1,[],d.2.2))=some (Xcb d) from this];rfl
def Xpn (d:Xd) (x:Xr):Xd:=(d.1,d.2.1++[(x.2.1,x.2.2.1,())],())
def Xk5:List Xr→Xd→Option Xd
 |[],d=>some d
 |x::l,d=>cond x.1 (Xk5 l (Xcb d)) (cond ((d.2.1.length:Int) == 200) none (Xk5 l (Xpn d x)))
structure Xag (d:Xd):Prop where
 ok:Xy d
 l:d.1.length=47
theorem Xag.flush {d:Xd} (h:Xag d):Xag (Xcb d):=⟨Xot h.ok,by show(Ybr _ _ _ _).length=47;rw[Xbh];exact h.l⟩
theorem Xlr {x:Xr} (h:Xa5 x=0) (hx:x.1=false):(0≤x.2.1∧x.2.1≤46)∧X9 x.2.2.1=0:=by
 unfold Xa5 at h;rw[hx] at h;simp only[Ywx] at h
 cases hr:inR x.2.1 0 46 with
 |false=>rw[hr] at h;cases h
 |true=>rw[hr] at h;exact⟨X3.1 hr,h⟩
theorem Xag.put {d:Xd} (h:Xag d) {x:Xr} (hx:Xa5 x=0) (hf:x.1=false) (hl:d.2.1.length≠200):Xag (Xpn d x):=by
 obtain⟨h1,h2⟩:=Xlr hx hf;have h3:=Xeg h2;have hl2:=h.ok.l2;have h47:=h.l
 refine⟨⟨h.ok.l1,by show(d.2.1++[_]).length≤200;simp;omega,h.ok.w1,fun p hp=>?_⟩,h47⟩
 rcases List.mem_append.1 hp with hp | hp
 ·exact h.ok.w2 p hp
 ·simp at hp
  subst hp
  exact⟨⟨h1.1,by show x.2.1≤(d.1.length:Int)-1;omega⟩,h3⟩
theorem Xmt:∀ {l:List Xr} {d d':Xd},Xag d→(∀ x∈l,Xa5 x=0)→Xk5 l d=some d'→Xag d'
 |[],d,d',h,_,e=>by cases e;exact h
 |x::l,d,d',h,hl,e=>by
  simp only[Xk5] at e
  cases hx:x.1 with
  |true=>rw[hx,Yw4] at e;exact Xmt h.flush (fun y hy=>hl y (List.mem_cons_of_mem _ hy)) e
  |false=>
   rw[hx,Ywx] at e
   cases hn:((d.2.1.length:Int) == 200) with
   |true=>rw[hn] at e;cases e
   |false=>
    rw[hn,Ywx] at e
    exact Xmt (h.put (hl x List.mem_cons_self) hx (fun e'=>by rw[e'] at hn;cases hn)) (fun y hy=>hl y (List.mem_cons_of_mem _ hy)) e
theorem Xuo {d:Xd} (h:Xag d) {x:Xr} (hx:Xa5 x=0) (hf:x.1=false) :
  Xgy d x.2.1 x.2.2.1=some (cond ((d.2.1.length:Int) == 200) (2,([],[],()),()) (0,Xpn d x,())):=by
 obtain⟨h1,h2⟩:=Xlr hx hf;have h3:=Xeg h2;have hl2:=h.ok.l2;have h47:=h.l
 have hin:inR x.2.1 0 ((d.1.length:Int)-1)=true:=X3.2 (by omega)
 simp only[Xgy,Xn6,h.ok.zero,Option.bind_some,show((0:Int) != 0)=false from rfl,Ywx,Xkq,Xhh,Xfp (by omega : -9223372036854775808≤(d.1.length:Int)-1) (by omega),hin,Bool.not_true,Xon,h2]
 by_cases e:d.2.1.length=200
 ·rw[show decide ((d.2.1.length:Int)≥200)=true by simp;omega,show((d.2.1.length:Int) == 200)=true by rw[e];rfl];rfl
 ·rw[show decide ((d.2.1.length:Int)≥200)=false by simp;omega,show((d.2.1.length:Int) == 200)=false by rw[beq_eq_false_iff_ne];omega]
  simp only[Ywx,Xog h.ok,Option.bind_some,Xaq,List.nil_append,decide_eq_true (show x.2.2.1.length≤2147483648 by have:=h3.1;omega),Yw4]
  rw[show decide ((d.2.1++[((x.2.1,x.2.2.1,()):Xj)]).length≤2147483648)=true by simp;omega]
  rfl
theorem Xp8 {list:List Xr} (hl:list.length≤120) (hs:∀ x∈list,Xa5 x=0) (v:Xn):∀ (k i:Nat) (d:Xd),i+k=list.length→Xag d→
  Xbb list v ((i:Int),(0,d,()))=some (match Xk5 (list.drop i) d with | some d'=>.inr (0,d',()) | none=>.inl (2,([],[],()),()))
 |0,i,d,hi,h=>by
  have e:i=list.length:=by omega
  subst e;rw[List.drop_length]
  exact Y5 (by simp only[Xbb.B,Yxe (Nat.le_refl _),Ywx,Xk5])
 |k+1,i,d,hi,h=>by
  have hlt:i<list.length:=by omega
  have hx:=hs _ (List.getElem_mem hlt);rw[List.drop_eq_getElem_cons hlt];simp only[Xk5]
  cases hf:list[i].1 with
  |true=>
   rw[show Xbb list v ((i:Int),(0,d,()))=Xbb list v (((i+1:Nat):Int),(0,Xcb d,())) from Yaq (by
    simp only[Xbb.B,Yxm hlt,Yxb hlt,Yw4,toNat_cast,getD_lt _ hlt,hf,Xt4 h.ok,Option.bind_some,Yvo (by omega:i<4294967296)])]
   exact Xp8 hl hs v k (i+1) _ (by omega) h.flush
  |false=>
   have hp:=Xuo h hx hf
   cases hn:((d.2.1.length:Int) == 200) with
   |true=>
    rw[hn,Yw4] at hp
    exact Y5 (by
     simp only[Xbb.B,Yxm hlt,Yxb hlt,Yw4,Ywx,toNat_cast,getD_lt _ hlt,hf];rw[show Xgy (d.1,d.2.1,d.2.2) list[i].2.1 list[i].2.2.1=_ from hp]
     rfl)
   |false=>
    rw[hn,Ywx] at hp
    rw[show Xbb list v ((i:Int),(0,d,()))=Xbb list v (((i+1:Nat):Int),(0,Xpn d list[i],())) from Yaq (by
     simp only[Xbb.B,Yxm hlt,Yxb hlt,Yw4,Ywx,toNat_cast,getD_lt _ hlt,hf];rw[show Xgy (d.1,d.2.1,d.2.2) list[i].2.1 list[i].2.2.1=_ from hp]
     simp only[Option.bind_some,Yvo (by omega:i<4294967296)]
     rfl)]
    exact Xp8 hl hs v k (i+1) _ (by omega) (h.put hx hf (fun e'=>by rw[e'] at hn;cases hn))
theorem Xps {list:List Xr} (hl:list.length≤120) (hs:∀ x∈list,Xa5 x=0):∀ (k i:Nat) (d:Xd),i+k=list.length→Xag d→
  (match Xk5 (list.drop i) d with | some d'=>Xa1 list (list.length:Int) ((i:Int),d)=some (.inr d') | none=>∃ dx,Xa1 list (list.length:Int) ((i:Int),d)=some (.inl (2,dx)))
 |0,i,d,hi,h=>by
  have e:i=list.length:=by omega
  subst e;rw[List.drop_length]
  exact Y5 (by simp only[Xa1.B,Yxe (Nat.le_refl _),Ywx])
 |k+1,i,d,hi,h=>by
  have hlt:i<list.length:=by omega
  have hx:=hs _ (List.getElem_mem hlt);rw[List.drop_eq_getElem_cons hlt];simp only[Xk5]
  cases hf:list[i].1 with
  |true=>
   have e1:Xa1 list (list.length:Int) ((i:Int),d)=Xa1 list (list.length:Int) (((i+1:Nat):Int),Xcb d):=Yaq (by
    simp only[Xa1.B,Yxm hlt,Yxb hlt,Yw4,toNat_cast,getD_lt _ hlt,hf,Xlw,Xoq h.ok,Option.bind_some,Yvo (by omega:i<4294967296)])
   rw[e1,Yw4]
   exact Xps hl hs k (i+1) _ (by omega) h.flush
  |false=>
   rw[Ywx]
   cases hn:((d.2.1.length:Int) == 200) with
   |true=>
    rw[Yw4]
    exact⟨d,Y5 (by
     simp only[Xa1.B,Yxm hlt,Yxb hlt,Yw4,Ywx,toNat_cast,getD_lt _ hlt,hf,hn])⟩
   |false=>
    have hl2:=h.ok.l2;have hw:=Xeg (Xlr hx hf).2
    have e1:Xa1 list (list.length:Int) ((i:Int),d)=Xa1 list (list.length:Int) (((i+1:Nat):Int),Xpn d list[i]):=Yaq (by
     simp only[Xa1.B,Yxm hlt,Yxb hlt,Yw4,Ywx,toNat_cast,getD_lt _ hlt,hf,hn,Xkr,Xal,Ymd,decide_eq_true (show list[i].2.2.1.length≤2147483648 by have:=hw.1;omega),Option.bind_some]
     rw[show decide ((d.2.1++[((list[i].2.1,list[i].2.2.1,()):Xj)]).length≤2147483648)=true by simp;omega]
     simp only[Yw4,Option.bind_some,Yvo (by omega:i<4294967296)]
     rfl)
    rw[e1,Ywx]
    exact Xps hl hs k (i+1) _ (by omega) (h.put hx hf (fun e'=>by rw[e'] at hn;cases hn))
theorem Xqm {d:Xd} (h:Xy d):wt Xh d≤100000:=by
 have e:∀ w:List Int,(w.map (wt (.int .i64))).sum=w.length:=fun w=>Xm0 .i64 w
 have h1:=Ysy (wt (.sl (.int .i64))) 65 (xs:=d.1) (fun w hw=>by
  have:=(h.w1 w hw).1
  rw[Yug,e];omega)
 have h2:=Xqk h.l2 (fun p hp=>(h.w2 p hp).2.1);have hl:=h.l1;simp only[Yug] at h2;simp only[Yo6,Yug,Ywr] at h1 ⊢;omega
theorem Xn1 {d:Xd} (hok:Xy d) (at_:Int):∀ x∈Xq d at_,0≤x∧x≤65535:=by
 unfold Xq
 cases h:Yfg d.2.1 at_ d.2.1.length with
 |some j=>
  have hj:j<d.2.1.length:=by
   have:∀ (ps:List (Int×List Int×Unit)) (k j:Nat),Yfg ps at_ k=some j→j<k:=by
    intro ps k
    induction k with
    |zero=>intro j h;cases h
    |succ k ih=>
     intro j h;unfold Yfg at h
     split at h
     ·cases h;omega
     ·have:=ih j h;omega
   exact this _ _ _ h
  show ∀ x∈(d.2.1.getD j (0,[],())).2.1,_;rw[show d.2.1.getD j (0,[],())=d.2.1[j] from getD_lt _ hj]
  exact(hok.w2 _ (List.getElem_mem hj)).2.2
 |none=>
  show ∀ x∈d.1.getD at_.toNat [],_;rw[List.getD_eq_getElem?_getD]
  cases h2:d.1[at_.toNat]? with
  |none=>intro x hx;simp at hx
  |some w=>exact(hok.w1 w (List.mem_of_getElem? h2)).2
theorem Xky {w:List Int} (h1:w.length≤64) (h2:∀ x∈w,0≤x∧x≤65535):X9 w=0:=by
 unfold X9
 rw[show decide ((w.length:Int)>64)=false by simp;omega,Ywx]
 rw[show(w.any fun x=>!inR x 0 65535)=false from List.any_eq_false.2 (fun x hx=>by
  have:=X3.2 (h2 x hx);simp[this])]
 rfl
def Xfs (d:Xd) (picks:List Bool):Xd:=(Ybr d.1 d.2.1 (fun k=>picks.getD k false) d.2.1.length,[],())
theorem Xoy {d:Xd} (h:Xy d) (picks:List Bool):Xy (Xfs d picks) where
 l1:=by show(Ybr _ _ _ _).length≤60;rw[Xbh];exact h.l1
 l2:=Nat.zero_le _
 w1:=fun w hw=>by
  rcases Xg5 (Nat.le_refl _) hw with h1 | ⟨p,hp,rfl⟩
  ·exact h.w1 w h1
  ·exact(h.w2 p hp).2
 w2:=fun p hp=>by cases hp
theorem Xo0 {d:Xd} (h:Xy d) (picks:List Bool):Yl0 d picks=some (Xfs d picks):=by
 have:(decide (d.2.1.length≤1152921504606846976)&&d.2.1.all (fun p=>inB p.1 d.1.length))=true:=by
  simp only[Bool.and_eq_true,decide_eq_true_eq,List.all_eq_true]
  refine⟨by have:=h.l2;omega,fun p hp=>?_⟩
  have:=(h.w2 p hp).1;simp[inB];omega
 simp only[Yl0,this,Yw4,Xfs]
theorem Xqs {d:Xd} (h:Xy d) (picks:List Bool):∀ (k i:Nat),i+k=d.2.1.length→Xay picks false d ([],[],()) ((i:Int),(Ybr d.1 d.2.1 (fun k=>picks.getD k false) i,[],()))=some (Xfs d picks)
 |0,i,hi=>Y5 (by
  have e:i=d.2.1.length:=by omega
  subst e
  simp only[Xay.B,Yxe (Nat.le_refl _),Ywx,Xfs])
 |k+1,i,hi=>by
  have hlt:i<d.2.1.length:=by omega
  have hp:=h.w2 _ (List.getElem_mem hlt);have hl2:=h.l2
  have hin:inB d.2.1[i].1 (Ybr d.1 d.2.1 (fun k=>picks.getD k false) i).length=true:=by rw[Xbh];simp[inB];omega
  have hg:d.2.1.getD i (0,[],())=d.2.1[i]:=by simp[List.getD,hlt]
  have hpick:(cond (cond ((!false)&&(decide ((i:Int)<(picks.length:Int)))) (inB (i:Int) picks.length) true) (some (cond false true (cond (decide ((i:Int)<(picks.length:Int))) (picks.getD (i:Int).toNat false) false))) none)=some (picks.getD i false):=by
   by_cases hi2:i<picks.length
   ·simp only[Yxm hi2,Yxb hi2,Yw4,Ywx,Bool.not_false,Bool.true_and,toNat_cast]
   ·rw[show decide ((i:Int)<(picks.length:Int))=false by simp;omega]
    simp[List.getD,hi2]
  have hcond:∀ {α:Type} (c:Bool) (a:Bool) (g:Bool→Option α),cond c ((some a).bind g) none=(cond c (some a) none).bind g:=fun c a g=>by cases c<;>rfl
  rw[show Xay picks false d ([],[],()) ((i:Int),(Ybr d.1 d.2.1 (fun k=>picks.getD k false) i,[],()))=Xay picks false d ([],[],()) (((i+1:Nat):Int),(Ybr d.1 d.2.1 (fun k=>picks.getD k false) (i+1),[],())) from Yaq (by
   simp only[Xay.B,Yxm hlt];rw[hcond,hpick];simp only[Option.bind_some,Yw4,Ybr];rcases Bool.eq_false_or_eq_true (picks.getD i false) with hpk | hpk
   ·simp only[hpk,Yxb hlt,Yw4,toNat_cast,getD_lt _ hlt,Option.bind_some,Xaq,List.nil_append,decide_eq_true (show d.2.1[i].2.1.length≤2147483648 by have:=hp.2.1;omega),hin,Yvo (by omega:i<4294967296),hg,if_true]
   ·simp only[hpk,Ywx,Yvo (by omega:i<4294967296),Bool.false_eq_true,if_false])]
  exact Xqs h picks k (i+1) (by omega)
theorem Xtn {d:Xd} (h:Xy d) (picks:List Bool):Xhn d picks=some (0,Xfs d picks,()):=by
 have:=Xqs h picks d.2.1.length 0 (by omega)
 simp only[Xhn,Xn6,h.zero,Option.bind_some,show((0:Int) != 0)=false from rfl,Ywx,Xbo,Xog h];rw[show Xay picks false d ([],[],()) (0,(d.1,[],d.2.2))=some (Xfs d picks) from this];rfl
theorem Xn0 {α:Type} {c:α→Int} {l:List α} (h:∀ x∈l,c x=0):Yeg c l=0:=Xao.2 h
theorem Xt6 {d:Xd} (h:Xag d) {list:List Xr} (hl:list.length≤120) (hs:∀ x∈list,Xa5 x=0) :
  Xio d list=some (match Xk5 list d with | some d'=>(0,d',()) | none=>(2,([],[],()),())):=by
 have h1:((d.1.length:Int) != 47)=false:=by rw[h.l];rfl
 have h2:Xmm list=0:=by
  unfold Xmm
  rw[show decide ((list.length:Int)>120)=false by simp;omega,Ywx]
  exact Xn0 hs
 have e1:=Xp8 hl hs (0,([],[],()),()) list.length 0 d (by omega) h
 rw[List.drop_zero] at e1;simp only[Xio,Xn6,h.ok.zero,Option.bind_some,show((0:Int) != 0)=false from rfl,Ywx,h1,Xug,h2,Xga,Xog h.ok];rw[show Xbb list (0,([],[],()),()) (0,(0,(d.1,d.2.1,d.2.2),()))=_ from e1]
 cases Xk5 list d<;>rfl
def Wok (w:List Int):Prop:=w.length≤64∧∀ x∈w,0≤x∧x≤65535
def byt (v:Int):UInt8:=UInt8.ofNat (IntKind.u8.wrap v).toNat
theorem Xs9 {x:Int} (h1:0≤x) (h2:x≤255):IntKind.u8.wrap x=x:=by
 simp[IntKind.wrap,IntKind.bits,IntKind.signed];omega
theorem Xo9 (b:UInt8):byt (b.toNat:Int)=b:=by
 have:=b.toNat_lt
 unfold byt;rw[Xs9 (by omega) (by omega),Int.toNat_natCast,UInt8.ofNat_toNat]
theorem Xfu {α β ρ:Type} (p:α→Bool) (g:α→β) (r:ρ) (e:List β→ρ):∀ (l:List α) (i:Nat) (t:List β),Yba (fun _ v t=>cond (p v) (.inr r) (.inl (t++[g v]))) e i l t=cond (l.any p) r (e (t++l.map g))
 |[],i,t=>by simp[Yba]
 |x::l,i,t=>by
  simp only[Yba,List.any_cons];cases h:p x
  ·simp only[cond_false,sel,Bool.false_or];rw[Xfu p g r e l (i+1)];simp
  ·rfl
def Xax (v:Int):Bool:=decide (v>255)
theorem Xsl (w1:List Int) (v5:Int) (v7:List Int) (v8 v9:Int) (v10:List Int) (r2 v11:Int) (v4:Bool) (l:List Int) (v3 x:Xa) (a:Int) (hl:l.length≤64) :
  Xcx w1 v5 v7 v8 v9 v10 r2 v11 v4 l (l.length:Int) v3 x (0,([],a,()))=some (cond (l.any Xax) (.inl (false,Xc)) (.inr (l.map byt,a,()))):=by
 have h:=Ym3 (τ:=List UInt8) l (f:=fun s=>Xcx.B w1 v5 v7 v8 v9 v10 r2 v11 v4 l (l.length:Int) v3 x s.1 s.2) (fun i t=>((i:Int),(t,a,()))) (fun _ v t=>cond (Xax v) (.inr (.inl (false,Xc))) (.inl (t++[byt v])))
  (fun t=>(.inr (t,a,()):(Bool×Xa)⊕Xg)) (fun i t=>t.length=i)
  (fun i hi t ht=>by
   simp only[Xcx.B,Yxm hi,Yxb hi,Yw4,toNat_cast,getD_lt _ hi,Option.bind_some,Yvo (by omega:i<4294967296),List.map_cons,List.map_nil,List.length_cons,List.length_nil]
   rw[show decide (t.length+(0+1)≤2147483648)=true by simp;omega]
   show cond (Xax l[i]) _ _=_
   cases Xax l[i]<;>rfl)
  (fun i hi t t' ht e=>by
   cases h:Xax l[i] with
   |true=>rw[h] at e;cases e
   |false=>rw[h] at e;cases e;simp[ht])
  (fun t ht=>by simp only[Xcx.B,Yxe (Nat.le_refl _),Ywx]) [] rfl (s:=(0,([],a,()))) rfl
 rw[Xfu] at h;exact h
def rdE:Nat→List Int→List Xg→Option (List Xg)
 |0,_,es=>some es
 |n+1,ws,es=>match ws with
  |[]=>some es
  |[_]=>none
  |a::m::rest=>if m>(rest.length:Int) then none else if (rest.take m.toNat).any Xax=true then none else rdE n (rest.drop m.toNat) (es++[((rest.take m.toNat).map byt,a,())])
theorem Xus (v3:Xa) (a m:Int) (rest:List Int) (x:Xa) (h:Wok (a::m::rest)) (hx:x.2.2.2.2.1.length≤1000) :
  Xbe.B v3 (a::m::rest) x=if m>(rest.length:Int) then some (.inr (.inl (false,Xc))) else if (rest.take m.toNat).any Xax=true then some (.inr (.inl (false,Xc))) else
   some (.inl (rest.drop m.toNat,(x.1,x.2.1,x.2.2.1,x.2.2.2.1,x.2.2.2.2.1++[((rest.take m.toNat).map byt,a,())],x.2.2.2.2.2))):=by
 obtain⟨hl,hv⟩:=h;simp only[List.length_cons] at hl
 have hm:=hv m (by simp)
 have h2:w64 (((rest.length+1+1:Nat):Int)-2)=(rest.length:Int):=by rw[Xfp (by omega) (by omega)];omega
 have h3:w64 (2+m)=2+m:=Xfp (by omega) (by omega)
 simp only[Xbe.B,List.length_cons,Xbs,Option.bind_some,h2,h3,List.getD_cons_zero,List.getD_cons_succ,show(1:Int).toNat=1 from rfl,show(0:Int).toNat=0 from rfl]
 rw[show decide (((rest.length+1+1:Nat):Int)>0)=true by simp;omega,show decide (((rest.length+1+1:Nat):Int)<2)=false by simp;omega,
  show inB 1 (rest.length+1+1)=true from Yu7 (by omega) (by omega),show inB 0 (rest.length+1+1)=true from Yu7 (by omega) (by omega)]
 simp only[Yw4,Ywx]
 by_cases hc:m>(rest.length:Int)
 ·rw[if_pos hc,show decide (m>(rest.length:Int))=true by simp;omega];rfl
 ·rw[if_neg hc,show decide (m>(rest.length:Int))=false by simp;omega]
  have e1:(2+m).toNat=m.toNat+2:=by omega
  have e2:((a::m::rest).take (2+m).toNat).drop ((2:Int).toNat)=rest.take m.toNat:=by rw[e1];rfl
  have e3:((a::m::rest).take (rest.length+1+1)).drop (2+m).toNat=rest.drop m.toNat:=by
   rw[e1,List.take_of_length_le (by simp)];rfl
  rw[e2,e3,Xsl _ _ _ _ _ _ _ _ _ _ _ _ _ (by rw[List.length_take];omega)]
  rw[show(decide ((0:Int)≤2+m)&&decide (2+m≤((rest.length+1+1:Nat):Int))&&(decide ((0:Int)≤2)&&decide ((2:Int)≤2+m)))=true by simp;omega,
   show(decide ((0:Int)≤2+m)&&decide (2+m≤((rest.length+1+1:Nat):Int)))=true by simp;omega]
  simp only[Yw4,Ywx]
  cases ha:(rest.take m.toNat).any Xax with
  |true=>rfl
  |false=>
   simp only[Ywx,Option.bind_some,Ywu]
   rw[Xat (by simp;omega)]
   simp
theorem Xq5 (v3:Xa):∀ (n:Nat) (ws:List Int) (x:Xa),ws.length<n→Wok ws→x.2.2.2.2.1.length+ws.length≤1000→
  Xbe v3 (ws,x)=some (match rdE n ws x.2.2.2.2.1 with | some es=>.inr (x.1,x.2.1,x.2.2.1,x.2.2.2.1,es,()) | none=>.inl (false,Xc))
 |0,ws,x,h,_,_=>by omega
 |n+1,[],x,h,hw,hx=>by
  exact Y5 (f:=fun s=>Xbe.B v3 s.1 s.2) (by rfl)
 |n+1,[a],x,h,hw,hx=>by
  exact Y5 (f:=fun s=>Xbe.B v3 s.1 s.2) (by rfl)
 |n+1,a::m::rest,x,h,hw,hx=>by
  have hB:=Xus v3 a m rest x hw (by omega)
  have hl:=hw.1;simp only[List.length_cons] at h hx hl;simp only[rdE]
  by_cases hc:m>(rest.length:Int)
  ·rw[if_pos hc] at hB ⊢
   exact Y5 (f:=fun s=>Xbe.B v3 s.1 s.2) hB
  ·rw[if_neg hc] at hB ⊢
   cases ha:(rest.take m.toNat).any Xax with
   |true=>
    rw[ha,if_pos rfl] at hB;rw[if_pos rfl]
    exact Y5 (f:=fun s=>Xbe.B v3 s.1 s.2) hB
   |false=>
    rw[ha,if_neg (by simp)] at hB;rw[if_neg (by simp)]
    show Y9 (fun s=>Xbe.B v3 s.1 s.2) (a::m::rest,x)=_;rw[Yaq (f:=fun s=>Xbe.B v3 s.1 s.2) hB]
    exact Xq5 v3 n _ _ (by rw[List.length_drop];omega) ⟨by rw[List.length_drop];omega,fun y hy=>hw.2 y (by simp[List.mem_of_mem_drop hy])⟩ (by simp;omega)
def X5 (w:List Int):Xa×Bool:=
 if w.length<3 then(Xc,false) else if w.getD 0 0≠2 then((w.getD 0 0,w.getD 1 0,w.getD 2 0,w.drop 3,[],()),true) else
  match w.drop 3 with
  |[]=>(Xc,false)
  |_::ws=>match rdE 64 ws [] with
   |some es=>((w.getD 0 0,w.getD 1 0,w.getD 2 0,[],es,()),true)
   |none=>(Xc,false)
theorem Xuc {w:List Int} (h:Wok w):Xbw w=some (X5 w):=by
 obtain⟨hl,hv⟩:=h;unfold X5
 by_cases h3:w.length<3
 ·rw[if_pos h3]
  simp only[Xbw]
  rw[show decide ((w.length:Int)<3)=true by simp;omega];rfl
 ·rw[if_neg h3]
  have i0:inB 0 w.length=true:=Yu7 (by omega) (by omega)
  have i1:inB 1 w.length=true:=Yu7 (by omega) (by omega)
  have i2:inB 2 w.length=true:=Yu7 (by omega) (by omega)
  simp only[Xbw,i0,i1,i2,List.take_length,show(0:Int).toNat=0 from rfl,show(1:Int).toNat=1 from rfl,show(2:Int).toNat=2 from rfl,show(3:Int).toNat=3 from rfl]
  rw[show decide ((w.length:Int)<3)=false by simp;omega,show(decide ((0:Int)≤(3:Int))&&decide ((3:Int)≤(w.length:Int)))=true by simp;omega]
  simp only[Yw4,Ywx]
  by_cases h2:w.getD 0 0=2
  ·rw[if_neg (by simpa using h2),show(w.getD 0 0 != 2)=false by rw[h2];rfl]
   simp only[Ywx,Option.bind_some]
   cases hd:w.drop 3 with
   |nil=>rfl
   |cons a ws=>
    have hws:ws.length+1+3=w.length:=by
     have:=congrArg List.length hd;simp at this;omega
    have hm:∀ y∈ws,y∈w:=fun y hy=>List.mem_of_mem_drop (i:=3) (by rw[hd];exact List.mem_cons_of_mem _ hy)
    rw[show(((a::ws).length:Int) == 0)=false by simp;omega,show(decide ((0:Int)≤(1:Int))&&decide ((1:Int)≤((a::ws).length:Int)))=true by simp;omega]
    simp only[Yw4,Ywx,List.take_length,List.drop_succ_cons,List.drop_zero]
    rw[Xq5 _ 64 ws _ (by omega) ⟨by omega,fun y hy=>hv y (hm y hy)⟩ (by simp;omega)]
    simp only[Option.bind_some]
    cases rdE 64 ws []<;>rfl
  ·rw[if_pos h2,show(w.getD 0 0 != 2)=true by simpa using h2]
   simp only[Yw4,Xal]
   rw[Xme (by simp;omega)]
   rfl
theorem Xne:∀ (l:List Xg) (n:Nat) (es:List Xg),(∀ e∈l,e.1.length≤4)→l.length<n→rdE n (l.flatMap Xae) es=some (es++l)
 |[],n+1,es,_,_=>by simp[rdE]
 |e::l,n+1,es,h,hn=>by
  have h1:=h e (List.mem_cons_self ..);simp only[List.length_cons] at hn
  have e0:(e::l).flatMap Xae=e.2.1::(e.1.length:Int)::((e.1.map fun b=>(b.toNat:Int))++l.flatMap Xae):=by simp[Xae]
  rw[e0];simp only[rdE]
  have hl:(e.1.map fun b=>(b.toNat:Int)).length=e.1.length:=by simp
  have et:((e.1.map fun b=>(b.toNat:Int))++l.flatMap Xae).take e.1.length=e.1.map fun b=>(b.toNat:Int):=by rw[List.take_append_of_le_length (by omega),List.take_of_length_le (by omega)]
  have ed:((e.1.map fun b=>(b.toNat:Int))++l.flatMap Xae).drop e.1.length=l.flatMap Xae:=by rw[List.drop_append_of_le_length (by omega),List.drop_of_length_le (by omega)];rfl
  rw[if_neg (by rw[List.length_append,hl];omega),Int.toNat_natCast,et,ed,if_neg (by
   simp only[List.any_map,Function.comp_def,Xax,List.any_eq_true,decide_eq_true_eq,not_exists,not_and]
   intro b _;have:=b.toNat_lt;omega)]
  have em:(e.1.map fun b=>(b.toNat:Int)).map byt=e.1:=by
   rw[List.map_map];conv=>rhs;rw[←List.map_id e.1]
   exact List.map_congr_left fun b _=>Xo9 b
  rw[em,Xne l n _ (fun x hx=>h x (List.mem_cons_of_mem _ hx)) (by omega)]
  simp
theorem Xp0:∀ (n:Nat) (ws:List Int) (es es':List Xg),rdE n ws es=some es'→ws.length≤64→es'.length≤es.length+ws.length∧∀ e∈es',e∈es∨e.1.length≤64
 |0,ws,es,es',h,_=>by simp only[rdE,Option.some.injEq] at h;subst h;exact⟨by omega,fun e he=>.inl he⟩
 |n+1,[],es,es',h,_=>by simp only[rdE,Option.some.injEq] at h;subst h;exact⟨by omega,fun e he=>.inl he⟩
 |n+1,[a],es,es',h,_=>by simp[rdE] at h
 |n+1,a::m::rest,es,es',h,hl=>by
  simp only[rdE] at h;simp only[List.length_cons] at hl
  split at h
  ·cases h
  ·split at h
   ·cases h
   ·obtain⟨h1,h2⟩:=Xp0 n _ _ _ h (by rw[List.length_drop];omega)
    refine⟨by simp only[List.length_append,List.length_drop,List.length_cons,List.length_nil] at h1 ⊢;omega,fun e he=>?_⟩
    rcases h2 e he with h3 | h3
    ·rcases List.mem_append.1 h3 with h3 | h3
     ·exact .inl h3
     ·simp only[List.mem_singleton] at h3;subst h3;right;simp only[List.length_map,List.length_take];omega
    ·exact .inr h3
theorem Xid {a b c:Int} {bs:List Int} {es:List Xg} (h1:bs.length≤64) (h2:es.length≤1000) (h3:∀ e∈es,e.1.length≤64):Bd Xb (a,b,c,bs,es,()):=
 ⟨trivial,trivial,trivial,⟨by show bs.length≤_;omega,fun _ _=>trivial⟩,⟨by show es.length≤_;omega,fun e he=>⟨by show e.1.length≤_;have:=h3 e he;omega,trivial,trivial⟩⟩,trivial⟩
theorem Xpv {w:List Int} (h:w.length≤64):Bd Xb (X5 w).1:=by
 have hz:Bd Xb Xc:=Xid (by simp) (by simp) (by simp)
 unfold X5
 split
 ·exact hz
 ·split
  ·exact Xid (by simp;omega) (by simp) (by simp)
  ·split
   ·exact hz
   ·rename_i a ws hd
    have hws:ws.length+1+3=w.length:=by have:=congrArg List.length hd;simp at this;omega
    split
    ·rename_i es he
     obtain⟨h1,h2⟩:=Xp0 _ _ _ _ he (by omega)
     exact Xid (by simp) (by simp at h1;omega) (fun e hx=>(h2 e hx).resolve_left (by simp))
    ·exact hz
theorem Xnk {y:Xa} (h:Xv y=0) (h2:y.1=2):Xai y=2::y.2.1::y.2.2.1::(y.2.2.2.2.1.length:Int)::y.2.2.2.2.1.flatMap Xae∧y.2.2.2.1=[]:=by
 have hb:=(Xar h).2.2.1 (by rw[h2];decide)
 refine⟨?_,hb⟩;unfold Xai
 rw[show(y.1 != 2)=false by rw[h2];rfl,Ywx,hb,h2];simp
theorem Xmg {y:Xa} (h:Xv y=0) (h2:y.1≠2):Xai y=y.1::y.2.1::y.2.2.1::y.2.2.2.1∧y.2.2.2.2.1=[]:=by
 refine⟨?_,(Xa3 h).2.2.1 h2⟩;unfold Xai
 rw[show(y.1 != 2)=true by simpa using h2,Yw4];simp
theorem Xn5 {y:Xa} (h:Xv y=0):X5 (Xai y)=(y,true):=by
 obtain⟨k,l,s,bs,es,⟨⟩⟩:=y;have hs:=Xaf.of h
 by_cases h2:k=2
 ·subst h2
  obtain⟨e1,e2⟩:=Xnk h rfl;simp only at e1 e2;subst e2;rw[e1];unfold X5
  rw[if_neg (by simp),if_neg (by simp)]
  simp only[List.drop_succ_cons,List.drop_zero,List.getD_cons_zero,List.getD_cons_succ]
  rw[Xne es 64 [] hs.nam (by have:=hs.ent;simp only at this;omega)]
  rfl
 ·obtain⟨e1,e2⟩:=Xmg h h2
  simp only at e1 e2;subst e2;rw[e1];unfold X5
  rw[if_neg (by simp),if_pos (by simpa using h2)]
  rfl
theorem Xml (w:List Int) (i:Nat):Xil w (i:Int)=some (w.getD i 0):=by
 unfold Xil
 by_cases h:i<w.length
 ·rw[Yxm h,Yxb h];simp
 ·rw[Yxe (by omega)];simp only[Ywx];congr 1;simp[List.getD,List.getElem?_eq_none (by omega:w.length≤i)]
def nmC (w:List Int) (at_:Nat):Nat:=min (w.getD (at_+1) 0).toNat 8
def nmF (w:List Int) (at_:Nat):List UInt8:=(List.range (nmC w at_)).map fun i=>byt ((w.getD (at_+2+i) 0).tmod 256)
theorem Xte (w:List Int) (k r4:Int) (v4:Int) (v5:List Int) (v6:Bool) (v2 x:Xa) (at_:Nat) (a:Int) (h0:0≤w.getD (at_+1) 0) (ha:at_≤1000) :
  Xi3 w k (w.getD (at_+1) 0) v4 v5 r4 v6 v2 x (((at_+2:Nat):Int),0,([],a,()))=some (((at_+2+nmC w at_:Nat):Int),(nmF w at_,a,())):=by
 have hc:nmC w at_≤8:=Nat.min_le_right _ _
 have hr:(List.range (nmC w at_)).length=nmC w at_:=by simp
 have h:=Ym3 (τ:=List UInt8) (List.range (nmC w at_)) (f:=fun s=>Xi3.B w k (w.getD (at_+1) 0) v4 v5 r4 v6 v2 x s.1 s.2.1 s.2.2) (fun i t=>(((at_+2+i:Nat):Int),(i:Int),(t,a,())))
  (fun _ j t=>.inl (t++[byt ((w.getD (at_+2+j) 0).tmod 256)])) (fun t=>(((at_+2+nmC w at_:Nat):Int),((t,a,()):Xg))) (fun i t=>t.length=i)
  (fun i hi t ht=>by
   rw[hr] at hi
   have h1:(i:Int)<w.getD (at_+1) 0:=by unfold nmC at hi;omega
   have h2:(i:Int)<8:=by omega
   simp only[Xi3.B,decide_eq_true h1,decide_eq_true h2,Yw4,Xml,Option.bind_some,List.map_cons,List.map_nil,List.length_cons,List.length_nil,Yvo (by omega:i<4294967296),Yvo (by omega:at_+2+i<4294967296),List.getElem_range]
   rw[show decide (t.length+(0+1)≤2147483648)=true by simp;omega]
   rfl) (fun i hi t t' ht e=>by cases e;simp[ht]) (fun t ht=>by
   rw[hr]
   have h1:(cond (decide (((nmC w at_:Nat):Int)<w.getD (at_+1) 0)) (decide (((nmC w at_:Nat):Int)<8)) false)=false:=by
    unfold nmC
    by_cases h1:((min (w.getD (at_+1) 0).toNat 8:Nat):Int)<w.getD (at_+1) 0
    ·rw[decide_eq_false (by omega:¬ ((min (w.getD (at_+1) 0).toNat 8:Nat):Int)<8)];cases decide (((min (w.getD (at_+1) 0).toNat 8:Nat):Int)<w.getD (at_+1) 0)<;>rfl
    ·rw[decide_eq_false h1];rfl
   simp only[Xi3.B,h1,Option.bind_some,Ywx]) [] rfl (s:=(((at_+2:Nat):Int),0,([],a,()))) rfl
 rw[Yqy] at h;exact h
def spE (w:List Int) (kd n:Int):Nat→Nat→Nat→List Xg→List Xg
 |0,_,_,es=>es
 |f+1,at_,k,es=>if kd=2∧(k:Int)<n∧at_<w.length then spE w kd n f (at_+2+nmC w at_) (k+1) (es++[(nmF w at_,w.getD at_ 0,())]) else es
theorem Xri (w:List Int) (at_:Nat):(nmF w at_).length≤8:=by simp only[nmF,List.length_map,List.length_range];exact Nat.min_le_right _ _
theorem Xrk {w:List Int} (h:Wok w) (i:Nat):0≤w.getD i 0:=by
 by_cases hi:i<w.length
 ·rw[getD_lt _ hi];exact(h.2 _ (List.getElem_mem hi)).1
 ·simp[List.getD,List.getElem?_eq_none (by omega:w.length≤i)]
theorem Xq6 {w:List Int} (v2:Xa) (hw:Wok w):∀ (f at_ k:Nat) (x:Xa),w.length<at_+f→at_≤200→k≤at_→x.2.2.2.2.1.length≤at_→
  Xdm w v2 ((at_:Int),(k:Int),x)=some (x.1,x.2.1,x.2.2.1,x.2.2.2.1,spE w x.1 (w.getD 3 0) f at_ k x.2.2.2.2.1,())
 |0,at_,k,x,h1,h2,h3,h4=>by
  refine Y5 (f:=fun s=>Xdm.B w v2 s.1 s.2.1 s.2.2) ?_;simp only[Xdm.B,show(3:Int)=((3:Nat):Int) from rfl,Xml,Option.bind_some,spE]
  rw[Yxe (by omega:w.length≤at_)]
  cases (x.1 == 2)<;>cases decide ((k:Int)<w.getD 3 0)<;>rfl
 |f+1,at_,k,x,h1,h2,h3,h4=>by
  have hl:=hw.1;simp only[spE]
  by_cases hc:x.1=2∧(k:Int)<w.getD 3 0∧at_<w.length
  ·obtain⟨c1,c2,c3⟩:=hc
   rw[if_pos ⟨c1,c2,c3⟩]
   have hB:Xdm.B w v2 (at_:Int) (k:Int) x=some (.inl (((at_+2+nmC w at_:Nat):Int),((k+1:Nat):Int),(x.1,x.2.1,x.2.2.1,x.2.2.2.1,x.2.2.2.2.1++[(nmF w at_,w.getD at_ 0,())],x.2.2.2.2.2))):=by
    simp only[Xdm.B,show(3:Int)=((3:Nat):Int) from rfl,Xml,Option.bind_some]
    rw[show(x.1 == 2)=true by rw[c1];rfl,decide_eq_true c2,Yxm c3,Yvo (by omega:at_<4294967296),Yvo (by omega:k<4294967296),show w64 ((at_:Int)+2)=((at_+2:Nat):Int) by rw[Xfp (by omega) (by omega)];omega]
    simp only[Yw4,Xml,Option.bind_some]
    rw[Xte w _ _ _ _ _ _ _ _ _ (Xrk hw _) (by omega)]
    simp only[Option.bind_some]
    rw[Xat (by simp;omega)];rfl
   show Y9 (fun s=>Xdm.B w v2 s.1 s.2.1 s.2.2) _=_;rw[Yaq (f:=fun s=>Xdm.B w v2 s.1 s.2.1 s.2.2) hB];have hc:nmC w at_≤8:=Nat.min_le_right _ _
   exact Xq6 v2 hw f _ _ _ (by omega) (by omega) (by omega) (by simp;omega)
  ·rw[if_neg hc]
   refine Y5 (f:=fun s=>Xdm.B w v2 s.1 s.2.1 s.2.2) ?_;simp only[Xdm.B,show(3:Int)=((3:Nat):Int) from rfl,Xml,Option.bind_some]
   by_cases c1:x.1=2
   ·by_cases c2:(k:Int)<w.getD 3 0
    ·rw[Yxe (by omega:w.length≤at_),show(x.1 == 2)=true by rw[c1];rfl,decide_eq_true c2];rfl
    ·rw[decide_eq_false c2,show(x.1 == 2)=true by rw[c1];rfl];rfl
   ·rw[show(x.1 == 2)=false by simpa using c1];rfl
theorem Xnw {w:List Int} (v2:Xa) (hw:Wok w) (x:Xa) (hx:x.2.2.2.2.1=[]):Xdm w v2 (4,0,x)=some (x.1,x.2.1,x.2.2.1,x.2.2.2.1,spE w x.1 (w.getD 3 0) 64 4 0 [],()):=by
 have h:=Xq6 v2 hw 64 4 0 x (by have:=hw.1;omega) (by omega) (by omega) (by rw[hx];simp)
 rw[hx] at h;exact h
theorem Xnn {w:List Int}:∀ (l:List Xg) (f k:Nat) (pre:List Int) (es:List Xg),w=pre++l.flatMap Xae→(∀ e∈l,e.1.length≤4)→l.length<f→spE w 2 ((k+l.length:Nat):Int) f pre.length k es=es++l
 |[],f+1,k,pre,es,hw,_,_=>by simp[spE]
 |e::l,f+1,k,pre,es,hw,h,hn=>by
  have h1:=h e (List.mem_cons_self ..);simp only[List.length_cons] at hn
  have e0:(e::l).flatMap Xae=e.2.1::(e.1.length:Int)::((e.1.map fun b=>(b.toNat:Int))++l.flatMap Xae):=by simp[Xae]
  have hlen:pre.length<w.length:=by rw[hw,e0];simp
  have g0:w.getD pre.length 0=e.2.1:=by rw[hw,e0];simp[List.getD]
  have g1:w.getD (pre.length+1) 0=(e.1.length:Int):=by rw[hw,e0];simp[List.getD]
  have g2:∀ i (hi:i<e.1.length),w.getD (pre.length+2+i) 0=((e.1[i]).toNat:Int):=fun i hi=>by
   rw[hw,e0];simp only[List.getD]
   rw[List.getElem?_append_right (by omega),show pre.length+2+i-pre.length=i+1+1 by omega,List.getElem?_cons_succ,List.getElem?_cons_succ,List.getElem?_append_left (by simpa using hi),List.getElem?_map,List.getElem?_eq_getElem hi];rfl
  have hc:nmC w pre.length=e.1.length:=by unfold nmC;rw[g1];omega
  have hn2:nmF w pre.length=e.1:=by
   unfold nmF;rw[hc]
   refine List.ext_getElem (by simp) fun i hi hi'=>?_
   simp only[List.getElem_map,List.getElem_range];have:=(e.1[i]).toNat_lt
   rw[g2 i hi',Int.tmod_eq_of_lt (by omega) (by omega),Xo9]
  simp only[spE]
  rw[if_pos (by refine⟨trivial,?_,hlen⟩;simp only[List.length_cons];omega),hn2,g0,hc]
  have:=Xnn (w:=w) l f (k+1) (pre++Xae e) (es++[(e.1,e.2.1,())]) (by rw[hw];simp) (fun x hx=>h x (List.mem_cons_of_mem _ hx)) (by omega)
  rw[show(pre++Xae e).length=pre.length+2+e.1.length by simp[Xae];omega,show k+1+l.length=k+(e::l).length by simp;omega] at this
  rw[this];simp
theorem Xrd (w:List Int) (kd n:Int) (h:kd≠2):∀ (f a k:Nat) (es:List Xg),spE w kd n f a k es=es
 |0,_,_,_=>rfl
 |f+1,_,_,_=>if_neg fun c=>h c.1
theorem Xpg (w:List Int) (kd n:Int):∀ (f at_ k:Nat) (es:List Xg),(spE w kd n f at_ k es).length≤es.length+f∧∀ e∈spE w kd n f at_ k es,e∈es∨e.1.length≤64
 |0,at_,k,es=>⟨by simp[spE],fun e he=>.inl he⟩
 |f+1,at_,k,es=>by
  simp only[spE]
  split
  ·obtain⟨h1,h2⟩:=Xpg w kd n f (at_+2+nmC w at_) (k+1) (es++[(nmF w at_,w.getD at_ 0,())])
   refine⟨by simp only[List.length_append,List.length_cons,List.length_nil] at h1;omega,fun e he=>?_⟩
   rcases h2 e he with h3 | h3
   ·rcases List.mem_append.1 h3 with h3 | h3
    ·exact .inl h3
    ·simp only[List.mem_singleton] at h3;subst h3;right;have:=Xri w at_;simp only;omega
   ·exact .inr h3
  ·exact⟨by omega,fun e he=>.inl he⟩
def Xak (w:List Int):Xa:=(w.getD 0 0,w.getD 1 0,w.getD 2 0,(if w.getD 0 0=1∧3<w.length then w.drop 3 else[]),spE w (w.getD 0 0) (w.getD 3 0) 64 4 0 [],())
theorem Xo7 {w:List Int} (h:w.length≤64):Bd Xb (Xak w):=by
 obtain⟨h1,h2⟩:=Xpg w (w.getD 0 0) (w.getD 3 0) 64 4 0 []
 refine Xid ?_ (by simp only[List.length_nil] at h1;omega) (fun e he=>(h2 e he).resolve_left (by simp))
 split
 ·simp;omega
 ·simp
theorem Xlt {y:Xa} (h:Xv y=0):Xak (Xai y)=y:=by
 obtain⟨k,l,s,bs,es,⟨⟩⟩:=y;have hs:=Xaf.of h
 by_cases h2:k=2
 ·subst h2
  obtain⟨e1,e2⟩:=Xnk h rfl;simp only at e1 e2;subst e2;rw[e1];unfold Xak;simp only[List.getD_cons_zero,List.getD_cons_succ]
  rw[if_neg (by simp)]
  have:=Xnn (w:=2::l::s::(es.length:Int)::es.flatMap Xae) es 64 0 [2,l,s,(es.length:Int)] [] (by simp) hs.nam (by have:=hs.ent;simp only at this;omega)
  simp only[Nat.zero_add,List.length_cons,List.length_nil,List.nil_append] at this;rw[this]
 ·obtain⟨e1,e2⟩:=Xmg h h2
  simp only at e1 e2;subst e2;rw[e1];unfold Xak;simp only[List.getD_cons_zero,List.getD_cons_succ,List.drop_succ_cons,List.drop_zero,List.length_cons];have hsp:∀ n,spE (k::l::s::bs) k n 64 4 0 []=[]:=fun n=>Xrd _ _ _ h2 _ _ _ _;rw[hsp];have hb:=(Xar h).2.2.1;simp only at hb
  by_cases h1:k=1
  ·by_cases h3:bs=[]
   ·subst h3;simp
   ·have:0<bs.length:=List.length_pos_iff.2 h3
    rw[if_pos ⟨h1,by omega⟩]
  ·rw[if_neg (by simp[h1]),hb h1]
noncomputable def Xbc (w:List Int):Option Xa:=open Classical in if w=[] then some Xc else if Xv (X5 w).1=0∧Xai (X5 w).1=w∧(X5 w).2=true then some (X5 w).1 else none
theorem Xgs {w:List Int} (hw:w≠[]) {y:Xa}:Xbc w=some y↔Xv y=0∧Xai y=w:=by
 unfold Xbc;rw[if_neg hw]
 constructor
 ·intro h
  split at h
  ·rename_i hc;cases h;exact⟨hc.1,hc.2.1⟩
  ·cases h
 ·rintro⟨h1,rfl⟩
  rw[Xn5 h1,if_pos ⟨h1,rfl,rfl⟩]
theorem Xr6 {w:List Int} (h:Wok w):Xjb w=some (match Xbc w with | some y=>(y,0) | none=>(Xc,5)):=by
 have hwf:X9 w=0:=by
  unfold X9
  rw[show decide ((w.length:Int)>64)=false by have:=h.1;simp;omega,show(w.any fun x=>!inR x 0 65535)=false by
   rw[List.any_eq_false];intro x hx;have:=h.2 x hx;simp[X3.2 this]];rfl
 simp only[Xjb,Xpc,Option.bind_some,hwf]
 by_cases hw:w=[]
 ·subst hw;simp[Xbc];rfl
 ·have hlen:0<w.length:=List.length_pos_iff.2 hw
  rw[show(cond ((0:Int) != 0) true ((w.length:Int) == 0))=false by simp;omega,Ywx,Xuc h]
  simp only[Option.bind_some];have hbd:=Xpv h.1;have hno:∀ {b:Bool},(b=true→False)→Xbc w=none→True:=fun _ _=>trivial
  cases hr:(X5 w).2 with
  |false=>
   have:Xbc w=none:=by unfold Xbc;rw[if_neg hw,if_neg (by rw[hr];simp)]
   rw[this];rfl
  |true=>
   simp only[Bool.not_true,Ywx];rw[show Xem ((X5 w).1.1,(X5 w).1.2.1,(X5 w).1.2.2.1,(X5 w).1.2.2.2.1,(X5 w).1.2.2.2.2.1,(X5 w).1.2.2.2.2.2)=some (Xv (X5 w).1) from Xqx _ hbd];simp only[Option.bind_some]
   by_cases hf:Xv (X5 w).1=0
   ·rw[hf]
    simp only[Yvn,Ywx];rw[show Xa9 ((X5 w).1.1,(X5 w).1.2.1,(X5 w).1.2.2.1,(X5 w).1.2.2.2.1,(X5 w).1.2.2.2.2.1,(X5 w).1.2.2.2.2.2)=some (Xai (X5 w).1) from Xqq _ (Xaf.of hf)];simp only[Option.bind_some]
    rw[Xpj _ _ (by have:=Xjf (Xaf.of hf);omega)]
    simp only[Option.bind_some]
    by_cases hp:Xai (X5 w).1=w
    ·rw[show Xbc w=some (X5 w).1 from(Xgs hw).2 ⟨hf,hp⟩,show(Xai (X5 w).1 == w)=true by simpa using hp];rfl
    ·rw[show Xbc w=none by unfold Xbc;rw[if_neg hw,if_neg (by simp[hp])],show(Xai (X5 w).1 == w)=false by simpa using hp];rfl
   ·rw[show(Xv (X5 w).1 != 0)=true by simpa using hf,show Xbc w=none by unfold Xbc;rw[if_neg hw,if_neg (by simp[hf])]];rfl
theorem Xt2 {w:List Int} (h:Wok w):∃ z,Xha w=some (match Xbc w with | some y=>(y,true) | none=>(z,false)):=by
 by_cases hw:w=[]
 ·subst hw;exact⟨Xc,by simp[Xbc];rfl⟩
 ·have hlen:0<w.length:=List.length_pos_iff.2 hw
  have hl:=h.1;refine⟨Xak w,?_⟩
  have fin:(Xhx (Xak w)).bind (fun r=>cond (r == 0) ((Xh1 (Xak w)).bind fun q=>(Xgn q w).bind fun b=>some (Xak w,b)) (some (Xak w,false)))=some (match Xbc w with | some y=>(y,true) | none=>(Xak w,false)):=by
   rw[Xqz _ (Xo7 hl)];simp only[Option.bind_some]
   by_cases hf:Xv (Xak w)=0
   ·rw[hf,show((0:Int) == 0)=true from rfl,Yw4,Xqu _ (Xaf.of hf)]
    simp only[Option.bind_some]
    rw[Xpm _ _ (by have:=Xjf (Xaf.of hf);omega)]
    simp only[Option.bind_some]
    by_cases hp:Xai (Xak w)=w
    ·rw[show Xbc w=some (Xak w) from(Xgs hw).2 ⟨hf,hp⟩,show(Xai (Xak w) == w)=true by simpa using hp]
    ·have:Xbc w=none:=by
      cases hu:Xbc w with
      |none=>rfl
      |some y=>
       obtain⟨h1,h2⟩:=(Xgs hw).1 hu;subst h2;rw[Xlt h1] at hp;exact absurd rfl hp
     rw[this,show(Xai (Xak w) == w)=false by simpa using hp]
   ·have:Xbc w=none:=by
     cases hu:Xbc w with
     |none=>rfl
     |some y=>
      obtain⟨h1,h2⟩:=(Xgs hw).1 hu;subst h2;rw[Xlt h1] at hf;exact absurd h1 hf
    rw[this,show(Xv (Xak w) == 0)=false by simpa using hf,Ywx]
  have hz:Xha w=(Xhx (Xak w)).bind (fun r=>cond (r == 0) ((Xh1 (Xak w)).bind fun q=>(Xgn q w).bind fun b=>some (Xak w,b)) (some (Xak w,false))):=by
   simp only[Xha,show(1:Int)=((1:Nat):Int) from rfl,show(2:Int)=((2:Nat):Int) from rfl,Xml,Option.bind_some,List.take_length,show(0:Int).toNat=0 from rfl,show(3:Int).toNat=3 from rfl]
   rw[show((w.length:Int) == 0)=false by simp;omega,Ywx,Yu7 (Int.le_refl 0) (by omega:(0:Int)<w.length),Yw4]
   by_cases hk:w.getD 0 0=1
   ·by_cases h3:3<w.length
    ·rw[show(cond (w.getD 0 0 == ((1:Nat):Int)) (decide ((w.length:Int)>3)) false)=true by rw[hk];simp;omega,Yw4,show(decide ((0:Int)≤(3:Int))&&decide ((3:Int)≤(w.length:Int)))=true by simp;omega,Yw4]
     simp only[Xaq,List.nil_append]
     rw[Xat (by simp;omega)]
     simp only[Yw4,Option.bind_some];rw[Xnw _ h _ rfl];simp only[Option.bind_some]
     rw[show(w.getD 0 0,w.getD 1 0,w.getD 2 0,w.drop 3,spE w (w.getD 0 0) (w.getD 3 0) 64 4 0 [],())=Xak w by unfold Xak;rw[if_pos ⟨hk,h3⟩]]
    ·rw[show(cond (w.getD 0 0 == ((1:Nat):Int)) (decide ((w.length:Int)>3)) false)=false by rw[hk];simp;omega,Ywx]
     rw[Xnw _ h _ rfl];simp only[Option.bind_some]
     rw[show(w.getD 0 0,w.getD 1 0,w.getD 2 0,[],spE w (w.getD 0 0) (w.getD 3 0) 64 4 0 [],())=Xak w by unfold Xak;rw[if_neg (by omega)]]
   ·rw[show(cond (w.getD 0 0 == ((1:Nat):Int)) (decide ((w.length:Int)>3)) false)=false by rw[show(w.getD 0 0 == ((1:Nat):Int))=false by simpa using hk];rfl,Ywx]
    rw[Xnw _ h _ rfl];simp only[Option.bind_some]
    rw[show(w.getD 0 0,w.getD 1 0,w.getD 2 0,[],spE w (w.getD 0 0) (w.getD 3 0) 64 4 0 [],())=Xak w by unfold Xak;rw[if_neg fun c=>hk c.1]]
  rw[hz,fin]
def Xpe (d:Xd):Prop:=∃ s:Int,(1≤s∧s≤60000)∧Xq d 0=[7,s]
theorem Xpt {d:Xd} (h:Xag d) (hs:Xpe d):(Xav d).2=0:=by
 obtain⟨s,hr,hb⟩:=hs;unfold Xav;rw[h.ok.zero,hb,h.l,show inR (([7,s]:List Int).getD 1 0) 1 60000=true from X3.2 hr];rfl
theorem Xrg {d:Xd} (h:(Xav d).2=0):Xpe d:=by
 obtain⟨hok,h47⟩:=Xix h;have hr:=Xja h;unfold Xav at h hr;rw[hok.zero,h47] at h hr;simp only[show((0:Int) != 0)=false from rfl,show((47:Int) != 47)=false from rfl,Ywx] at h hr;generalize hbb:Xq d 0=b at h hr
 cases h3:cond ((b.length:Int) != 2) true (b.getD 0 0 != 7) with
 |true=>rw[h3] at h;cases h
 |false=>
  rw[h3] at h hr;simp only[Ywx] at h hr
  cases h4:inR (b.getD 1 0) 1 60000 with
  |false=>rw[h4] at h;cases h
  |true=>
   cases h2:((b.length:Int) != 2) with
   |true=>rw[h2] at h3;cases h3
   |false=>
    rw[h2] at h3
    have h7:b.getD 0 0=7:=by simpa using h3
    have hl:b.length=2:=by
      have:(b.length:Int)=2:=by simpa using h2
      omega
    obtain⟨x,y,rfl⟩:∃ x y,b=[x,y]:=by
     match b,hl with
     |[x,y],_=>exact⟨x,y,rfl⟩
    have:x=7:=h7;subst this;exact⟨y,X3.1 h4,hbb⟩
def Xl8 {α τ:Type} (g:α→τ→Option τ):List α→τ→Option τ
 |[],t=>some t
 |x::l,t=>match g x t with
  |none=>none
  |some t'=>Xl8 g l t'
def Xrc {τ ρ:Type} (bad:ρ):Option τ→τ⊕ρ
 |none=>.inr bad
 |some t=>.inl t
def Xqj {τ ρ:Type} (bad:ρ) (e:τ→ρ):Option τ→ρ
 |none=>bad
 |some t=>e t
theorem Xje {α τ ρ:Type} (g:α→τ→Option τ) (bad:ρ) (e:τ→ρ):∀ (l:List α) (k:Nat) (t:τ),Yba (fun _ x t=>Xrc bad (g x t)) e k l t=Xqj bad e (Xl8 g l t)
 |[],k,t=>rfl
 |x::l,k,t=>by
  simp only[Yba,Xl8]
  cases g x t with
  |none=>rfl
  |some t'=>exact Xje g bad e l (k+1) t'
noncomputable def Xmq (d:Xd) (i:Nat) (t:List Xa×Int):Option (List Xa×Int):=match Xbc (Xq d ((17+i:Nat):Int)) with
 |none=>none
 |some y=>some (t.1++[y],cond (decide (((Xq d ((17+i:Nat):Int)).length:Int)>0)) ((i+1:Nat):Int) t.2)
noncomputable def Xqn (d:Xd):Option (List Xa×Int):=Xl8 (Xmq d) (List.range 10) ([],0)
theorem Xqg {w:List Int} {y:Xa} (h:Xbc w=some y):Xv y=0:=by
 by_cases hw:w=[]
 ·subst hw
  have:Xc=y:=by simpa [Xbc] using h
  subst this;rfl
 ·exact((Xgs hw).1 h).1
theorem Xl6 {d:Xd}:∀ (n k:Nat) (t t':List Xa×Int),Xl8 (Xmq d) (List.range' k n) t=some t'→t.1.length=k→(0≤t.2∧t.2≤(k:Int))→(∀ y∈t.1,Xv y=0)→
  t'.1.length=k+n∧(0≤t'.2∧t'.2≤((k+n:Nat):Int))∧∀ y∈t'.1,Xv y=0
 |0,k,t,t',h,h1,h2,h3=>by cases h;exact⟨h1,h2,h3⟩
 |n+1,k,t,t',h,h1,h2,h3=>by
  rw[List.range'_succ] at h;simp only[Xl8,Xmq] at h
  cases hu:Xbc (Xq d ((17+k:Nat):Int)) with
  |none=>rw[hu] at h;cases h
  |some y=>
   rw[hu] at h
   obtain⟨g1,g2,g3⟩:=Xl6 n (k+1) _ t' h (by simp[h1]) (by
    show 0≤cond _ _ _∧cond _ _ _≤_;cases decide (((Xq d ((17+k:Nat):Int)).length:Int)>0)
    ·simp only[Ywx];omega
    ·simp only[Yw4];omega) (fun z hz=>by
    rcases List.mem_append.1 hz with hz | hz
    ·exact h3 z hz
    ·simp only[List.mem_singleton] at hz;subst hz;exact Xqg hu)
   exact⟨by omega,by omega,g3⟩
theorem Xqf {d:Xd} {t:List Xa×Int} (h:Xqn d=some t):t.1.length=10∧(0≤t.2∧t.2≤10)∧∀ y∈t.1,Xv y=0:=by
 have:=Xl6 10 0 ([],0) t (by rw[←List.range_eq_range'];exact h) rfl (by simp) (by simp)
 simpa using this
def Xb3:Fs_:=([],[],())
def Dz:List (List Int):=List.replicate 20 []
theorem Xlz {d:Xd} (hok:Xy d) (a:Int):Wok (Xq d a):=⟨Xfm hok a,Xn1 hok a⟩
theorem Xtt {d:Xd} (h:Xag d) (D:List (List Int)):Xcp d Xb3 (0,0,([],D,()))=some (Xqj (.inl (5,Xb3)) (fun t=>.inr (t.2,(t.1,D,()))) (Xqn d)):=by
 have h47:=h.l
 have hh:=Ym3 (τ:=List Xa×Int) (List.range 10) (f:=fun s=>Xcp.B d Xb3 s.1 s.2.1 s.2.2) (fun i t=>(t.2,((i:Int),(t.1,D,()))))
  (fun _ i t=>Xrc (.inl (5,Xb3)) (Xmq d i t)) (fun t=>(.inr (t.2,(t.1,D,())):(Int×Fs_)⊕(Int×Fs_))) (fun i t=>t.1.length=i)
  (fun i hi t ht=>by
   have hi:i<10:=by simpa using hi
   rw[List.getElem_range]
   have e17:w64 ((17:Int)+(i:Int))=((17+i:Nat):Int):=by rw[Xfp (by omega) (by omega)];omega
   simp only[Xcp.B,show decide ((i:Int)<10)=true by simp;omega,Yw4,e17,Xn9 h.ok.l2 (at_:=((17+i:Nat):Int)) (by omega) (by omega),Option.bind_some,Xr6 (Xlz h.ok _),Xmq,Yvo (by omega:i<4294967296)]
   cases hu:Xbc (Xq d ((17+i:Nat):Int)) with
   |none=>rfl
   |some y=>
    simp only[bne_self_eq_false,Ywx]
    rw[show decide ((t.1++[(y.1,y.2.1,y.2.2.1,y.2.2.2.1,y.2.2.2.2.1,y.2.2.2.2.2)]).length≤2147483648)=true by simp;omega]
    cases decide (((Xq d ((17+i:Nat):Int)).length:Int)>0)<;>rfl)
  (fun i hi t t' ht e=>by
   rw[List.getElem_range] at e;simp only[Xmq] at e
   cases hu:Xbc (Xq d ((17+i:Nat):Int)) with
   |none=>rw[hu] at e;cases e
   |some y=>rw[hu] at e;cases e;simp[ht]) (fun t ht=>by
   rw[List.length_range];rfl) ([],0) rfl (s:=(0,0,([],D,()))) rfl
 rw[Xje] at hh;rw[show Xcp d Xb3 (0,0,([],D,()))=_ from hh];rfl
theorem Xs3 {d:Xd} (h:Xag d) (D:List (List Int)):Xcs d (0,Xb3,()) (0,0,([],D,()))=some (Xqj (.inl (5,Xb3,())) (fun t=>.inr (t.2,(t.1,D,()))) (Xqn d)):=by
 have h47:=h.l
 have hh:=Ym3 (τ:=List Xa×Int) (List.range 10) (f:=fun s=>Xcs.B d (0,Xb3,()) s.1 s.2.1 s.2.2) (fun i t=>(t.2,((i:Int),(t.1,D,()))))
  (fun _ i t=>Xrc (.inl (5,Xb3,())) (Xmq d i t)) (fun t=>(.inr (t.2,(t.1,D,())):Xa6⊕(Int×Fs_))) (fun i t=>t.1.length=i)
  (fun i hi t ht=>by
   have hi:i<10:=by simpa using hi
   rw[List.getElem_range]
   have e17:w64 ((17:Int)+(i:Int))=((17+i:Nat):Int):=by rw[Xfp (by omega) (by omega)];omega
   obtain⟨z,hz⟩:=Xt2 (Xlz h.ok ((17+i:Nat):Int))
   simp only[Xcs.B,show decide ((i:Int)<10)=true by simp;omega,Yw4,e17,Xn8 h.ok.l2 (at_:=((17+i:Nat):Int)) (by omega) (by omega),Option.bind_some,hz,Xmq,Yvo (by omega:i<4294967296)]
   cases hu:Xbc (Xq d ((17+i:Nat):Int)) with
   |none=>rfl
   |some y=>
    simp only[Bool.not_true,Ywx]
    rw[show decide ((t.1++[(y.1,y.2.1,y.2.2.1,y.2.2.2.1,y.2.2.2.2.1,y.2.2.2.2.2)]).length≤2147483648)=true by simp;omega]
    cases decide (((Xq d ((17+i:Nat):Int)).length:Int)>0)<;>rfl)
  (fun i hi t t' ht e=>by
   rw[List.getElem_range] at e;simp only[Xmq] at e
   cases hu:Xbc (Xq d ((17+i:Nat):Int)) with
   |none=>rw[hu] at e;cases e
   |some y=>rw[hu] at e;cases e;simp[ht]) (fun t ht=>by
   rw[List.length_range];rfl) ([],0) rfl (s:=(0,0,([],D,()))) rfl
 rw[Xje] at hh;rw[show Xcs d (0,Xb3,()) (0,0,([],D,()))=_ from hh];rfl
def Xcm (d:Xd) (v n:Int):Bool:=cond (decide (((Xq d (27+v)).length:Int)<n)) true (((Xq d (27+v)).take n.toNat).any Xax)
def Xi7 (d:Xd) (v n:Int):List Int:=((Xq d (27+v)).take n.toNat).map IntKind.u8.wrap
def nF (x:Xa) (k:Nat):Int:=Xls 8 (w64 (x.2.2.1-w64 ((k:Int)*8)))
def Xex (x:Xa):Nat→List Int→List (Int×Int)
 |_,[]=>[]
 |k,b::bs=>(b,nF x k)::Xex x (k+1) bs
def Xco:List Xa→List (Int×Int)
 |[]=>[]
 |x::l=>Xex x 0 x.2.2.2.1++Xco l
def Xbz:List (Int×Int)→List Int→List Int
 |[],w=>w
 |p::ps,w=>Xbz ps (w.set p.1.toNat p.2)
def goP (d:Xd):List (Int×Int)→List (List Int)→List (List Int)⊕List (List Int)
 |[],D=>.inr D
 |p::ps,D=>cond (Xcm d p.1 p.2) (.inl D) (goP d ps (D.set p.1.toNat (Xi7 d p.1 p.2)))
theorem Xmj:∀ (a b:List (Int×Int)) (w:List Int),Xbz (a++b) w=Xbz b (Xbz a w)
 |[],b,w=>rfl
 |p::a,b,w=>Xmj a b _
theorem Xoe (d:Xd):∀ (a b:List (Int×Int)) (D:List (List Int)),goP d (a++b) D=sel (goP d a D) (fun D'=>.inl D') (fun D'=>goP d b D')
 |[],b,D=>rfl
 |p::a,b,D=>by
  simp only[List.cons_append,goP]
  cases Xcm d p.1 p.2 with
  |true=>rfl
  |false=>exact Xoe d a b _
theorem Xof (x:Xa):∀ (bs:List Int) (k:Nat) (w:List Int),Xfw x k bs w=Xbz (Xex x k bs) w
 |[],k,w=>rfl
 |b::bs,k,w=>Xof x bs (k+1) _
theorem Xmr:∀ (l:List Xa) (w:List Int),Xks l w=Xbz (Xco l) w
 |[],w=>rfl
 |x::l,w=>by
  simp only[Xks,Xco,Xmj,←Xof];exact Xmr l _
theorem Xl7 (x:Xa):∀ (bs:List Int) (k:Nat),(Xex x k bs).map (·.1)=bs
 |[],k=>rfl
 |b::bs,k=>by simp only[Xex,List.map_cons,Xl7 x bs]
theorem Xjy:∀ (l:List Xa),(Xco l).map (·.1)=Xw l
 |[]=>rfl
 |x::l=>by simp only[Xco,List.map_append,Xl7,Xjy l,Xw,List.flatMap_cons]
theorem Xoi {d:Xd}:∀ {ps:List (Int×Int)} {D D':List (List Int)},goP d ps D=.inr D'→D'.length=D.length
 |[],D,D',h=>by cases h;rfl
 |p::ps,D,D',h=>by
  simp only[goP] at h
  cases hb:Xcm d p.1 p.2 with
  |true=>rw[hb] at h;cases h
  |false=>rw[hb] at h;rw[Xoi h];simp
theorem Xo1:∀ (ps:List (Int×Int)) (w:List Int),(Xbz ps w).length=w.length
 |[],w=>rfl
 |p::ps,w=>by simp only[Xbz];rw[Xo1 ps];simp
theorem Xlv {w:List Int} {i j:Nat} {n:Int}:(w.set i n).getD j 0=if i=j∧i<w.length then n else w.getD j 0:=by
 simp only[List.getD,List.getElem?_set]
 by_cases h:i=j
 ·subst h
  by_cases h2:i<w.length
  ·simp[h2]
  ·simp[h2,List.getElem?_eq_none (by omega:w.length≤i)]
 ·simp[h]
theorem Xmk:∀ (ps:List (Int×Int)) (w:List Int) (v:Nat),(∀ p∈ps,p.1.toNat≠v)→(Xbz ps w).getD v 0=w.getD v 0
 |[],w,v,_=>rfl
 |p::ps,w,v,h=>by
  simp only[Xbz];rw[Xmk ps _ v (fun q hq=>h q (List.mem_cons_of_mem _ hq)),Xlv,if_neg (fun c=>h p List.mem_cons_self c.1)]
theorem Xnq:∀ (ps:List (Int×Int)) (w:List Int),(∀ p∈ps,0≤p.2∧p.2≤8)→(∀ v,0≤w.getD v 0∧w.getD v 0≤8)→∀ v,0≤(Xbz ps w).getD v 0∧(Xbz ps w).getD v 0≤8
 |[],w,_,h=>h
 |p::ps,w,h,hw=>Xnq ps _ (fun q hq=>h q (List.mem_cons_of_mem _ hq)) (fun v=>by
  rw[Xlv];split
  ·exact h p List.mem_cons_self
  ·exact hw v)
def Xnh (d:Xd) (w:List Int):Bool:=(List.range 20).any fun(v:Nat)=>Xcm d (v:Int) (w.getD v 0)
def Xb5 (d:Xd) (w:List Int):List (List Int):=(List.range 20).map fun(v:Nat)=>Xi7 d (v:Int) (w.getD v 0)
theorem Xoj (d:Xd):∀ (ps:List (Int×Int)) (w:List Int),w.length=20→(∀ p∈ps,0≤p.1∧p.1≤19)→(ps.map (·.1)).Nodup→Xnh d w=false→
  (Xnh d (Xbz ps w)=false∧goP d ps (Xb5 d w)=.inr (Xb5 d (Xbz ps w)))∨(Xnh d (Xbz ps w)=true∧∃ D',goP d ps (Xb5 d w)=.inl D')
 |[],w,hw,hp,hn,hb=>.inl ⟨hb,rfl⟩
 |p::ps,w,hw,hp,hn,hb=>by
  have h1:=hp p List.mem_cons_self;have hp':=fun q hq=>hp q (List.mem_cons_of_mem p hq);simp only[List.map_cons,List.nodup_cons] at hn;simp only[goP,Xbz]
  have ec:((p.1.toNat:Nat):Int)=p.1:=by omega
  cases hbad:Xcm d p.1 p.2 with
  |true=>
   refine .inr ⟨?_,_,rfl⟩
   refine List.any_eq_true.2 ⟨p.1.toNat,List.mem_range.2 (by omega),?_⟩
   rw[Xmk ps _ _ (fun q hq e=>hn.1 (List.mem_map.2 ⟨q,hq,by have:=hp' q hq;omega⟩)),Xlv,if_pos ⟨rfl,by omega⟩,ec]
   exact hbad
  |false=>
   simp only[Ywx]
   have hb':Xnh d (w.set p.1.toNat p.2)=false:=by
    refine List.any_eq_false.2 fun v hv=>?_;have h0:=List.any_eq_false.1 hb v hv;rw[Xlv]
    split
    ·rename_i c;rw[←c.1,ec,hbad];simp
    ·exact h0
   have hd:(Xb5 d w).set p.1.toNat (Xi7 d p.1 p.2)=Xb5 d (w.set p.1.toNat p.2):=by
    refine List.ext_getElem (by simp[Xb5]) fun i hi hi'=>?_
    have hi2:i<20:=by simpa [Xb5] using hi'
    simp only[Xb5,List.getElem_set,List.getElem_map,List.getElem_range,Xlv]
    by_cases e:p.1.toNat=i
    ·rw[if_pos e,if_pos ⟨e,by omega⟩,←e,ec]
    ·rw[if_neg e,if_neg (fun c=>e c.1)]
   rw[hd]
   exact Xoj d ps _ (by simpa using hw) hp' hn.2 hb'
theorem Xrx (d:Xd) (i:Int) (x:Nat) (k:Int) (r2:List Int) (f:Fs_) {n:Int} (hn:0≤n∧n≤8) (h:¬ (r2.length:Int)<n) :
  Xb8 d i x k n r2 f (0,[])=some (cond ((r2.take n.toNat).any Xax) (.inl false) (.inr ((r2.take n.toNat).map IntKind.u8.wrap))):=by
 have hl:(r2.take n.toNat).length=n.toNat:=by rw[List.length_take];omega
 have hh:=Ym3 (τ:=List Int) (r2.take n.toNat) (f:=fun s=>Xb8.B d i x k n r2 f s.1 s.2) (fun j t=>((j:Int),t)) (fun _ v t=>cond (Xax v) (.inr (.inl false)) (.inl (t++[IntKind.u8.wrap v])))
  (fun t=>(.inr t:Bool⊕List Int)) (fun j t=>t.length=j)
  (fun j hj t ht=>by
   rw[hl] at hj
   have hj':j<r2.length:=by omega
   simp only[Xb8.B,show decide ((j:Int)<n)=true by simp;omega,Yxb hj',Yw4,toNat_cast,getD_lt _ hj',Option.bind_some,Yvo (by omega:j<4294967296),List.getElem_take]
   rw[show decide ((t++[IntKind.u8.wrap r2[j]]).length≤2147483648)=true by simp;omega]
   show cond (Xax r2[j]) _ _=_
   cases Xax r2[j]<;>rfl)
  (fun j hj t t' ht e=>by
   cases hb:Xax (r2.take n.toNat)[j] with
   |true=>rw[hb] at e;cases e
   |false=>rw[hb] at e;cases e;simp[ht])
  (fun t ht=>by
   rw[hl]
   simp only[Xb8.B,show decide (((n.toNat:Nat):Int)<n)=false by simp;omega,Ywx]) [] rfl (s:=(0,[])) rfl
 rw[Xfu] at hh;exact hh
structure Xin (x:Xa):Prop where
 len:x.2.2.2.1.length≤4
 rng:∀ b∈x.2.2.2.1,0≤b∧b≤19
 n:∀ k,k<x.2.2.2.1.length→0≤nF x k∧nF x k≤8
theorem Xin.of {x:Xa} (h:Xv x=0):Xin x:=by
 obtain⟨h1,h2,h3,h4⟩:=Xar h;refine⟨h1,h2,fun k hk=>?_⟩
 have hx:x.1=1:=by
  by_cases e:x.1=1
  ·exact e
  ·rw[h3 e] at hk;simp at hk
 have hf:=h4 hx;unfold Xhl at hf
 cases c1:inR x.2.1 1 60 with
 |false=>rw[c1] at hf;cases hf
 |true=>
  rw[c1] at hf
  cases c2:inR x.2.2.1 0 32 with
  |false=>rw[c2] at hf;cases hf
  |true=>
   rw[c2] at hf;have r:=X3.1 c2
   cases c3:((x.2.2.2.1.length:Int) != Xmy x.2.2.1) with
   |true=>rw[c3] at hf;cases hf
   |false=>
    have e:(x.2.2.2.1.length:Int)=Xmy x.2.2.1:=by simpa using c3
    unfold Xmy at e
    rw[Xfp (n:=x.2.2.1+8) (by omega) (by omega),Xfp (n:=x.2.2.1+8-1) (by omega) (by omega),Int.tdiv_eq_ediv_of_nonneg (by omega),Xfp (by omega) (by omega)] at e
    unfold nF Xls
    rw[Xfp (n:=(k:Int)*8) (by omega) (by omega),Xfp (by omega) (by omega)]
    by_cases c:(8:Int)<x.2.2.1-(k:Int)*8
    ·rw[decide_eq_true c];simp
    ·rw[decide_eq_false c];simp only[Ywx];omega
def Xqi (l:List Xa):List (List Int)⊕List (List Int)→(Bool×Fs_)⊕Fs_
 |.inl D=>.inl (false,(l,D,()))
 |.inr D=>.inr (l,D,())
theorem Xmb (d:Xd) (l:List Xa) (x:Xa):∀ (bs:List Int) (k:Nat) (D:List (List Int)),
  Yba (fun k b D=>cond (Xcm d b (nF x k)) (.inr (.inl (false,(l,D,())))) (.inl (D.set b.toNat (Xi7 d b (nF x k))))) (fun D=>(.inr (l,D,()):(Bool×Fs_)⊕Fs_)) k bs D=Xqi l (goP d (Xex x k bs) D)
 |[],k,D=>rfl
 |b::bs,k,D=>by
  simp only[Yba,Xex,goP]
  cases Xcm d b (nF x k) with
  |true=>rfl
  |false=>exact Xmb d l x bs (k+1) _
theorem Xto {d:Xd} (h:Xag d) (l:List Xa) (i:Nat) (hi:i<l.length) (hx:Xin l[i]) (D:List (List Int)) (hD:D.length=20) :
  Xcu d (i:Int) i (0,(l,D,()))=some (Xqi l (goP d (Xex l[i] 0 l[i].2.2.2.1) D)):=by
 have h47:=h.l;have h4:=hx.len
 have hh:=Ym3 (τ:=List (List Int)) l[i].2.2.2.1 (f:=fun s=>Xcu.B d (i:Int) i s.1 s.2) (fun k D=>((k:Int),(l,D,())))
  (fun k b D=>cond (Xcm d b (nF l[i] k)) (.inr (.inl (false,(l,D,())))) (.inl (D.set b.toNat (Xi7 d b (nF l[i] k))))) (fun D=>(.inr (l,D,()):(Bool×Fs_)⊕Fs_)) (fun k D=>D.length=20)
  (fun k hk D hD=>by
   have hb:=hx.rng _ (List.getElem_mem hk);have hn:=hx.n k hk
   have e27:w64 ((27:Int)+l[i].2.2.2.1[k])=27+l[i].2.2.2.1[k]:=Xfp (by omega) (by omega)
   simp only[Xcu.B,getD_lt _ hi,Option.bind_some,Yxm hk,Yxb hk,Yw4,toNat_cast,getD_lt _ hk,Xq9,e27,Xn8 h.ok.l2 (at_:=27+l[i].2.2.2.1[k]) (by omega) (by omega),Yvo (by omega:k<4294967296)]
   rw[show Xls 8 (w64 (l[i].2.2.1-w64 ((k:Int)*8)))=nF l[i] k from rfl];unfold Xcm Xi7;generalize Xq d (27+l[i].2.2.2.1[k])=r2
   by_cases c:(r2.length:Int)<nF l[i] k
   ·rw[decide_eq_true c];rfl
   ·rw[decide_eq_false c,Xrx d _ _ _ r2 _ hn c]
    simp only[Ywx,Option.bind_some]
    cases (r2.take (nF l[i] k).toNat).any Xax with
    |true=>rfl
    |false=>
     simp only[Ywx,Ywu]
     rw[show inB l[i].2.2.2.1[k] D.length=true from Yu7 hb.1 (by omega)]
     rfl)
  (fun k hk D D' hD e=>by
   cases hb:Xcm d l[i].2.2.2.1[k] (nF l[i] k) with
   |true=>rw[hb] at e;cases e
   |false=>rw[hb] at e;cases e;simpa using hD)
  (fun D hD=>by
   simp only[Xcu.B,getD_lt _ hi,Option.bind_some,Yxe (Nat.le_refl _),Ywx]) D hD (s:=(0,(l,D,()))) rfl
 rw[Xmb] at hh;exact hh
def Xno (d:Xd) (L:List Xa) (x:Xa) (D:List (List Int)):List (List Int)⊕((Bool×Fs_)⊕Fs_):=sel (goP d (Xex x 0 x.2.2.2.1) D) (fun D'=>.inr (.inl (false,(L,D',())))) (fun D'=>.inl D')
theorem Xmi (d:Xd) (L:List Xa):∀ (l:List Xa) (k:Nat) (D:List (List Int)),Yba (fun _ x D=>Xno d L x D) (fun D=>(.inr (L,D,()):(Bool×Fs_)⊕Fs_)) k l D=Xqi L (goP d (Xco l) D)
 |[],k,D=>rfl
 |x::l,k,D=>by
  simp only[Yba,Xco,Xoe,Xno]
  cases goP d (Xex x 0 x.2.2.2.1) D with
  |inl D'=>rfl
  |inr D'=>exact Xmi d L l (k+1) D'
theorem Xpr {d:Xd} (h:Xag d) (l:List Xa) (hl:l.length≤10) (hx:∀ x∈l,Xin x) (D:List (List Int)) (hD:D.length=20) :
  Xbm d (l,D,())=some (match goP d (Xco l) D with | .inl D'=>(false,(l,D',())) | .inr D'=>(true,(l,D',()))):=by
 have hh:=Ym3 (τ:=List (List Int)) l (f:=fun s=>Xet.B d s.1 s.2) (fun k D=>((k:Int),(l,D,()))) (fun _ x D=>Xno d l x D) (fun D=>(.inr (l,D,()):(Bool×Fs_)⊕Fs_)) (fun k D=>D.length=20)
  (fun i hi D hD=>by
   simp only[Xet.B,Yxm hi,Yxb hi,Yw4,toNat_cast,Xto h l i hi (hx _ (List.getElem_mem hi)) D hD,Option.bind_some,Yvo (by omega:i<4294967296),Xno]
   cases goP d (Xex l[i] 0 l[i].2.2.2.1) D<;>rfl)
  (fun i hi D D' hD e=>by
   simp only[Xno] at e
   cases hg:goP d (Xex l[i] 0 l[i].2.2.2.1) D with
   |inl Dx=>rw[hg] at e;cases e
   |inr Dx=>rw[hg] at e;cases e;rw[Xoi hg];exact hD)
  (fun D hD=>by simp only[Xet.B,Yxe (Nat.le_refl _),Ywx]) D hD (s:=(0,(l,D,()))) rfl
 rw[Xmi] at hh;have hh':Xet d (0,(l,D,()))=some (Xqi l (goP d (Xco l) D)):=hh;simp only[Xbm,hh',Option.bind_some]
 cases goP d (Xco l) D<;>rfl
theorem Xrh (l:List Int) (hl:l.length≤2147483648):Xi4 l ()=some (l.any Xax):=by
 have h:Xch l () (l.length:Int) ((0:Nat):Int)=_:=Yvx l (f:=fun s=>Xch.B l () (l.length:Int) s) Xax (fun i hi=>by
  simp only[Xch.B,Xko,Yxm hi,Yxb hi,Yw4,toNat_cast,getD_lt _ hi,Option.bind_some,Xax,Yvo (by omega:i<4294967296)]) (by
  simp only[Xch.B,Yxe (Nat.le_refl _),Ywx]) 0 (Nat.zero_le _)
 rw[List.drop_zero] at h;simp only[Xi4,Xfx];rw[show Xch l () (l.length:Int) 0=_ from h];exact Xfl Xax l
theorem Xtd (d:Xd) (w r5:List Int) (n:Int) (r7:Bool) (l:List Xa) (D:List (List Int)) (v:Nat) (hv:v<D.length) (list:List Int) (hl:list.length≤1000) (h0:D.getD v []=[]) :
  Xcn d (v:Int) w (v:Int) r5 n list r7 list (list.length:Int) Xb3 (0,(l,D,()))=some (l,D.set v (list.map IntKind.u8.wrap),()):=by
 have hh:=Ym3 (τ:=List Int) list (f:=fun s=>Xcn.B d (v:Int) w (v:Int) r5 n list r7 list (list.length:Int) Xb3 s.1 s.2) (fun i t=>((i:Int),(l,D.set v t,()))) (fun _ x t=>.inl (t++[IntKind.u8.wrap x])) (fun t=>((l,D.set v t,()):Fs_)) (fun i t=>t.length=i)
  (fun i hi t ht=>by
   have hv':v<(D.set v t).length:=by simpa using hv
   have hg:(D.set v t).getD v []=t:=by simp only[List.getD];rw[List.getElem?_set_self hv];rfl
   simp only[Xcn.B,Yxm hi,Yxb hi,Yxb hv',Yw4,toNat_cast,getD_lt _ hi,hg,Option.bind_some,Yvo (by omega:i<4294967296),Nat.beq_refl,Bool.and_true,List.set_set]
   rw[show decide ((t++[IntKind.u8.wrap list[i]]).length≤2147483648)=true by simp;omega]
   rfl)
  (fun i hi t t' ht e=>by cases e;simp[ht]) (fun t ht=>by simp only[Xcn.B,Yxe (Nat.le_refl _),Ywx]) [] rfl (s:=(0,(l,D,()))) (by
   have:D.set v []=D:=by
    refine List.ext_getElem (by simp) fun i hi hi'=>?_
    rw[List.getElem_set]
    split
    ·rename_i e;subst e;rw[←h0,getD_lt _ hv]
    ·rfl
   show _=(((0:Nat):Int),((l,D.set v [],()):Fs_))
   rw[this];rfl)
 rw[Yqy] at hh;exact hh
theorem Xr1 {d:Xd} (h:Xag d) (l:List Xa) (w:List Int) (hw:w.length=20) (hn:∀ v,0≤w.getD v 0∧w.getD v 0≤8) :
  Xfh d w Xb3 (0,(l,Dz,()))=some (cond (Xnh d w) (.inl (5,Xb3)) (.inr (l,Xb5 d w,()))):=by
 have h47:=h.l
 have hh:=Ym3 (τ:=List (List Int)) (List.range 20) (f:=fun s=>Xfh.B d w Xb3 s.1 s.2) (fun i t=>((i:Int),(l,t++List.replicate (20-i) [],())))
  (fun _ v t=>cond (Xcm d (v:Int) (w.getD v 0)) (.inr (.inl (5,Xb3))) (.inl (t++[Xi7 d (v:Int) (w.getD v 0)]))) (fun t=>(.inr (l,t,()):(Int×Fs_)⊕Fs_)) (fun i t=>t.length=i)
  (fun i hi t ht=>by
   have hi:i<20:=by simpa using hi
   rw[List.getElem_range]
   have e27:w64 ((27:Int)+(i:Int))=27+(i:Int):=Xfp (by omega) (by omega)
   have hni:=hn i
   simp only[Xfh.B,show decide ((i:Int)<20)=true by simp;omega,Yxb hi,Yw4,toNat_cast,e27,Xn9 h.ok.l2 (at_:=27+(i:Int)) (by omega) (by omega),Option.bind_some,Xbs,List.drop_zero,Yvo (by omega:i<4294967296)]
   have hbl:=Xfm h.ok (27+(i:Int));unfold Xcm Xi7;generalize Xq d (27+(i:Int))=r5 at hbl ⊢;generalize w.getD i 0=n at hni ⊢
   by_cases c:(r5.length:Int)<n
   ·rw[decide_eq_true c];rfl
   ·rw[decide_eq_false c,show(decide ((0:Int)≤n)&&decide (n≤(r5.length:Int)))=true by simp;omega,Xrh _ (by rw[List.length_take];omega)]
    simp only[Ywx,Yw4,Option.bind_some]
    cases (r5.take n.toNat).any Xax with
    |true=>rfl
    |false=>
     have hg:(t++List.replicate (20-i) ([]:List Int)).getD i []=[]:=by
      simp only[List.getD];rw[List.getElem?_append_right (by omega),ht,Nat.sub_self,List.getElem?_replicate];simp[show 0<20-i by omega]
     have hs:∀ y:List Int,(t++List.replicate (20-i) ([]:List Int)).set i y=(t++[y])++List.replicate (20-(i+1)) []:=fun y=>by
      rw[show 20-i=(20-(i+1))+1 by omega,List.replicate_succ,List.set_append_right _ _ (by omega),ht,Nat.sub_self];simp
     simp only[Ywx]
     rw[Xtd d w r5 n false l _ i (by simp;omega) _ (by rw[List.length_take];omega) hg,hs]
     rfl)
  (fun i hi t t' ht e=>by
   cases hb:Xcm d (((List.range 20)[i]:Nat):Int) (w.getD (List.range 20)[i] 0) with
   |true=>rw[hb] at e;cases e
   |false=>rw[hb] at e;cases e;simp[ht])
  (fun t ht=>by
   rw[List.length_range];show some (Sum.inr (Sum.inr (l,t++List.replicate (20-20) [],())))=_
   simp) [] rfl (s:=(0,(l,Dz,()))) rfl
 rw[Xfu] at hh;exact hh
structure FsB (f:Fs_):Prop where
 l:f.1.length≤10
 s:∀ x∈f.1,Xaf x
 d:f.2.1.length=20
 dl:∀ b∈f.2.1,b.length≤64
theorem FsB.bd {f:Fs_} (h:FsB f):Bd Xo f:=by
 refine⟨⟨?_,fun x hx=>?_⟩,⟨?_,fun b hb=>⟨?_,fun _ _=>trivial⟩⟩,trivial⟩
 ·have:=h.l;show f.1.length≤_;omega
 ·have hs:=h.s x hx
  refine⟨trivial,trivial,trivial,⟨?_,fun _ _=>trivial⟩,⟨?_,fun e he=>⟨?_,trivial,trivial⟩⟩,trivial⟩
  ·have:=hs.blk;show x.2.2.2.1.length≤_;omega
  ·have:=hs.ent;show x.2.2.2.2.1.length≤_;omega
  ·have:=hs.nam e he;show e.1.length≤_;omega
 ·have:=h.d;show f.2.1.length≤_;omega
 ·have:=h.dl b hb;show b.length≤_;omega
theorem Xou (d:Xd):Xb5 d (List.replicate 20 0)=Dz:=by
 refine List.ext_getElem (by simp[Xb5,Dz]) fun i hi hi'=>?_
 have hi2:i<20:=by simpa [Xb5] using hi
 simp only[Xb5,Dz,List.getElem_map,List.getElem_range,List.getElem_replicate]
 have:(List.replicate 20 (0:Int)).getD i 0=0:=by simp only[List.getD,List.getElem?_replicate];split<;>rfl
 rw[this];rfl
theorem Xow (d:Xd):Xnh d (List.replicate 20 0)=false:=by
 refine List.any_eq_false.2 fun v hv=>?_;have hv:=List.mem_range.1 hv
 have:(List.replicate 20 (0:Int)).getD v 0=0:=by simp only[List.getD,List.getElem?_replicate];split<;>rfl
 rw[this];unfold Xcm
 rw[show decide (((Xq d (27+(v:Int))).length:Int)<0)=false by simp];simp
theorem Xob (x:Xa) (h:Xin x):∀ (bs:List Int) (k:Nat),k+bs.length≤x.2.2.2.1.length→∀ p∈Xex x k bs,0≤p.2∧p.2≤8
 |[],k,_,p,hp=>by cases hp
 |b::bs,k,hk,p,hp=>by
  simp only[List.length_cons] at hk;rcases List.mem_cons.1 hp with rfl | hp
  ·exact h.n k (by omega)
  ·exact Xob x h bs (k+1) (by omega) p hp
theorem Xom:∀ (l:List Xa),(∀ x∈l,Xin x)→∀ p∈Xco l,0≤p.2∧p.2≤8
 |[],_,p,hp=>by cases hp
 |x::l,h,p,hp=>by
  rcases List.mem_append.1 hp with hp | hp
  ·exact Xob x (h x List.mem_cons_self) _ 0 (by omega) p hp
  ·exact Xom l (fun y hy=>h y (List.mem_cons_of_mem _ hy)) p hp
theorem Xp9 {l:List Xa} (h:∀ x∈l,Xin x):∀ v,0≤(Xaa l).getD v 0∧(Xaa l).getD v 0≤8:=by
 unfold Xaa;rw[Xmr]
 exact Xnq _ _ (Xom l h) (fun v=>by
  simp only[List.getD,List.getElem?_replicate];split<;>simp)
theorem Xsn (d:Xd) {l:List Xa} (hok:Xa8 l) (ho:Xbt l=true) :
  (Xnh d (Xaa l)=false∧goP d (Xco l) Dz=.inr (Xb5 d (Xaa l)))∨(Xnh d (Xaa l)=true∧∃ D',goP d (Xco l) Dz=.inl D'):=by
 have:=Xoj d (Xco l) (List.replicate 20 0) (by simp) (fun p hp=>hok.all.2 _ (by rw[←Xjy];exact List.mem_map.2 ⟨p,hp,rfl⟩)) (by rw[Xjy];exact of_decide_eq_true ho) (Xow d)
 rw[Xou] at this;unfold Xaa;rw[Xmr];exact this
theorem Xoz {d:Xd} (h:Xag d) (hs:Xpe d):∃ c f g,Xed d=some (c,f,())∧Xa7 d=some (g,c)∧(c=0→g=f∧FsB f∧fsF f=0)∧(c≠0→f=Xb3):=by
 have hsq:=Xpt h hs;have hi:=Xtt h Dz;have hp:=Xs3 h Dz;have e20:(decide ((0:Int)≤(20:Int))&&(decide ((20:Int)≤(20:Int))&&decide ((20:Int)≤2147483648)))=true:=rfl;simp only[Xed,Xa7,Xpf,hsq,Option.bind_some,show((0:Int) != 0)=false from rfl,Ywx,e20,Yw4]
 rw[show Xcs d (0,([],[],()),()) (0,0,([],List.replicate (20:Int).toNat ([]:List Int),()))=_ from hp,
  show Xcp d ([],[],()) (0,0,([],List.replicate (20:Int).toNat ([]:List Int),()))=_ from hi]
 cases ht:Xqn d with
 |none=>exact⟨5,Xb3,Xb3,rfl,rfl,(fun e=>by cases e),fun _=>rfl⟩
 |some t=>
  obtain⟨t1,t2,t3⟩:=Xqf ht;simp only[Option.bind_some,Xqj,Ywu,List.drop_zero,Nat.sub_zero]
  rw[show(decide ((0:Int)≤t.2)&&decide (t.2≤(t.1.length:Int)))=true by simp;omega]
  simp only[Yw4]
  have hl:(t.1.take t.2.toNat).length≤10:=by rw[List.length_take];omega
  have hin:∀ y∈t.1.take t.2.toNat,Xv y=0:=fun y hy=>t3 y (List.mem_of_mem_take hy);generalize t.1.take t.2.toNat=l at hl hin ⊢
  have hb0:FsB (l,Dz,()):=⟨hl,fun x hx=>Xaf.of (hin x hx),by simp[Dz],fun b hb=>by have:=List.eq_of_mem_replicate hb;subst this;simp⟩
  rw[Xq1 (l,Dz,()) hb0.bd,Xqv (l,Dz,()) hb0.bd];simp only[Option.bind_some]
  cases htr:(Xbx (l,Dz,()) != 0) with
  |true=>exact⟨Xbx (l,Dz,()),Xb3,Xb3,rfl,rfl,(fun e=>by rw[e] at htr;cases htr),fun _=>rfl⟩
  |false=>
   have htree:=X8.of (show Xbx (l,Dz,())=0 by simpa using htr)
   have hok:Xa8 l:=Xa8.of htree.inod;have hbk:∀ x∈l,Xin x:=fun x hx=>Xin.of (hin x hx);simp only[Ywx,Xq7 l hok,Option.bind_some]
   rw[show Xfh d (Xaa l) ([],[],()) (0,(l,Dz,()))=_ from Xr1 h l (Xaa l) (Xmh l) (Xp9 hbk),Xpr h l hl hbk Dz (by simp[Dz])]
   simp only[Option.bind_some];rcases Xsn d hok htree.once with ⟨h1,h2⟩ | ⟨h1,D',h2⟩
   ·rw[h1,h2]
    simp only[Ywx,Ywu,Bool.not_true]
    have hb1:FsB (l,Xb5 d (Xaa l),()):=⟨hl,fun x hx=>Xaf.of (hin x hx),by simp[Xb5],fun b hb=>by
     simp only[Xb5,List.mem_map,List.mem_range] at hb;obtain⟨v,hv,rfl⟩:=hb;have:=Xfm h.ok (27+(v:Int))
     simp only[Xi7,List.length_map,List.length_take];omega⟩
    rw[Xoo _ hb1.bd,Xpd _ hb1.bd];simp only[Option.bind_some]
    cases hc:(fsF (l,Xb5 d (Xaa l),()) != 0) with
    |true=>exact⟨fsF (l,Xb5 d (Xaa l),()),Xb3,(l,Xb5 d (Xaa l),()),rfl,rfl,(fun e=>by rw[e] at hc;cases hc),fun _=>rfl⟩
    |false=>
     have hc0:fsF (l,Xb5 d (Xaa l),())=0:=by simpa using hc
     exact⟨0,(l,Xb5 d (Xaa l),()),(l,Xb5 d (Xaa l),()),rfl,by rw[hc0],(fun _=>⟨rfl,hb1,hc0⟩),fun h=>absurd rfl h⟩
   ·rw[h1,h2]
    exact⟨5,Xb3,Xb3,rfl,rfl,(fun e=>by cases e),fun _=>rfl⟩
def Xn4 (x y:Xg):Bool:=x.1 == y.1&&(x.2.1 == y.2.1&&true)
def diE (a b:List Xg):Bool:=(List.range a.length).any fun i=>!Xn4 (a.getD i Xm) (b.getD i Xm)
def Xi1 (a b:Xa):Bool:=cond (cond (cond (a.1 == b.1) (a.2.1 == b.2.1) false) (a.2.2.1 == b.2.2.1) false)
 (cond (a.2.2.2.1 == b.2.2.2.1) (cond ((a.2.2.2.2.1.length:Int) != (b.2.2.2.2.1.length:Int)) false (!diE a.2.2.2.2.1 b.2.2.2.2.1)) false) false
theorem Xbi {α:Type} {a b:List α} (h:((a.length:Int) != (b.length:Int))=false):a.length=b.length:=by
 have:(a.length:Int)=(b.length:Int):=by simpa using h
 omega
theorem Xtm (a b:List Xg) (hl:a.length≤1000):Xit a b=some (cond ((a.length:Int) != (b.length:Int)) false (!diE a b)):=by
 simp only[Xit]
 cases h:((a.length:Int) != (b.length:Int)) with
 |true=>rfl
 |false=>
  have hlen:=Xbi h
  have hh:=Xau a Xm (f:=fun s=>Xd4.B a b (a.length:Int) s) (fun i x=>!Xn4 x (b.getD i Xm)) false (fun i hi=>by
   simp only[Xd4.B,Yxm hi,Yxb hi,Yxb (hlen▸hi:i<b.length),Yw4,toNat_cast,getD_lt _ hi,Option.bind_some,Yvo (by omega:i<4294967296),Xn4]) (by
   simp only[Xd4.B,Yxe (Nat.le_refl _),Ywx])
  rw[show Xd4 a b (a.length:Int) 0=_ from hh];simp only[Ywx,Option.bind_some,diE]
  cases ((List.range a.length).any fun i=>!Xn4 (a.getD i Xm) (b.getD i Xm))<;>rfl
theorem Xti {a b:Xa} (h:Xaf a):Xdp a b=some (Xi1 a b):=by
 have hb:=h.blk;have he:=h.ent;have nb:∀ x y:Int,(x != y) = !(x == y):=fun _ _=>rfl;simp only[Xdp,Xi1,Option.bind_some];rw[nb a.1,nb a.2.1,nb a.2.2.1]
 cases (a.1 == b.1) with
 |false=>rfl
 |true=>
  cases (a.2.1 == b.2.1) with
  |false=>rfl
  |true=>
   cases (a.2.2.1 == b.2.2.1) with
   |false=>rfl
   |true=>
    simp only[Bool.not_true,Ywx,Yw4,Xpm a.2.2.2.1 b.2.2.2.1 (by omega),Option.bind_some]
    cases (a.2.2.2.1 == b.2.2.2.1) with
    |false=>rfl
    |true=>
     simp only[Bool.not_true,Ywx,Yw4]
     cases h5:((a.2.2.2.2.1.length:Int) != (b.2.2.2.2.1.length:Int)) with
     |true=>rfl
     |false=>
      have hlen:=Xbi h5
      have hh:=Xau a.2.2.2.2.1 Xm (f:=fun s=>Xdl.B a b s) (fun i x=>!Xn4 x (b.2.2.2.2.1.getD i Xm)) false (fun i hi=>by
       simp only[Xdl.B,Yxm hi,Yxb hi,Yxb (hlen▸hi:i<b.2.2.2.2.1.length),Yw4,toNat_cast,getD_lt _ hi,Option.bind_some,Yvo (by omega:i<4294967296),Xn4]) (by
       simp only[Xdl.B,Yxe (Nat.le_refl _),Ywx])
      rw[show Xdl a b 0=_ from hh];simp only[Ywx,Option.bind_some,diE]
      cases ((List.range a.2.2.2.2.1.length).any fun i=>!Xn4 (a.2.2.2.2.1.getD i Xm) (b.2.2.2.2.1.getD i Xm))<;>rfl
theorem Xtj {a b:Xa} (h:Xaf a):Xip a b=some (Xi1 a b):=by
 have hb:=h.blk;have he:=h.ent
 simp only[Xip,Xi1,Option.bind_some,Xpj a.2.2.2.1 b.2.2.2.1 (by omega),Xtm a.2.2.2.2.1 b.2.2.2.2.1 (by omega)]
 cases (cond (cond (a.1 == b.1) (a.2.1 == b.2.1) false) (a.2.2.1 == b.2.2.1) false) with
 |false=>rfl
 |true=>cases (a.2.2.2.1 == b.2.2.2.1)<;>rfl
def u8s (l:List Int):List UInt8:=l.map fun n=>UInt8.ofNat n.toNat
def diI (a b:List Xa):Bool:=(List.range a.length).any fun i=>!Xi1 (a.getD i Xc) (b.getD i Xc)
def diD (a b:List (List Int)):Bool:=(List.range a.length).any fun i=>!(u8s (a.getD i []) == u8s (b.getD i []))
def Xia (a b:Fs_):Bool:=cond (cond ((a.1.length:Int) != (b.1.length:Int)) true ((a.2.1.length:Int) != (b.2.1.length:Int))) false (cond (diI a.1 b.1) false (!diD a.2.1 b.2.1))
theorem Xt9 {a b:Fs_} (h:FsB a):Xbv a b=some (Xia a b):=by
 have hl:=h.l;have hd:=h.d;simp only[Xbv,Xia,Option.bind_some]
 cases h1:((a.1.length:Int) != (b.1.length:Int)) with
 |true=>rfl
 |false=>
  cases h2:((a.2.1.length:Int) != (b.2.1.length:Int)) with
  |true=>rfl
  |false=>
   have e1:=Xbi h1;have e2:=Xbi h2
   have hh:=Xau a.1 Xc (f:=fun s=>Xd6.B a b s) (fun i x=>!Xi1 x (b.1.getD i Xc)) false (fun i hi=>by
    simp only[Xd6.B,Yxm hi,Yxb hi,Yxb (e1▸hi:i<b.1.length),Yw4,toNat_cast,getD_lt _ hi,Xti (h.s _ (List.getElem_mem hi)),Option.bind_some,Yvo (by omega:i<4294967296)]) (by
    simp only[Xd6.B,Yxe (Nat.le_refl _),Ywx])
   have hh2:=Xau a.2.1 [] (f:=fun s=>Xfk.B a b s) (fun i x=>!(u8s x == u8s (b.2.1.getD i []))) false (fun i hi=>by
    simp only[Xfk.B,Yxm hi,Yxb hi,Yxb (e2▸hi:i<b.2.1.length),Yw4,toNat_cast,getD_lt _ hi,Option.bind_some,Yvo (by omega:i<4294967296),u8s]) (by
    simp only[Xfk.B,Yxe (Nat.le_refl _),Ywx])
   rw[show Xd6 a b 0=_ from hh,show Xfk a b 0=_ from hh2];simp only[Ywx,Option.bind_some];rw[show((List.range a.1.length).any fun i=>!Xi1 (a.1.getD i Xc) (b.1.getD i Xc))=diI a.1 b.1 from rfl,show((List.range a.2.1.length).any fun i=>!(u8s (a.2.1.getD i []) == u8s (b.2.1.getD i [])))=diD a.2.1 b.2.1 from rfl]
   cases diI a.1 b.1<;>cases diD a.2.1 b.2.1<;>rfl
theorem Xtz {a b:Fs_} (h:FsB a):Xdw a b=some (Xia a b):=by
 have hl:=h.l;have hd:=h.d
 have e1:Xd7 a.1 b.1 ()=some (cond ((a.1.length:Int) != (b.1.length:Int)) false (!diI a.1 b.1)):=by
  simp only[Xd7]
  cases h1:((a.1.length:Int) != (b.1.length:Int)) with
  |true=>rfl
  |false=>
   have e1:=Xbi h1
   have hh:=Xau a.1 Xc (f:=fun s=>Xdq.B b.1 () a.1 (a.1.length:Int) s) (fun i x=>!Xi1 x (b.1.getD i Xc)) false (fun i hi=>by
    simp only[Xdq.B,Yxm hi,Yxb hi,Yxb (e1▸hi:i<b.1.length),Yw4,toNat_cast,getD_lt _ hi,Xtj (h.s _ (List.getElem_mem hi)),Option.bind_some,Yvo (by omega:i<4294967296)]) (by
    simp only[Xdq.B,Yxe (Nat.le_refl _),Ywx])
   rw[show Xdq b.1 () a.1 (a.1.length:Int) 0=_ from hh];simp only[Ywx,Option.bind_some];rw[show((List.range a.1.length).any fun i=>!Xi1 (a.1.getD i Xc) (b.1.getD i Xc))=diI a.1 b.1 from rfl]
   cases diI a.1 b.1<;>rfl
 have e2:Xes a.2.1 b.2.1 ()=some (cond ((a.2.1.length:Int) != (b.2.1.length:Int)) false (!diD a.2.1 b.2.1)):=by
  simp only[Xes]
  cases h1:((a.2.1.length:Int) != (b.2.1.length:Int)) with
  |true=>rfl
  |false=>
   have e1:=Xbi h1
   have hh:=Xau a.2.1 [] (f:=fun s=>Xeb.B b.2.1 () a.2.1 (a.2.1.length:Int) s) (fun i x=>!(u8s x == u8s (b.2.1.getD i []))) false (fun i hi=>by
    simp only[Xeb.B,Xgh,Yxm hi,Yxb hi,Yxb (e1▸hi:i<b.2.1.length),Yw4,toNat_cast,getD_lt _ hi,Option.bind_some,Yvo (by omega:i<4294967296),u8s]) (by
    simp only[Xeb.B,Yxe (Nat.le_refl _),Ywx])
   rw[show Xeb b.2.1 () a.2.1 (a.2.1.length:Int) 0=_ from hh];simp only[Ywx,Option.bind_some];rw[show((List.range a.2.1.length).any fun i=>!(u8s (a.2.1.getD i []) == u8s (b.2.1.getD i [])))=diD a.2.1 b.2.1 from rfl]
   cases diD a.2.1 b.2.1<;>rfl
 simp only[Xdw,e1,e2,Option.bind_some,Xia]
 cases ((a.1.length:Int) != (b.1.length:Int))<;>cases ((a.2.1.length:Int) != (b.2.1.length:Int))<;>cases diI a.1 b.1<;>cases diD a.2.1 b.2.1<;>rfl
def Xop (w:Xz) (n:Nat):Bool:=!(u8s (w.2.1.2.1.getD n []) == u8s (w.2.2.1.2.1.getD n []))
def Xg8 (w:Xz):Bool:=(Xab (Xw w.2.1.1)).any fun b=>cond ((Xab (Xw w.2.2.1.1)).contains b) (Xop w b.toNat) false
theorem Xtr {w:Xz} (ha:Xa8 w.2.1.1) (hb:Xa8 w.2.2.1.1) (da:w.2.1.2.1.length=20) (db:w.2.2.1.2.1.length=20) (v4 v7:Bool) :
  Xbu w ((Xab (Xw w.2.1.1)).length:Int) (Xab (Xw w.2.1.1)) v4 () (Xab (Xw w.2.2.1.1)) v7 () 0=some (cond (Xg8 w) (.inl 10) (.inr ())):=by
 have l1:(Xab (Xw w.2.1.1)).length≤40:=by rw[(Xas _).length_eq];exact ha.all.1
 have l2:(Xab (Xw w.2.2.1.1)).length≤40:=by rw[(Xas _).length_eq];exact hb.all.1
 exact Ywl (Xab (Xw w.2.1.1)) (f:=fun s=>Xbu.B w ((Xab (Xw w.2.1.1)).length:Int) (Xab (Xw w.2.1.1)) v4 () (Xab (Xw w.2.2.1.1)) v7 () s) (fun b=>cond ((Xab (Xw w.2.2.1.1)).contains b) (Xop w b.toNat) false) (10:Int) (fun i hi=>by
  have hr:=ha.all.2 _ ((Xas _).mem_iff.1 (List.getElem_mem hi))
  simp only[Xbu.B,Yxm hi,Yxb hi,Yw4,toNat_cast,getD_lt _ hi,Xo8 _ _ (by omega:(Xab (Xw w.2.2.1.1)).length≤2147483648),Option.bind_some,Xgh,Yvo (by omega:i<4294967296)]
  rw[show inB (Xab (Xw w.2.1.1))[i] w.2.1.2.1.length=true from Yu7 hr.1 (by omega),show inB (Xab (Xw w.2.1.1))[i] w.2.2.1.2.1.length=true from Yu7 hr.1 (by omega)]
  simp only[Yw4,Xop,u8s]
  cases (Xab (Xw w.2.2.1.1)).contains (Xab (Xw w.2.1.1))[i]<;>rfl) (by
  simp only[Xbu.B,Yxe (Nat.le_refl _),Ywx])
theorem Xtl {w:Xz} (ha:Xa8 w.2.1.1) (hb:Xa8 w.2.2.1.1) (da:w.2.1.2.1.length=20) (db:w.2.2.1.2.1.length=20):Xdj w=some (!Xg8 w):=by
 have hh:=Ywl (List.range 20) (f:=fun s=>Xf0.B w s) (fun n=>cond (decide ((((Xw w.2.1.1).count (n:Int):Nat):Int)>0)) (cond (decide ((((Xw w.2.2.1.1).count (n:Int):Nat):Int)>0)) (Xop w n) false) false) false (fun i hi=>by
  have hi':i<20:=by simpa using hi
  rw[List.getElem_range]
  simp only[Xf0.B,show decide ((i:Int)<20)=true by simp;omega,Yw4,toNat_cast,Xpq _ ha,Xpq _ hb,Option.bind_some,Yxb (by omega:i<w.2.1.2.1.length),Yxb (by omega:i<w.2.2.1.2.1.length),Yvo (by omega:i<4294967296),Xop,u8s]
  cases decide ((((Xw w.2.1.1).count (i:Int):Nat):Int)>0)<;>cases decide ((((Xw w.2.2.1.1).count (i:Int):Nat):Int)>0)<;>rfl) (by
  rw[List.length_range];rfl)
 simp only[Xdj];rw[show Xf0 w 0=_ from hh]
 have e:((List.range 20).any fun n=>cond (decide ((((Xw w.2.1.1).count (n:Int):Nat):Int)>0)) (cond (decide ((((Xw w.2.2.1.1).count (n:Int):Nat):Int)>0)) (Xop w n) false) false)=Xg8 w:=by
  have cp:∀ (l:List Int) (b:Int),decide (((l.count b:Nat):Int)>0)=(Xab l).contains b:=fun l b=>by
   rw[Bool.eq_iff_iff,decide_eq_true_eq,List.contains_iff_mem,(Xas _).mem_iff,←List.count_pos_iff];omega
  unfold Xg8;rw[Bool.eq_iff_iff,List.any_eq_true,List.any_eq_true]
  constructor
  ·rintro⟨n,hn,h⟩
   rw[cp,cp] at h
   cases h1:(Xab (Xw w.2.1.1)).contains (n:Int) with
   |false=>rw[h1] at h;cases h
   |true=>rw[h1] at h;exact⟨(n:Int),List.contains_iff_mem.1 h1,h⟩
  ·rintro⟨b,hb1,h⟩
   have hr:=ha.all.2 _ ((Xas _).mem_iff.1 hb1)
   have ec:((b.toNat:Nat):Int)=b:=by omega
   refine⟨b.toNat,List.mem_range.2 (by omega),?_⟩
   rw[cp,cp,ec,List.contains_iff_mem.2 hb1];exact h
 rw[e]
 cases Xg8 w<;>rfl
theorem Xnt (w:Xz) (ba:Bd Xo w.2.1) (bb:Bd Xo w.2.2.1):∃ r,Xiv w=some r∧Xd1 w=some r∧(r=0→(Xav w.1).2=0∧fsF w.2.1=0∧fsF w.2.2.1=0∧w.1.2.1=[]):=by
 have nb:∀ x:Int,(x != 0) = !(x == 0):=fun _=>rfl;simp only[Xiv,Xd1,Xpf,Xo4,Xoo _ ba,Xoo _ bb,Xpd _ ba,Xpd _ bb,Option.bind_some,nb]
 cases h0:((Xav w.1).2 == 0) with
 |false=>exact⟨_,rfl,rfl,fun e=>absurd e (by simpa using h0)⟩
 |true=>
  have hs0:(Xav w.1).2=0:=by simpa using h0
  simp only[Bool.not_true,Ywx,Yw4]
  cases h1:(fsF w.2.1 == 0) with
  |false=>exact⟨_,rfl,rfl,fun e=>absurd e (by simpa using h1)⟩
  |true=>
   simp only[Bool.not_true,Ywx,Yw4]
   cases h2:(fsF w.2.2.1 == 0) with
   |false=>exact⟨_,rfl,rfl,fun e=>absurd e (by simpa using h2)⟩
   |true=>
    simp only[Bool.not_true,Ywx,Yw4]
    cases h3:decide ((w.1.2.1.length:Int)>0) with
    |true=>exact⟨_,rfl,rfl,fun e=>absurd e (by decide)⟩
    |false=>
     obtain⟨hok,h47⟩:=Xix hs0
     obtain⟨c,f,g,l1,l2,l3,_⟩:=Xoz (d:=w.1) ⟨hok,by omega⟩ (Xrg hs0)
     have ta:=(Xl9.of (show fsF w.2.1=0 by simpa using h1)).tree
     have tb:=(Xl9.of (show fsF w.2.2.1=0 by simpa using h2)).tree
     have ia:=Xa8.of ta.inod;have ib:=Xa8.of tb.inod;simp only[Ywx,l1,l2,Option.bind_some]
     cases hc:(c == 0) with
     |false=>exact⟨_,rfl,rfl,fun e=>absurd e (by first | decide | simpa using hc)⟩
     |true=>
      obtain⟨rfl,hfb,_⟩:=l3 (by simpa using hc)
      simp only[Bool.not_true,Ywx];rw[show Xbv (g.1,g.2.1,g.2.2) w.2.2.1=_ from Xt9 hfb,show Xdw (g.1,g.2.1,g.2.2) w.2.2.1=_ from Xtz hfb];simp only[Option.bind_some]
      cases Xia g w.2.2.1 with
      |false=>exact⟨_,rfl,rfl,fun e=>absurd e (by decide)⟩
      |true=>
       simp only[Bool.not_true,Ywx,Xod _ ia,Xod _ ib,Option.bind_some,Xtl ia ib ta.dat tb.dat];rw[Xtr ia ib ta.dat tb.dat];cases Xg8 w
       ·exact⟨0,rfl,rfl,fun _=>⟨hs0,by simpa using h1,by simpa using h2,by simpa using h3⟩⟩
       ·exact⟨10,rfl,rfl,fun e=>absurd e (by decide)⟩
def Xn3 (l:List Xj) (k:Nat):Xr:=(false,(2:Int)+(k:Int),(l.getD k Xt).2.1,())
def Xni (l:List Xj):List Xr:=(List.range l.length).map (Xn3 l)
theorem Xns {β:Type} (l:List Xj) (g:Xj→β):(List.range l.length).map (fun k=>g (l.getD k Xt))=l.map g:=by
 apply List.ext_getElem (by simp)
 intro i h1 h2
 have hi:i<l.length:=by simpa using h2
 simp only[List.getElem_map,List.getElem_range,getD_lt _ hi]
theorem Xmf {α β γ:Type} (g:α→β) (h:α→γ):∀ (l:List α) (t:List β×List γ),l.foldl (fun t x=>(t.1++[g x],t.2++[h x])) t=(t.1++l.map g,t.2++l.map h)
 |[],t=>by simp
 |x::l,t=>by simp[Xmf g h l]
theorem Xul (seq n:Int) {ips:List Xj} (out:List Xr) (hl:ips.length≤60) (t:List Int) (ht:t.length=3):Xeu seq n ips out (0,t)=some (t++ips.map fun p=>p.1):=
 Yvg ips (f:=fun s=>Xeu.B seq n ips out s.1 s.2) (fun p=>p.1) (fun t=>t) 3 (fun i hi t ht=>by
  simp only[Xeu.B,Yxm hi,Yxb hi,Yw4,toNat_cast,getD_lt _ hi,Yvo (by omega:i<4294967296)]
  rw[Xat (by simp;omega)];rfl) (fun t ht=>by
  simp only[Xeu.B,Yxe (Nat.le_refl _),Ywx]) t ht
theorem Xsk (seq n:Int) {ips:List Xj} (hl:ips.length≤60) (hw:∀ p∈ips,p.2.1.length≤64) (t:List Xr) (ht:t.length≤100):Xez seq n ips (0,t)=some (t++Xni ips):=
 Yvg (List.range ips.length) (f:=fun s=>Xez.B seq n ips s.1 s.2) (Xn3 ips) (fun t=>t) t.length (fun i hi u hu=>by
  have hi':i<ips.length:=by simpa using hi
  have h64:=hw _ (List.getElem_mem hi');rw[List.getElem_range]
  simp only[Xez.B,Yxm hi',Yxb hi',Yw4,toNat_cast,getD_lt _ hi',Xaq,List.nil_append,decide_eq_true (by omega:ips[i].2.1.length≤2147483648),Option.bind_some,Yq5 (x:=2+(i:Int)) (by omega) (by omega),Yvo (by omega:i<4294967296),Xn3]
  rw[Xat (by simp;omega)];rfl) (fun u hu=>by
  rw[List.length_range]
  simp only[Xez.B,Yxe (Nat.le_refl _),Ywx]) t rfl
theorem Xsm (d:Xd) (f:Fs_) (seq:Int) {ips:List Xj} (a:Bool) (b:Int) (c:Unit) (hl:ips.length≤60) (hw:∀ p∈ips,p.2.1.length≤64) (t:List Int) (ht:t.length=3) :
  Xc1 d f seq (ips.length:Int) ips a b c (0,t,[])=some (t++ips.map fun p=>p.1,Xni ips):=by
 have h:=Yib (List.range ips.length) (f:=fun s=>Xc1.B d f seq (ips.length:Int) ips a b c s.1 s.2.1 s.2.2) (fun(t:List Int×List Xr) k=>(t.1++[(ips.getD k Xt).1],t.2++[Xn3 ips k])) (fun t=>t) (fun i t=>t.1.length=3+i∧t.2.length=i) (fun i hi u hu=>by
  have hi':i<ips.length:=by simpa using hi
  have h64:=hw _ (List.getElem_mem hi');obtain⟨u1,u2⟩:=hu;rw[List.getElem_range]
  refine⟨?_,by simp;omega⟩
  simp only[Xc1.B,Yxm hi',Yxb hi',Yw4,toNat_cast,getD_lt _ hi',Xal,Ymd,decide_eq_true (by omega:ips[i].2.1.length≤2147483648),Option.bind_some,Yq5 (x:=2+(i:Int)) (by omega) (by omega),Yvo (by omega:i<4294967296),Xn3]
  rw[Xat (by simp;omega),Yw4,Xat (by simp;omega)];rfl) (fun u hu=>by
  rw[List.length_range]
  simp only[Xc1.B,Yxe (Nat.le_refl _),Ywx]) (t,[]) ⟨by simp[ht],rfl⟩
 have e:Xc1 d f seq (ips.length:Int) ips a b c (0,t,[])=_:=h;rw[e,Xmf,List.nil_append,Xns ips fun p=>p.1];rfl
def Xl5 (seq:Int) (ips dps:List Xj):List Xr:=
 dps.map toStep++([(true,0,[],()),(false,1,[1,seq,(ips.length:Int)]++ips.map fun p=>p.1,())]++(Xni ips++([(true,0,[],()),(false,(2:Int)+(ips.length:Int),[2,seq,(ips.length:Int)],()),(true,0,[],())]++(ips.map toStep++[(true,0,[],()),(false,0,[7,seq+1],()),(true,0,[],())]))))
def Xhj (d:Xd) (f:Fs_) (seq:Int):List Xr:=cond (((X0 d (Xu f.1)).length:Int) == 0) [] (Xl5 seq (X0 d (Xu f.1)) (X0 d (X6 f)))
structure Xnl (n:Nat) (B:Nat) (l:List Xj):Prop where
 len:l.length≤n
 wrd:∀ p∈l,p.2.1.length≤B
 plc:∀ p∈l,0≤p.1∧p.1<47
theorem Xnl.changed {n B:Nat} {l:List Xj} (h:Xnl n B l) (d:Xd):Xnl n B (X0 d l) where
 len:=Nat.le_trans (List.length_filter_le _ _) h.len
 wrd p hp:=h.wrd p (List.mem_filter.1 hp).1
 plc p hp:=h.plc p (List.mem_filter.1 hp).1
theorem Xgu {l:List Xa} (h:X4 l=0):Xnl 10 44 (Xu l) where
 len:=by simp[Xu]
 wrd:=Xj7 h
 plc p hp:=by
  obtain⟨i,hi,rfl⟩:=List.mem_map.1 hp;have:=List.mem_range.1 hi;simp only;omega
theorem Xhv {f:Fs_} (ht:X8 f):Xnl 20 8 (X6 f) where
 len:=by simp only[X6,List.length_map];exact Xkd f.1
 wrd p hp:=by
  obtain⟨b,hb,rfl⟩:=List.mem_map.1 hp;have h1:=Xee hb;have hd:=ht.dat;simp only[Xb2]
  rw[getD_lt _ (by omega:b.toNat<f.2.1.length)]
  exact ht.dl _ (List.getElem_mem _)
 plc p hp:=by
  obtain⟨b,hb,rfl⟩:=List.mem_map.1 hp;have h1:=Xee hb;simp only[Xb2];omega
theorem Xos {d:Xd} {f:Fs_} (ht:X8 f) (seq:Int):(Xhj d f seq).length≤58∧∀ p∈Xhj d f seq,p.2.2.1.length≤64:=by
 have hi:=(Xgu ht.inod).changed d;have hp:=(Xhv ht).changed d;unfold Xhj;generalize X0 d (Xu f.1)=ips at hi ⊢;generalize X0 d (X6 f)=dps at hp ⊢;have l1:=hi.len;have l2:=hp.len
 cases ((ips.length:Int) == 0) with
 |true=>exact⟨Nat.zero_le _,fun p h=>by cases h⟩
 |false=>
  refine⟨by simp[Xl5,Xni];omega,fun p hp'=>?_⟩
  simp only[Ywx,Xl5,List.mem_append,List.mem_map,List.mem_cons,List.not_mem_nil,or_false] at hp';rcases hp' with ⟨q,hq,rfl⟩ | (rfl | rfl) | hin | (rfl | rfl | rfl) | ⟨q,hq,rfl⟩ | (rfl | rfl | rfl)
  ·have:=hp.wrd q hq
   simp only[toStep];omega
  ·simp
  ·simp;omega
  ·obtain⟨k,hk,rfl⟩:=List.mem_map.1 hin
   have hk:=List.mem_range.1 hk;have:=hi.wrd _ (List.getElem_mem hk);simp only[Xn3,getD_lt _ hk];omega
  ·simp
  ·simp
  ·simp
  ·have:=hi.wrd q hq
   simp only[toStep];omega
  ·simp
  ·simp
  ·simp
theorem Xmd {d:Xd} {f:Fs_} (hok:Xy d) (h47:(d.1.length:Int)=47) (ht:X8 f) (hby:Xdg f) {seq:Int} (hs:1≤seq∧seq≤60000) :
  Xb4 d f seq=some (Xhj d f seq)∧((Xdt d)=some (seq,0)→seq≠60000→Xb7 d f=some (Xhj d f seq,0)):=by
 have hi0:=Xgu ht.inod;have hp0:=Xhv ht;have hi:=hi0.changed d;have hp:=hp0.changed d
 have e1:=Xqp hok (Nat.le_trans hi0.len (by omega)) (fun p h=>by have:=hi0.plc p h;omega) (fun p h=>Nat.le_trans (hi0.wrd p h) (by omega))
 have e2:=Xqy hok (Nat.le_trans hi0.len (by omega)) (fun p h=>by have:=hi0.plc p h;omega) (fun p h=>Nat.le_trans (hi0.wrd p h) (by omega))
 have e3:=Xqp hok (Nat.le_trans hp0.len (by omega)) (fun p h=>by have:=hp0.plc p h;omega) (fun p h=>Nat.le_trans (hp0.wrd p h) (by omega))
 have e4:=Xqy hok (Nat.le_trans hp0.len (by omega)) (fun p h=>by have:=hp0.plc p h;omega) (fun p h=>Nat.le_trans (hp0.wrd p h) (by omega))
 unfold Xhj;refine⟨?_,fun hq hne=>?_⟩
 ·simp only[Xb4,Xt0 f ht.inod,Option.bind_some,e1,Xsx f ht hby,e3]
  generalize X0 d (Xu f.1)=ips at hi ⊢;generalize X0 d (X6 f)=dps at hp ⊢;have l1:=hi.len;have l2:=hp.len
  cases ((ips.length:Int) == 0) with
  |true=>rfl
  |false=>
   simp only[Ywx,Xq8 (l:=dps) (by omega) (fun p h=>Nat.le_trans (hp.wrd p h) (by omega)),Xq8 (l:=ips) (by omega) (fun p h=>Nat.le_trans (hi.wrd p h) (by omega)),Option.bind_some]
   rw[Xat (by simp;omega)]
   simp only[Yw4,Xul seq _ _ (by omega:ips.length≤60) [1,seq,(ips.length:Int)] rfl,Option.bind_some]
   rw[Xat (by simp;omega)]
   simp only[Yw4]
   rw[Xsk seq _ (by omega:ips.length≤60) (fun p h=>Nat.le_trans (hi.wrd p h) (by omega)) _ (by simp;omega)]
   simp only[Option.bind_some,Yq5 (x:=2+(ips.length:Int)) (by omega) (by omega)]
   rw[Xat (by simp[Xni];omega)]
   simp only[Yw4]
   rw[Xat (by simp[Xni];omega)]
   simp only[Yw4,Xkz,Xfp (by omega : -9223372036854775808≤seq+1) (by omega),Option.bind_some]
   rw[Xat (by simp[Xni];omega)]
   simp only[Yw4,Xl5,List.append_assoc,List.cons_append,List.nil_append]
 ·simp only[Xb7,hq,Xr8 f ht.inod,Option.bind_some,e2,Xtu f ht hby,e4,beq_eq_false_iff_ne.2 hne,Ywx,Xhe,Xkh]
  generalize X0 d (Xu f.1)=ips at hi ⊢;generalize X0 d (X6 f)=dps at hp ⊢;have l1:=hi.len;have l2:=hp.len
  cases ((ips.length:Int) == 0) with
  |true=>rfl
  |false=>
   simp only[Ywx,Xsm d f seq _ _ _ (by omega:ips.length≤60) (fun p h=>Nat.le_trans (hi.wrd p h) (by omega)) [1,seq,(ips.length:Int)] rfl,Option.bind_some,Xf5,Xh8 (l:=dps) (by omega) (fun p h=>Nat.le_trans (hp.wrd p h) (by omega)),Xh8 (l:=ips) (by omega) (fun p h=>Nat.le_trans (hi.wrd p h) (by omega)),Yq5 (x:=2+(ips.length:Int)) (by omega) (by omega),Xfp (by omega : -9223372036854775808≤seq+1) (by omega),Xll,Yhy,List.flatten_cons,List.flatten_nil,List.append_nil]
   rw[show ∀ (l:List (List Xr)) (k:List Xr),l.length≤1048576→k.length≤1048576→(decide (l.length≤1048576)&&decide (k.length≤1048576))=true from fun l k h1 h2=>by simp[h1,h2]]
   ·simp only[Yw4,Option.bind_some,Xl5]
   ·simp
   ·simp[Xni];omega
theorem Xs5 (d:Xd) (f:Fs_) (hb:Bd Xo f) (hby:Xdg f):Xi5 d f=some (cond ((Xav d).2 != 0) ((Xav d).2,[],()) (cond (fsF f != 0) (fsF f,[],()) (cond ((Xav d).1 == 60000) (8,[],()) (0,Xhj d f (Xav d).1,())))):=by
 simp only[Xi5,Xpf,Xoo f hb,Option.bind_some]
 cases h:((Xav d).2 != 0) with
 |true=>rfl
 |false=>
  have h0:(Xav d).2=0:=by simpa using h
  obtain⟨hok,h47⟩:=Xix h0;have hr:=Xja h0;simp only[Ywx]
  cases h1:(fsF f != 0) with
  |true=>rfl
  |false=>
   have ht:=(Xl9.of (by simpa using h1:fsF f=0)).tree
   have e60:decide ((Xav d).1≥60000)=((Xav d).1 == 60000):=by
    by_cases e:(Xav d).1=60000
    ·rw[e];rfl
    ·rw[beq_eq_false_iff_ne.2 e];simp;omega
   simp only[Ywx,e60,(Xmd hok h47 ht hby hr).1,Option.bind_some]
   cases ((Xav d).1 == 60000)<;>rfl
theorem Xt1 {d:Xd} {f:Fs_} (h0:(Xav d).2=0) (ht:X8 f) (hby:Xdg f):Xb7 d f=some (cond ((Xav d).1 == 60000) ([],8) (Xhj d f (Xav d).1,0)):=by
 obtain⟨hok,h47⟩:=Xix h0;have hr:=Xja h0
 cases h:((Xav d).1 == 60000) with
 |true=>simp only[Xb7,Xo4,Option.bind_some,h,Yw4]
 |false=>
  exact(Xmd hok h47 ht hby hr).2 (by rw[Xo4];exact congrArg some (Prod.ext rfl h0)) (by simpa using h)
theorem Xqa {d:Xd} (hd:Xag d) {list:List Xr} (b1:list.length≤120) (hst:∀ x∈list,Xa5 x=0) (steps:Int) (picks:List Bool) :
  ∃ r,Xiy d (0,list,()) steps picks=some r∧Xjc d list steps picks=some r∧wt Xk r≤2147483648:=by
 have small:∀ c:Int,wt Xk (c,([],[],()),())≤2147483648:=fun c=>by simp only[Yug,Yo6,Yw6,Ywr];simp
 simp only[Xiy,show((0:Int) != 0)=false from rfl,Ywx,Option.bind_some,Xhh,Xjc,Xk1,Xk0]
 cases hin:inR steps 0 (list.length:Int) with
 |false=>exact⟨_,rfl,rfl,small _⟩
 |true=>
  have hi:=X3.1 hin
  simp only[Bool.not_true,Ywx,show(decide ((0:Int)≤steps)&&decide (steps≤(list.length:Int)))=true by simp;omega,Yw4,List.drop_zero,Xsu hd.ok,Option.bind_some]
  have hl:(list.take steps.toNat).length≤120:=by simp;omega
  have hs:∀ x∈list.take steps.toNat,Xa5 x=0:=fun x hx=>hst x (List.mem_of_mem_take hx)
  have e2:=Xps hl hs (list.take steps.toNat).length 0 d (by omega) hd
  rw[List.drop_zero] at e2;rw[Xt6 hd hl hs];simp only[Xgc,Option.bind_some]
  cases hrun:Xk5 (list.take steps.toNat) d with
  |some d'=>
   rw[hrun] at e2;rw[show Xa1 (list.take steps.toNat) ((list.take steps.toNat).length:Int) (0,(d.1,d.2.1,d.2.2))=_ from e2];have h':=Xmt hd hs hrun;simp only[Option.bind_some,sel,show((0:Int) != 0)=false from rfl,Ywx,Xlk,Xo0 h'.ok];rw[show Xhn (d'.1,d'.2.1,d'.2.2) picks=_ from Xtn h'.ok picks];have:=Xqm (Xoy h'.ok picks);refine⟨(0,Xfs d' picks,()),rfl,rfl,?_⟩;rw[Yo6,Yo6,Yw6,Ywr];show 1+(wt Xh (Xfs d' picks)+0)≤_
   omega
  |none=>
   rw[hrun] at e2;obtain⟨dx,e2⟩:=e2;rw[show Xa1 (list.take steps.toNat) ((list.take steps.toNat).length:Int) (0,(d.1,d.2.1,d.2.2))=_ from e2];exact⟨(2,([],[],()),()),rfl,rfl,small _⟩
def W16 (w:List Int):Prop:=∀ x∈w,0≤x∧x≤65535
theorem Xo5 {y:Xa} (h:Xhl y=0):(0≤y.2.1∧y.2.1≤65535)∧0≤y.2.2.1∧y.2.2.1≤65535:=by
 unfold Xhl at h
 cases h1:inR y.2.1 1 60 with
 |false=>rw[h1] at h;cases h
 |true=>
  rw[h1] at h
  cases h2:inR y.2.2.1 0 32 with
  |false=>rw[h2] at h;cases h
  |true=>
   have a:=X3.1 h1;have b:=X3.1 h2;omega
theorem Xp5 {y:Xa} (h:Xv y=0):W16 (Xai y):=by
 have hs:=Xaf.of h;have hf:=Xar h;have hd:=Xa3 h
 have hent:∀ v∈y.2.2.2.2.1.flatMap Xae,0≤v∧v≤65535:=fun v hv=>by
  obtain⟨e,he,hv⟩:=List.mem_flatMap.1 hv;have h1:=(hd.2.2.2.2.2 e he).2;have h2:=hs.nam e he;simp only[Xae,List.mem_append,List.mem_cons,List.not_mem_nil,or_false,List.mem_map] at hv;rcases hv with (rfl | rfl) | ⟨b,_,rfl⟩
  ·omega
  ·omega
  ·have:=b.toNat_lt;omega
 have hhd:(0≤y.2.1∧y.2.1≤65535)∧0≤y.2.2.1∧y.2.2.1≤65535:=by
  by_cases h1:y.1=1
  ·have hz:=hf.2.2.2 h1
   exact Xo5 hz
  ·obtain⟨e1,e2⟩:=hd.2.2.2.2.1 h1
   rw[e1,e2];omega
 have hbase:∀ v∈[y.1,y.2.1,y.2.2.1]++y.2.2.2.1,0≤v∧v≤65535:=fun v hv=>by
  simp only[List.mem_append,List.mem_cons,List.not_mem_nil,or_false] at hv;rcases hv with (rfl | rfl | rfl) | hv
  ·omega
  ·exact hhd.1
  ·exact hhd.2
  ·have:=hf.2.1 v hv;omega
 intro v hv;unfold Xai at hv
 cases hc:(y.1 != 2) with
 |true=>rw[hc,Yw4] at hv;exact hbase v hv
 |false=>
  rw[hc,Ywx] at hv;rcases List.mem_append.1 hv with hv | hv
  ·rcases List.mem_append.1 hv with hv | hv
   ·exact hbase v hv
   ·simp only[List.mem_singleton] at hv
    have:=hs.ent;omega
  ·exact hent v hv
theorem Xor {l:List Xa} (h:X4 l=0):∀ p∈Xu l,W16 p.2.1:=by
 intro p hp;obtain⟨i,hi,rfl⟩:=List.mem_map.1 hp;simp only
 by_cases h2:i<l.length
 ·rw[show decide (i<l.length)=true by simp[h2],getD_lt _ h2]
  exact Xp5 ((Xac h).2 _ (List.getElem_mem h2))
 ·rw[show decide (i<l.length)=false by simp;omega]
  intro x hx;cases hx
theorem Xp7 {f:Fs_} (ht:X8 f) (hby:Xdg f):∀ p∈X6 f,W16 p.2.1:=by
 intro p hp;obtain⟨b,hb,rfl⟩:=List.mem_map.1 hp;have h1:=Xee hb;have hd:=ht.dat;simp only[Xb2]
 rw[getD_lt _ (by omega:b.toNat<f.2.1.length)]
 intro x hx;have:=hby _ (List.getElem_mem _) x hx;omega
theorem Xnm {p:Xj} (h0:0≤p.1∧p.1<47) (h1:p.2.1.length≤64) (h2:W16 p.2.1):Xa5 (toStep p)=0:=by
 unfold Xa5 toStep;simp only[Ywx]
 rw[X3.2 (by omega:(0:Int)≤p.1∧p.1≤46)]
 exact Xky h1 h2
theorem step_ok {a:Int} {w:List Int} (h0:0≤a∧a<47) (h1:w.length≤64) (h2:W16 w):Xa5 (false,a,w,())=0:=by
 unfold Xa5;simp only[Ywx]
 rw[X3.2 (by omega:(0:Int)≤a∧a≤46)]
 exact Xky h1 h2
theorem Xnv {d:Xd} {f:Fs_} (ht:X8 f) (hby:Xdg f) {seq:Int} (hs:1≤seq∧seq≤60000):∀ x∈Xhj d f seq,Xa5 x=0:=by
 have hi:=(Xgu ht.inod).changed d;have hp:=(Xhv ht).changed d;have wi:∀ p∈X0 d (Xu f.1),W16 p.2.1:=fun p hp=>Xor ht.inod p (List.mem_filter.1 hp).1;have wp:∀ p∈X0 d (X6 f),W16 p.2.1:=fun p hp=>Xp7 ht hby p (List.mem_filter.1 hp).1;unfold Xhj;generalize X0 d (Xu f.1)=ips at hi wi ⊢;generalize X0 d (X6 f)=dps at hp wp ⊢;have l1:=hi.len;have l2:=hp.len
 have hflush:Xa5 (true,0,[],())=0:=by decide
 cases ((ips.length:Int) == 0) with
 |true=>intro x h;cases h
 |false=>
  intro x hx;simp only[Ywx,Xl5,List.mem_append,List.mem_map,List.mem_cons,List.not_mem_nil,or_false] at hx;rcases hx with ⟨q,hq,rfl⟩ | (rfl | rfl) | hin | (rfl | rfl | rfl) | ⟨q,hq,rfl⟩ | (rfl | rfl | rfl)
  ·exact Xnm (hp.plc q hq) (Nat.le_trans (hp.wrd q hq) (by omega)) (wp q hq)
  ·exact hflush
  ·refine step_ok (by omega) (by simp;omega) fun y hy=>?_
   simp only[List.mem_append,List.mem_cons,List.not_mem_nil,or_false,List.mem_map] at hy;rcases hy with (rfl | rfl | rfl) | ⟨q,hq,rfl⟩
   ·omega
   ·omega
   ·omega
   ·have:=hi.plc q hq;omega
  ·obtain⟨k,hk,rfl⟩:=List.mem_map.1 hin
   have hk:=List.mem_range.1 hk;simp only[Xn3,getD_lt _ hk]
   exact step_ok (by omega) (Nat.le_trans (hi.wrd _ (List.getElem_mem hk)) (by omega)) (wi _ (List.getElem_mem hk))
  ·exact hflush
  ·refine step_ok (by omega) (by simp) fun y hy=>?_
   simp only[List.mem_cons,List.not_mem_nil,or_false] at hy
   rcases hy with rfl | rfl | rfl<;>omega
  ·exact hflush
  ·exact Xnm (hi.plc q hq) (Nat.le_trans (hi.wrd q hq) (by omega)) (wi q hq)
  ·exact hflush
  ·refine step_ok (by omega) (by simp) fun y hy=>?_
   simp only[List.mem_cons,List.not_mem_nil,or_false] at hy
   rcases hy with rfl | rfl<;>omega
  ·exact hflush
theorem CrashSync.main (w:Xz) (steps:Int) (picks:List Bool) (hf:Fit Xp w) (hf1:Fit (.int .i64) steps) (hf2:Fit (.sl .bool) picks) (hw:wt Xp w≤1048576) (hw1:wt (.int .i64) steps≤1048576) (hw2:wt (.sl .bool) picks≤1048576) :
  ∃ r,Xhi w steps picks=some r∧Xgw w steps picks=some r∧wt Xk r≤2147483648:=by
 have small:∀ c:Int,wt Xk (c,([],[],()),())≤2147483648:=fun c=>by simp only[Yug,Yo6,Yw6,Ywr];simp
 have hwt:wt Xp w=wt Xh w.1+(wt Xo w.2.1+(wt Xo w.2.2.1+0)):=rfl
 have ba:Bd Xo w.2.1:=Yph rfl (by omega)
 have bb:Bd Xo w.2.2.1:=Yph rfl (by omega)
 have hby:Xdg w.2.1:=Xov hf.2.1;obtain⟨r,h1,h2,h3⟩:=Xnt w ba bb;simp only[Xhi,Xgw,h1,h2,Option.bind_some]
 cases hr:(r != 0) with
 |true=>exact⟨_,rfl,rfl,small _⟩
 |false=>
  obtain⟨s0,f0,_,_⟩:=h3 (by simpa using hr)
  obtain⟨hok,h47⟩:=Xix s0;have hsr:=Xja s0;have ht:=(Xl9.of f0).tree;simp only[Ywx,Xs5 w.1 w.2.1 ba hby,Xt1 s0 ht hby,s0,f0,show((0:Int) != 0)=false from rfl,Option.bind_some]
  cases h60:((Xav w.1).1 == 60000) with
  |true=>exact⟨(8,([],[],()),()),rfl,rfl,small _⟩
  |false=>
   simp only[Ywx,show((0:Int) != 0)=false from rfl];obtain⟨c1,_⟩:=Xos (d:=w.1) ht (Xav w.1).1
   obtain⟨r,e1,e2,e3⟩:=Xqa ⟨hok,by omega⟩ (by omega) (Xnv (d:=w.1) ht hby hsr) steps picks
   simp only[e1,e2,Option.bind_some];exact⟨_,rfl,rfl,e3⟩
theorem CrashSync.law (x:PT.Els (shs [Xp,(.int .i64),(.sl .bool)])) (hf:Yop [Xp,(.int .i64),(.sl .bool)] x) (hw:Ypb [Xp,(.int .i64),(.sl .bool)] x≤1048576):Xkk x.1 x.2.1 x.2.2.1=some true:=by
 simp only[Ypb] at hw;have hf0:Fit Xp x.1:=hf.1;have hf1:Fit (.int .i64) x.2.1:=hf.2.1;have hf2:Fit (.sl .bool) x.2.2.1:=hf.2.2.1
 have hw0:wt Xp x.1≤1048576:=by omega
 have hw1:wt (.int .i64) x.2.1≤1048576:=by omega
 have hw2:wt (.sl .bool) x.2.2.1≤1048576:=by omega
 clear hw hf;generalize x.2.2.1=a2 at hf2 hw2 ⊢;generalize x.2.1=a1 at hf1 hw1 ⊢;generalize x.1=a0 at hf0 hw0 ⊢;obtain⟨r,hr1,hr2,hr3⟩:=CrashSync.main a0 a1 a2 hf0 hf1 hf2 hw0 hw1 hw2;obtain⟨r_0,⟨r_1_0,r_1_1,⟨⟩⟩,⟨⟩⟩:=r;replace hr3:wt Xk (r_0,(r_1_0,r_1_1,()),())≤2147483648:=hr3;replace hr1:Xhi a0 a1 a2=some (r_0,(r_1_0,r_1_1,()),()):=hr1;replace hr2:Xgw a0 a1 a2=some (r_0,(r_1_0,r_1_1,()),()):=hr2;have er:=Xrm (r_0,(r_1_0,r_1_1,()),()) hr3
 obtain⟨kr,y0,y1,l1,l2,hm,hh⟩:=Xta r_0 r_1_0 r_1_1 1 (by omega) (by omega) hr3
 have to0:=Xrv a0 (by omega)
 have eq0:=Xr7 a0 (by omega)
 have to2:=Xrt a2 (by omega)
 have eq2:=Xtq a2 (by omega)
 obtain⟨k0,z0_0,z0_1,z0_2,z0_3,z0_4,z0_5,l0,u0,m0⟩:=Xuh a0.1.1 a0.1.2.1 a0.2.1.1 a0.2.1.2.1 a0.2.2.1.1 a0.2.2.1.2.1 1 (by omega) (by show _+((wt Xp a0:Nat):Int)≤_;omega) (by show wt Xp a0≤_;omega)
 have u0:k0≤1+((wt Xp a0:Nat):Int):=u0
 try simp only[Yxr] at m0
 obtain⟨k2,z2,l2,u2,m2⟩:=Xtg a2 k0 (by omega) (by omega) (by omega)
 have hsz:∀ g:Option Bool,g=some true→∀ b:Bool,cond b (some true) g=some true:=fun g h b=>by cases b<;>first | rfl | exact h
 simp only[Xkk]
 repeat' (first | with_reducible refine hsz _ ?_ _ | (rw[Option.bind_some]) | (obtain⟨q,hq⟩:=Xr4 a0 _ (by omega);rw[hq,Option.bind_some];clear hq))
 simp only[er,hm,hh,to0,eq0,to2,eq2,m0,m2,hr1,hr2,Yxr,Option.bind_some,Bool.not_true,Ywx,Yw4,Yvn,Yvk,Yvi,Ywq (by omega:0≤kr),Ywq (by omega:0≤k2)]
end Mf
