import Derived.Test.YthaonimonnheeaaGreatCheckDiskA
noncomputable section
namespace Mf
open Go
set_option linter.unusedVariables false
set_option linter.unusedSimpArgs false
set_option maxRecDepth 100000
theorem Xqy (a:(List Int)) (n:Int) (hw:wt (.sl (.int .i64)) a≤2147483648):∃ r,Zq0 a n=some r:=by
 simp only[Zq0]
 repeat' (first | with_reducible exact Yww _ | with_reducible refine Ywt (Yww _) fun _=>?_ | with_reducible apply Ywq)
theorem Xru (a:(List (List Int))) (n:Int) (hw:wt (.sl (.sl (.int .i64))) a≤2147483648):∃ r,Zq2 a n=some r:=by
 have hw2:=hw;simp only[Yud,Ypv,Yxh,Ywl,Ysj,Ywy] at hw2
 have hl:a.length≤2147483648:=by have:=Yk3 (wt (.sl (.int .i64))) (fun x=>by simp only[Yud,Ypv,Yxh,Ywl,Ysj,Ywy];omega) a;omega
 have lp:∀ k,∃ r,Zq1 a (k,0)=some r:=fun k=>by
  refine Yst (f:=fun s=>Zq1.B a s.1 s.2) (fun(i:Nat) (k:Int)=>(k,(i:Int))) a.length (fun i k hi=>?_) (fun k=>?_) a.length 0 k (by omega)
  ·have hm:=Ys1 (wt (.sl (.int .i64))) a i hi
   have hb:inB (i:Int) a.length=true:=Yuo (by omega) (by omega)
   simp only[Zq1.B,Yxb hi,hb,Yw0,toNat_cast,getD_lt _ hi,Yvj (by omega:i<4294967296)]
   repeat' (first | with_reducible exact Yw8 _ | (with_reducible refine .inl ⟨_,rfl,?_⟩;exact⟨_,rfl⟩) | with_reducible refine Yvv (Xqy _ _ (by first | omega | (simp only[Yud,Ypv,Yxh,Ywl,Ysj,Ywy] at hm ⊢;omega))) fun _=>?_ | with_reducible refine Yvv (Yww _) fun _=>?_ | with_reducible apply Yv2)
  ·refine⟨.inr k,?_⟩;simp only[Zq1.B,Yw7 (Nat.le_refl _),Ywp]
 simp only[Zq2]
 repeat' (first | with_reducible exact Yww _ | with_reducible refine Ywt (lp _) fun o=>?_ | with_reducible refine Ywt (Yww _) fun _=>?_ | with_reducible apply Ywq | (cases o<;>exact⟨_,rfl⟩))
theorem Xtm (a:Xo) (n:Int) (hw:wt Xl a≤2147483648):∃ r,Zq3 a n=some r:=by
 simp only[Zq3]
 repeat' (first | with_reducible exact Yww _ | with_reducible refine Ywt (Xqy _ _ (by first | omega | (simp only[Yud,Ypv,Yxh,Ywl,Ysj,Ywy] at hw ⊢;omega))) fun _=>?_ | with_reducible refine Ywt (Yww _) fun _=>?_ | with_reducible apply Ywq)
theorem Xse (a:(List Xo)) (n:Int) (hw:wt (.sl Xl) a≤2147483648):∃ r,Zq5 a n=some r:=by
 have hw2:=hw;simp only[Yud,Ypv,Yxh,Ywl,Ysj,Ywy] at hw2
 have hl:a.length≤2147483648:=by have:=Yk3 (wt Xl) (fun x=>by simp only[Yud,Ypv,Yxh,Ywl,Ysj,Ywy];omega) a;omega
 have lp:∀ k,∃ r,Zq4 a (k,0)=some r:=fun k=>by
  refine Yst (f:=fun s=>Zq4.B a s.1 s.2) (fun(i:Nat) (k:Int)=>(k,(i:Int))) a.length (fun i k hi=>?_) (fun k=>?_) a.length 0 k (by omega)
  ·have hm:=Ys1 (wt Xl) a i hi
   have hb:inB (i:Int) a.length=true:=Yuo (by omega) (by omega)
   simp only[Zq4.B,Yxb hi,hb,Yw0,toNat_cast,getD_lt _ hi,Yvj (by omega:i<4294967296)]
   repeat' (first | with_reducible exact Yw8 _ | (with_reducible refine .inl ⟨_,rfl,?_⟩;exact⟨_,rfl⟩) | with_reducible refine Yvv (Xtm _ _ (by first | omega | (simp only[Yud,Ypv,Yxh,Ywl,Ysj,Ywy] at hm ⊢;omega))) fun _=>?_ | with_reducible refine Yvv (Yww _) fun _=>?_ | with_reducible apply Yv2)
  ·refine⟨.inr k,?_⟩;simp only[Zq4.B,Yw7 (Nat.le_refl _),Ywp]
 simp only[Zq5]
 repeat' (first | with_reducible exact Yww _ | with_reducible refine Ywt (lp _) fun o=>?_ | with_reducible refine Ywt (Yww _) fun _=>?_ | with_reducible apply Ywq | (cases o<;>exact⟨_,rfl⟩))
theorem Xrj (a:Xd) (n:Int) (hw:wt Xh a≤2147483648):∃ r,Zq6 a n=some r:=by
 simp only[Zq6]
 repeat' (first | with_reducible exact Yww _ | with_reducible refine Ywt (Xru _ _ (by first | omega | (simp only[Yud,Ypv,Yxh,Ywl,Ysj,Ywy] at hw ⊢;omega))) fun _=>?_ | with_reducible refine Ywt (Xse _ _ (by first | omega | (simp only[Yud,Ypv,Yxh,Ywl,Ysj,Ywy] at hw ⊢;omega))) fun _=>?_ | with_reducible refine Ywt (Yww _) fun _=>?_ | with_reducible apply Ywq)
theorem Xq3 (a:(List Int)) (hw:wt (.sl (.int .i64)) a≤2147483648):Zq8 a=some a:=by
 have hw2:=hw;simp only[Yud,Ypv,Yxh,Ywl,Ysj,Ywy] at hw2
 have hl:a.length≤2147483648:=by have:=Yk3 (wt (.int .i64)) (fun x=>by simp only[Yud,Ypv,Yxh,Ywl,Ysj,Ywy];omega) a;omega
 have lp:Zq7 a (0,List.replicate (a.length:Int).toNat 0)=some a:=by
  refine Ywj a (fun s=>Zq7.B a s.1 s.2) 0 (fun i hi out ho=>?_) (fun out ho=>?_)
  ·have hm:=Ys1 (wt (.int .i64)) a i hi
   have hb:inB (i:Int) a.length=true:=Yuo (by omega) (by omega)
   have hc:inB (i:Int) out.length=true:=Yuo (by omega) (by omega)
   simp only[Zq7.B,Yxb hi,hb,hc,Yw0,toNat_cast,getD_lt _ hi,Option.bind_some,Yxm,Yvj (by omega:i<4294967296)]
  ·simp only[Zq7.B];rw[show decide ((a.length:Int)<(a.length:Int))=false by simp];rfl
 simp only[Zq8]
 rw[show(decide ((0:Int)≤(a.length:Int))&&(decide ((a.length:Int)≤(a.length:Int))&&decide ((a.length:Int)≤2147483648)))=true by simp;omega]
 simp only[Yw0,Option.bind_some,lp]
theorem Xt1 (a:(List (List Int))) (hw:wt (.sl (.sl (.int .i64))) a≤2147483648):Xi7 a=some a:=by
 have hw2:=hw;simp only[Yud,Ypv,Yxh,Ywl,Ysj,Ywy] at hw2
 have hl:a.length≤2147483648:=by have:=Yk3 (wt (.sl (.int .i64))) (fun x=>by simp only[Yud,Ypv,Yxh,Ywl,Ysj,Ywy];omega) a;omega
 have lp:Zq9 a (0,List.replicate (a.length:Int).toNat ([]:List Int))=some a:=by
  refine Ywj a (fun s=>Zq9.B a s.1 s.2) [] (fun i hi out ho=>?_) (fun out ho=>?_)
  ·have hm:=Ys1 (wt (.sl (.int .i64))) a i hi
   have hb:inB (i:Int) a.length=true:=Yuo (by omega) (by omega)
   have hc:inB (i:Int) out.length=true:=Yuo (by omega) (by omega)
   have h0:=Xq3 a[i] (by omega)
   simp only[Zq9.B,Yxb hi,hb,hc,Yw0,toNat_cast,getD_lt _ hi,h0,Option.bind_some,Yxm,Yvj (by omega:i<4294967296)]
  ·simp only[Zq9.B];rw[show decide ((a.length:Int)<(a.length:Int))=false by simp];rfl
 simp only[Xi7]
 rw[show(decide ((0:Int)≤(a.length:Int))&&(decide ((a.length:Int)≤(a.length:Int))&&decide ((a.length:Int)≤2147483648)))=true by simp;omega]
 simp only[Yw0,Option.bind_some,lp]
theorem Xrp (a:Xo) (hw:wt Xl a≤2147483648):Xmo a=some a:=by
 obtain⟨x0,x1,⟨⟩⟩:=a;simp only[Yud,Ypv,Yxh,Ywl,Ysj,Ywy] at hw
 have h_x1_0:=Xq3 x1 (by simp only[Yud,Ypv,Yxh,Ywl,Ysj,Ywy];omega)
 simp only[Xmo,h_x1_0,Option.bind_some,Yxm]
theorem Xrr (a:(List Xo)) (hw:wt (.sl Xl) a≤2147483648):Xi9 a=some a:=by
 have hw2:=hw;simp only[Yud,Ypv,Yxh,Ywl,Ysj,Ywy] at hw2
 have hl:a.length≤2147483648:=by have:=Yk3 (wt Xl) (fun x=>by simp only[Yud,Ypv,Yxh,Ywl,Ysj,Ywy];omega) a;omega
 have lp:Xjf a (0,List.replicate (a.length:Int).toNat Xab)=some a:=by
  refine Ywj a (fun s=>Xjf.B a s.1 s.2) Xab (fun i hi out ho=>?_) (fun out ho=>?_)
  ·have hm:=Ys1 (wt Xl) a i hi
   have hb:inB (i:Int) a.length=true:=Yuo (by omega) (by omega)
   have hc:inB (i:Int) out.length=true:=Yuo (by omega) (by omega)
   have h0:=Xrp a[i] (by omega)
   simp only[Xjf.B,Yxb hi,hb,hc,Yw0,toNat_cast,getD_lt _ hi,h0,Option.bind_some,Yxm,Yvj (by omega:i<4294967296)]
  ·simp only[Xjf.B];rw[show decide ((a.length:Int)<(a.length:Int))=false by simp];rfl
 simp only[Xi9]
 rw[show(decide ((0:Int)≤(a.length:Int))&&(decide ((a.length:Int)≤(a.length:Int))&&decide ((a.length:Int)≤2147483648)))=true by simp;omega]
 simp only[Yw0,Option.bind_some,lp]
theorem Xtr (a:Xd) (hw:wt Xh a≤2147483648):Xkc a=some a:=by
 obtain⟨x0,x1,⟨⟩⟩:=a;simp only[Yud,Ypv,Yxh,Ywl,Ysj,Ywy] at hw
 have h_x0_0:=Xt1 x0 (by simp only[Yud,Ypv,Yxh,Ywl,Ysj,Ywy];omega)
 have h_x1_1:=Xrr x1 (by simp only[Yud,Ypv,Yxh,Ywl,Ysj,Ywy];omega)
 simp only[Xkc,h_x0_0,h_x1_1,Option.bind_some,Yxm]
theorem Xp1 (a:(List Int)) (hw:wt (.sl (.int .i64)) a≤2147483648):Xcm a a=some true:=by
 have hw2:=hw;simp only[Yud,Ypv,Yxh,Ywl,Ysj,Ywy] at hw2
 have hl:a.length≤2147483648:=by have:=Yk3 (wt (.int .i64)) (fun x=>by simp only[Yud,Ypv,Yxh,Ywl,Ysj,Ywy];omega) a;omega
 have lp:Xea a a 0=some (.inr ()):=by
  refine Ywd (n:=a.length) (fun s=>Xea.B a a s) (fun i hi=>?_) ?_
  ·have hm:=Ys1 (wt (.int .i64)) a i hi
   have hb:inB (i:Int) a.length=true:=Yuo (by omega) (by omega)
   simp only[Xea.B,Yxb hi,hb,Yw0,Ywp,toNat_cast,getD_lt _ hi,Option.bind_some,Bool.not_true,Yv5,Yvf,Yva,Yvj (by omega:i<4294967296)]
  ·simp only[Xea.B,Yw7 (Nat.le_refl _),Ywp]
 simp only[Xcm,Yv5,Ywp,lp,Option.bind_some,sel]
theorem Xsp (a:Xo) (hw:wt Xl a≤2147483648):Xgh a a=some true:=by
 obtain⟨x0,x1,⟨⟩⟩:=a;simp only[Yud,Ypv,Yxh,Ywl,Ysj,Ywy] at hw
 have h_x1_0:=Xp1 x1 (by simp only[Yud,Ypv,Yxh,Ywl,Ysj,Ywy];omega)
 simp only[Xgh,h_x1_0,Option.bind_some,Bool.not_true,Yv5,Yvf,Yva,Ywp,Yw0]
theorem Xsa (a:(List (List Int))) (hw:wt (.sl (.sl (.int .i64))) a≤2147483648):Xe1 a a=some true:=by
 have hw2:=hw;simp only[Yud,Ypv,Yxh,Ywl,Ysj,Ywy] at hw2
 have hl:a.length≤2147483648:=by have:=Yk3 (wt (.sl (.int .i64))) (fun x=>by simp only[Yud,Ypv,Yxh,Ywl,Ysj,Ywy];omega) a;omega
 have lp:Xd5 a a 0=some (.inr ()):=by
  refine Ywd (n:=a.length) (fun s=>Xd5.B a a s) (fun i hi=>?_) ?_
  ·have hm:=Ys1 (wt (.sl (.int .i64))) a i hi
   have hb:inB (i:Int) a.length=true:=Yuo (by omega) (by omega)
   have h0:=Xp1 a[i] (by omega)
   simp only[Xd5.B,Yxb hi,hb,Yw0,Ywp,toNat_cast,getD_lt _ hi,h0,Option.bind_some,Bool.not_true,Yv5,Yvf,Yva,Yvj (by omega:i<4294967296)]
  ·simp only[Xd5.B,Yw7 (Nat.le_refl _),Ywp]
 simp only[Xe1,Yv5,Ywp,lp,Option.bind_some,sel]
theorem Xsq (a:Xo) (hw:wt Xl a≤2147483648):Xh0 a a=some true:=by
 obtain⟨x0,x1,⟨⟩⟩:=a;simp only[Yud,Ypv,Yxh,Ywl,Ysj,Ywy] at hw
 have h_x1_0:=Xp1 x1 (by simp only[Yud,Ypv,Yxh,Ywl,Ysj,Ywy];omega)
 simp only[Xh0,h_x1_0,Option.bind_some,Bool.not_true,Yv5,Yvf,Yva,Ywp,Yw0]
theorem Xtg (a:(List Xo)) (hw:wt (.sl Xl) a≤2147483648):Xdx a a=some true:=by
 have hw2:=hw;simp only[Yud,Ypv,Yxh,Ywl,Ysj,Ywy] at hw2
 have hl:a.length≤2147483648:=by have:=Yk3 (wt Xl) (fun x=>by simp only[Yud,Ypv,Yxh,Ywl,Ysj,Ywy];omega) a;omega
 have lp:Xd4 a a 0=some (.inr ()):=by
  refine Ywd (n:=a.length) (fun s=>Xd4.B a a s) (fun i hi=>?_) ?_
  ·have hm:=Ys1 (wt Xl) a i hi
   have hb:inB (i:Int) a.length=true:=Yuo (by omega) (by omega)
   have h0:=Xsq a[i] (by omega)
   simp only[Xd4.B,Yxb hi,hb,Yw0,Ywp,toNat_cast,getD_lt _ hi,h0,Option.bind_some,Bool.not_true,Yv5,Yvf,Yva,Yvj (by omega:i<4294967296)]
  ·simp only[Xd4.B,Yw7 (Nat.le_refl _),Ywp]
 simp only[Xdx,Yv5,Ywp,lp,Option.bind_some,sel]
theorem Xt4 (a:Xd) (hw:wt Xh a≤2147483648):Xho a a=some true:=by
 obtain⟨x0,x1,⟨⟩⟩:=a;simp only[Yud,Ypv,Yxh,Ywl,Ysj,Ywy] at hw
 have h_x0_0:=Xsa x0 (by simp only[Yud,Ypv,Yxh,Ywl,Ysj,Ywy];omega)
 have h_x1_1:=Xtg x1 (by simp only[Yud,Ypv,Yxh,Ywl,Ysj,Ywy];omega)
 simp only[Xho,h_x0_0,h_x1_1,Option.bind_some,Bool.not_true,Yv5,Yvf,Yva,Ywp,Yw0]
theorem Xpz (a:(List Int)) (k:Int) (hk:0≤k) (hw:k+wt (.sl (.int .i64)) a≤4611686018427387904) (hz:wt (.sl (.int .i64)) a≤2147483648):MH Xcs Xhh (wt (.sl (.int .i64)) a) a k:=by
 simp only[Yud,Ypv,Yxh,Ywl,Ysj,Ywy] at hw hz
 have hl:a.length≤2147483648:=by have:=Yk3 (wt (.int .i64)) (fun x=>by simp only[Yud,Ypv,Yxh,Ywl,Ysj,Ywy];omega) a;omega
 have hs:∀ (k:Int) (i:Nat) (a:(List Int)) (h:i<a.length),a.length≤2147483648→0≤k→k+wt (.int .i64) a[i]≤4611686018427387904→wt (.int .i64) a[i]≤2147483648→∃ k2 x2,k≤k2∧k2≤k+wt (.int .i64) a[i]∧Xda.B k (i:Int) a=some (.inl (k2,((i+1:Nat):Int),a.set i x2))∧∀ b:(List Int),b.length=a.length→b[i]? = some x2→Xdh.B b k (i:Int)=some (.inl (k2,((i+1:Nat):Int))):=by
  clear hw hz hl hk k a;intro k i a hi hl hk hw hz
  have hb:inB (i:Int) a.length=true:=Yuo (by omega) (by omega)
  simp only[Yud,Ypv,Yxh,Ywl,Ysj,Ywy] at hw hz
  have w1:w64 (k+1)=k+1:=Yxo (by omega) (by omega)
  refine⟨k+1,k,by omega,by simp only[Yud,Ypv,Yxh,Ywl,Ysj,Ywy];omega,?_,fun b hlb hx=>?_⟩
  ·simp only[Xda.B,Yxb hi,hb,Yw0,toNat_cast,getD_lt _ hi,Option.bind_some,w1,Yvj (by omega:i<4294967296),List.set_set,List.length_set,Ywg _ _ hi,show(!((3:Int) == 0))=true from rfl]
  ·have hc:inB (i:Int) b.length=true:=Yuo (by omega) (by omega)
   have hd:decide ((i:Int)<(b.length:Int))=true:=Yxb (by omega)
   simp only[Xdh.B,hd,hc,Yw0,Ywp,toNat_cast,Ywo _ hx,Option.bind_some,Yv5,Yvf,Yva,Bool.not_true,w1,Yvj (by omega:i<4294967296),List.set_set,List.length_set,Ywg _ _ hi,show(!((3:Int) == 0))=true from rfl]
 obtain⟨k2,a2,e1,e2,e3,e4⟩:=Yu4 (wt (.int .i64)) 4611686018427387904 (fun s=>Xda.B s.1 s.2.1 s.2.2) (fun b s=>Xdh.B b s.1 s.2) (fun k a=>by simp only[Xda.B,Yw7 (Nat.le_refl _),Ywp]) (fun k a=>by simp only[Xdh.B,Yw7 (Nat.le_refl _),Ywp]) hs k a hl hk (by omega) (by omega)
 refine⟨k2,a2,e1,by simp only[Yud,Ypv,Yxh,Ywl,Ysj,Ywy];omega,?_,?_⟩
 ·have:Xda (k,0,a)=some (k2,a2):=e3
  simp only[Xcs,this,Option.bind_some]
 ·have:Xdh a2 (k,0)=some (.inr k2):=e4
  simp only[Xhh,this,Option.bind_some,sel]
theorem Xsv (a:(List (List Int))) (k:Int) (hk:0≤k) (hw:k+wt (.sl (.sl (.int .i64))) a≤4611686018427387904) (hz:wt (.sl (.sl (.int .i64))) a≤2147483648):MK Xeu (wt (.sl (.sl (.int .i64))) a) a k:=by
 simp only[Yud,Ypv,Yxh,Ywl,Ysj,Ywy] at hw hz
 have hl:a.length≤2147483648:=by have:=Yk3 (wt (.sl (.int .i64))) (fun x=>by simp only[Yud,Ypv,Yxh,Ywl,Ysj,Ywy];omega) a;omega
 have hs:∀ (k:Int) (i:Nat) (a:(List (List Int))) (h:i<a.length),a.length≤2147483648→0≤k→k+wt (.sl (.int .i64)) a[i]≤4611686018427387904→wt (.sl (.int .i64)) a[i]≤2147483648→∃ k2 x2,k≤k2∧k2≤k+wt (.sl (.int .i64)) a[i]∧Xc1.B k (i:Int) a=some (.inl (k2,((i+1:Nat):Int),a.set i x2)):=by
  clear hw hz hl hk k a;intro k i a hi hl hk hw hz
  have hb:inB (i:Int) a.length=true:=Yuo (by omega) (by omega)
  simp only[Yud,Ypv,Yxh,Ywl,Ysj,Ywy] at hw hz
  obtain⟨k1,y1,l1,u1,w1⟩:=MH.mk (Xpz a[i] (k) (by omega) (by simp only[Yud,Ypv,Yxh,Ywl,Ysj,Ywy];omega) (by simp only[Yud,Ypv,Yxh,Ywl,Ysj,Ywy];omega))
  simp only[Yud,Ypv,Yxh,Ywl,Ysj,Ywy] at u1
  refine⟨k1,y1,by omega,by simp only[Yud,Ypv,Yxh,Ywl,Ysj,Ywy];omega,?_⟩
  simp only[Xc1.B,Yxb hi,hb,Yw0,toNat_cast,getD_lt _ hi,Option.bind_some,w1,Yvj (by omega:i<4294967296),List.set_set,List.length_set,Ywg _ _ hi,show(!((3:Int) == 0))=true from rfl]
 obtain⟨k2,a2,e1,e2,e3⟩:=Yul (wt (.sl (.int .i64))) 4611686018427387904 (fun s=>Xc1.B s.1 s.2.1 s.2.2) (fun k a=>by simp only[Xc1.B,Yw7 (Nat.le_refl _),Ywp]) hs k a hl hk (by omega) (by omega)
 refine⟨k2,a2,e1,by simp only[Yud,Ypv,Yxh,Ywl,Ysj,Ywy];omega,?_⟩
 have:Xc1 (k,0,a)=some (k2,a2):=e3;simp only[Xeu,this,Option.bind_some]
theorem Xs6 (a:(List Xo)) (k:Int) (hk:0≤k) (hw:k+wt (.sl Xl) a≤4611686018427387904) (hz:wt (.sl Xl) a≤2147483648):MK Xek (wt (.sl Xl) a) a k:=by
 simp only[Yud,Ypv,Yxh,Ywl,Ysj,Ywy] at hw hz
 have hl:a.length≤2147483648:=by have:=Yk3 (wt Xl) (fun x=>by simp only[Yud,Ypv,Yxh,Ywl,Ysj,Ywy];omega) a;omega
 have hs:∀ (k:Int) (i:Nat) (a:(List Xo)) (h:i<a.length),a.length≤2147483648→0≤k→k+wt Xl a[i]≤4611686018427387904→wt Xl a[i]≤2147483648→∃ k2 x2,k≤k2∧k2≤k+wt Xl a[i]∧Xcx.B k (i:Int) a=some (.inl (k2,((i+1:Nat):Int),a.set i x2)):=by
  clear hw hz hl hk k a;intro k i a hi hl hk hw hz
  have hb:inB (i:Int) a.length=true:=Yuo (by omega) (by omega)
  simp only[Yud,Ypv,Yxh,Ywl,Ysj,Ywy] at hw hz
  have w1:w64 (k+1)=k+1:=Yxo (by omega) (by omega)
  obtain⟨k2,y2,l2,u2,w2⟩:=MH.mk (Xpz a[i].2.1 (k+1) (by omega) (by simp only[Yud,Ypv,Yxh,Ywl,Ysj,Ywy];omega) (by simp only[Yud,Ypv,Yxh,Ywl,Ysj,Ywy];omega))
  simp only[Yud,Ypv,Yxh,Ywl,Ysj,Ywy] at u2
  refine⟨k2,(k,y2,()),by omega,by simp only[Yud,Ypv,Yxh,Ywl,Ysj,Ywy];omega,?_⟩
  simp only[Xcx.B,Yxb hi,hb,Yw0,toNat_cast,getD_lt _ hi,Option.bind_some,w1,w2,Yvj (by omega:i<4294967296),List.set_set,List.length_set,Ywg _ _ hi,show(!((3:Int) == 0))=true from rfl]
 obtain⟨k2,a2,e1,e2,e3⟩:=Yul (wt Xl) 4611686018427387904 (fun s=>Xcx.B s.1 s.2.1 s.2.2) (fun k a=>by simp only[Xcx.B,Yw7 (Nat.le_refl _),Ywp]) hs k a hl hk (by omega) (by omega)
 refine⟨k2,a2,e1,by simp only[Yud,Ypv,Yxh,Ywl,Ysj,Ywy];omega,?_⟩
 have:Xcx (k,0,a)=some (k2,a2):=e3;simp only[Xek,this,Option.bind_some]
theorem Xtu (x_0:List (List Int)) (x_1:List Xo) (k:Int) (hk:0≤k) (hw:k+wt Xh (x_0,x_1,())≤4611686018427387904) (hz:wt Xh (x_0,x_1,())≤2147483648):∃ k2 y0 y1,k≤k2∧k2≤k+wt Xh (x_0,x_1,())∧Xhu (x_0,x_1,()) k=some (k2,(y0,y1,())):=by
 simp only[Yud,Ypv,Yxh,Ywl,Ysj,Ywy] at hw hz
 obtain⟨k0,y0,l0,u0,w0⟩:=id (Xsv x_0 k (by omega) (by simp only[Yud,Ypv,Yxh,Ywl,Ysj,Ywy];omega) (by simp only[Yud,Ypv,Yxh,Ywl,Ysj,Ywy];omega))
 simp only[Yud,Ypv,Yxh,Ywl,Ysj,Ywy] at u0
 obtain⟨k1,y1,l1,u1,w1⟩:=id (Xs6 x_1 k0 (by omega) (by simp only[Yud,Ypv,Yxh,Ywl,Ysj,Ywy];omega) (by simp only[Yud,Ypv,Yxh,Ywl,Ysj,Ywy];omega))
 simp only[Yud,Ypv,Yxh,Ywl,Ysj,Ywy] at u1
 refine⟨k1,y0,y1,by omega,by simp only[Yud,Ypv,Yxh,Ywl,Ysj,Ywy];omega,?_⟩
 simp only[Xhu,w0,w1,Option.bind_some,Yxm]
theorem Xsy (x_0:Int) (x_1:List Int) (k:Int) (hk:0≤k) (hw:k+wt Xl (x_0,x_1,())≤4611686018427387904) (hz:wt Xl (x_0,x_1,())≤2147483648):∃ k2 y0,k≤k2∧k2≤k+wt Xl (x_0,x_1,())∧Xic (x_0,x_1,()) k=some (k2,(x_0,y0,()))∧Xgy (x_0,y0,()) k=some k2:=by
 simp only[Yud,Ypv,Yxh,Ywl,Ysj,Ywy] at hw hz
 obtain⟨k0,y0,l0,u0,w0,v0⟩:=Xpz x_1 k (by omega) (by simp only[Yud,Ypv,Yxh,Ywl,Ysj,Ywy];omega) (by simp only[Yud,Ypv,Yxh,Ywl,Ysj,Ywy];omega)
 simp only[Yud,Ypv,Yxh,Ywl,Ysj,Ywy] at u0
 refine⟨k0,y0,by omega,by simp only[Yud,Ypv,Yxh,Ywl,Ysj,Ywy];omega,?_,?_⟩
 ·simp only[Xic,w0,Option.bind_some,Yxm]
 ·simp only[Xgy,v0,Option.bind_some,Ywp,Ywm (by omega:0≤k0)]
def inR (v lo hi:Int):Bool:=cond (decide (v≥lo)) (decide (v≤hi)) false
theorem Xw {v lo hi:Int}:inR v lo hi=true↔lo≤v∧v≤hi:=by
 unfold inR;by_cases h:v≥lo<;>simp[h]<;>omega
theorem Xf0 (v lo hi:Int):Xae v lo hi=some (inR v lo hi):=rfl
theorem Xhx (v lo hi:Int):X3 v lo hi=some (inR v lo hi):=rfl
def X8 (w:List Int):Int:=cond (decide ((w.length:Int)>64)) 2 (cond (w.any fun x=>!inR x 0 65535) 3 0)
theorem Xoe (w:List Int):Xdt w=some (X8 w):=by
 simp only[Xdt,X8]
 by_cases hl:w.length≤64
 ·have h:Xkl w 0=_:=Yvl w (fun x=>!inR x 0 65535) (3:Int) (fun i hi=>by
   simp only[Xkl.B,Yxb hi,Yxd hi,Yw0,toNat_cast,getD_lt _ hi,Xf0,Option.bind_some,Yvj (by omega:i<4294967296)]) (by
   simp only[Xkl.B,Yw7 (Nat.le_refl _),Ywp])
  rw[h,show decide ((w.length:Int)>64)=false by simp;omega]
  cases w.any fun x=>!inR x 0 65535<;>rfl
 ·rw[show decide ((w.length:Int)>64)=true by simp;omega];rfl
theorem Xs5 (w:List Int) (hl:w.length≤2147483648):Xel w () (w.length:Int) 0=some (match Yk4 (fun x=>!inR x 0 65535) 0 w with | some j=>.inl (j:Int) | none=>.inr ()):=
 Yvr w (f:=fun s=>Xel.B w () (w.length:Int) s) (fun x=>!inR x 0 65535) (fun i hi=>by
  simp only[Xel.B,Yxb hi,Yxd hi,Yw0,toNat_cast,getD_lt _ hi,Xj9,Xhx,Option.bind_some,Yvj (by omega:i<4294967296)]) (by
  simp only[Xel.B,Yw7 (Nat.le_refl _),Ywp]) 0 (Nat.zero_le _)
theorem Xcd {α:Type} (p:α→Bool) (l:List α):((some (match Yk4 p 0 l with | some j=>.inl (j:Int) | none=>.inr ():Int⊕Unit)).bind fun o=>sel o (fun b=>some b) (fun c=>some (-1))).bind (fun r=>some (decide (r≥0)))=some (l.any p):=by
 cases h:Yk4 p 0 l with
 |none=>rw[Yqc.1 h];rfl
 |some j=>
  have:l.any p=true:=by
   cases ha:l.any p with
   |true=>rfl
   |false=>rw[Yqc.2 ha] at h;cases h
  rw[this];simp[sel]
theorem Xpl (w:List Int):Xec w=some (X8 w):=by
 simp only[Xec,X8,Xju,Xfg]
 by_cases hl:w.length≤64
 ·rw[show decide ((w.length:Int)>64)=false by simp;omega,Xs5 w (by omega),Xcd]
  simp only[Ywp,Option.bind_some]
  cases w.any fun x=>!inR x 0 65535<;>rfl
 ·rw[show decide ((w.length:Int)>64)=true by simp;omega];rfl
theorem Xes {w:List Int} (h:X8 w=0):w.length≤64∧∀ x∈w,0≤x∧x≤65535:=by
 unfold X8 at h
 cases h1:decide ((w.length:Int)>64) with
 |true=>rw[h1] at h;cases h
 |false=>
  rw[h1] at h
  cases h2:(w.any fun x=>!inR x 0 65535) with
  |true=>rw[h2] at h;cases h
  |false=>
   refine⟨by simp at h1;omega,fun x hx=>?_⟩
   have:=List.any_eq_false.1 h2 x hx;simp only[Bool.not_eq_true,Bool.not_eq_false'] at this
   exact Xw.1 (by simpa using this)
def Xbb (x:Bool×Int×List Int×Unit):Int:=cond (cond x.1 (cond (x.2.1 != 0) true (decide ((x.2.2.1.length:Int)>0))) false) 1 (cond (!inR x.2.1 0 46) 3 (X8 x.2.2.1))
theorem Xrs (x:Bool×Int×List Int×Unit):Xmh x=some (Xbb x):=by
 simp only[Xmh,Xbb,Xf0,Xoe,Option.bind_some];simp only[Yvh]
def Xl9 (l:List (Bool×Int×List Int×Unit)):Int:=cond (decide ((l.length:Int)>120)) 2 (Yeo Xbb l)
theorem Xax (n:Int) (g:Option Int):((some (cond (n != 0) (.inl n) (.inr ()):Int⊕Unit)).bind fun o=>sel o (fun b=>some b) (fun _=>g))=cond (n != 0) (some n) g:=by
 cases (n != 0)<;>rfl
theorem Xa8 (n:Int):cond (n != 0) (some n) (some 0)=some n:=by
 cases h:(n != 0)
 ·have:n=0:=by simpa using h
  rw[this];rfl
 ·rfl
theorem Xs7 (l:List (Bool×Int×List Int×Unit)):Xjb l=some (Xl9 l):=by
 simp only[Xjb,Xl9]
 by_cases hl:l.length≤120
 ·have h:Xkj l 0=_:=Yu5 l Xbb (fun i hi=>by
   simp only[Xkj.B,Yxb hi,Yxd hi,Yw0,toNat_cast,getD_lt _ hi,Xrs,Option.bind_some,Yvj (by omega:i<4294967296)]) (by
   simp only[Xkj.B,Yw7 (Nat.le_refl _),Ywp])
  rw[h,show decide ((l.length:Int)>120)=false by simp;omega,Ywp,Ywp,Xax,Xa8]
 ·rw[show decide ((l.length:Int)>120)=true by simp;omega];rfl
theorem Xch {α:Type} {xs:List α} (h:xs.length≤2147483648):Yle xs=some xs:=by
 unfold Yle;rw[show decide (xs.length≤2147483648)=true by simp;omega];rfl
theorem Xfd {n:Nat} (h:n≤2147483648):decide (n≤2147483648)=true:=by simp;omega
theorem Xsu (l:List (List Int)) (h:Bd (.sl (.sl (.int .u8))) l):Xer l=some l:=by
 obtain⟨hl,hb⟩:=h
 have h:Xeq l (l.length:Int) (0,[])=some ([]++l.map id):=
  Yvb l (f:=fun s=>Xeq.B l (l.length:Int) s.1 s.2) id id 0 (fun i hi t ht=>by
   have hx:=(hb l[i] (List.getElem_mem hi)).1
   simp only[Xeq.B,Yxb hi,Yxd hi,Yw0,toNat_cast,getD_lt _ hi,Xjw,Xch hx,Option.bind_some,Yvj (by omega:i<4294967296),id]
   rw[Xfd (by simp;omega)];rfl) (fun t ht=>by
   simp only[Xeq.B,Yw7 (Nat.le_refl _),Ywp,id]) [] rfl
 simp only[Xer,h,Option.bind_some];simp
theorem Xq6 (f:Fs_) (h:Bd Xj f):Xbz f=some f:=by
 obtain⟨l,d,⟨⟩⟩:=f;obtain⟨⟨hl,hb⟩,hd,_⟩:=h;replace hl:l.length≤2147483648:=hl;replace hb:∀ x∈l,Bd Xe x:=hb;replace hd:Bd (.sl (.sl (.int .u8))) d:=hd
 have h:Xed l (l.length:Int) ([],[],()) (0,([],d,()))=some (l.foldl (fun(t:Fs_) x=>(t.1++[x],t.2)) ([],d,())):=
  Yjp l (f:=fun s=>Xed.B l (l.length:Int) ([],[],()) s.1 s.2) (fun(t:Fs_) x=>(t.1++[x],t.2)) id (fun i t=>t.1.length=i) (fun i hi t ht=>by
   have hx:=hb l[i] (List.getElem_mem hi);obtain⟨hx1,hx2,hx3,hx4,hx5,_⟩:=hx;have e1:Yle l[i].2.2.2.1=some l[i].2.2.2.1:=Xch hx4.1;have e2:Yle l[i].2.2.2.2.1=some l[i].2.2.2.2.1:=Xch hx5.1
   refine⟨?_,by simp[ht]⟩
   simp only[Xed.B,Yxb hi,Yxd hi,Yw0,toNat_cast,getD_lt _ hi,Xan,Xfr,e1,e2,Option.bind_some,Yvj (by omega:i<4294967296),Yxm]
   rw[Xfd (by simp;omega)];rfl) (fun t ht=>by
   simp only[Xed.B,Yw7 (Nat.le_refl _),Ywp,id]) _ rfl
 have h2:∀ (l:List Xb) (t:Fs_),l.foldl (fun(t:Fs_) x=>(t.1++[x],t.2)) t=(t.1++l,t.2):=by
  intro l
  induction l with
  |nil=>intro t;simp
  |cons x l ih=>intro t;simp[ih]
 simp only[Xbz,Xsu d hd,Option.bind_some,h,h2];simp
def Xmg (b:UInt8):Bool:=cond (decide ((b.toNat:Int)<97)) true (decide ((b.toNat:Int)>122))
def Xeg (s:List UInt8):Int:=cond (s.any Xmg) 5 (cond (s == []) 5 (cond (decide ((s.length:Int)>4)) 2 0))
theorem Xtq (s:List UInt8) (hl:s.length≤2147483648):Xml s=some (Xeg s):=by
 have h:Xkq s 0=_:=Yvl s Xmg (5:Int) (fun i hi=>by
  simp only[Xkq.B,Yxb hi,Yxd hi,Yw0,toNat_cast,getD_lt _ hi,Option.bind_some,Yvj (by omega:i<4294967296),Xmg,Yu9]) (by
  simp only[Xkq.B,Yw7 (Nat.le_refl _),Ywp])
 simp only[Xml,h,Option.bind_some,Xeg];cases s.any Xmg
 ·simp only[Ywp,Ywz,Yvh]
 ·rfl
theorem Xta (s:List UInt8) (hl:s.length≤2147483648):Xhl s=some (Xeg s):=by
 have h:Xfi s (s.length:Int) 0=_:=Yvl s Xmg (5:Int) (fun i hi=>by
  simp only[Xfi.B,Yxb hi,Yxd hi,Yw0,toNat_cast,getD_lt _ hi,Option.bind_some,Yvj (by omega:i<4294967296),Xmg,Yu9]) (by
  simp only[Xfi.B,Yw7 (Nat.le_refl _),Ywp])
 simp only[Xhl,h,Option.bind_some,Xeg]
 cases s with
 |nil=>rfl
 |cons b s=>
  rw[show((b::s:List UInt8) == [])=false from rfl];simp only[Ywp];cases (b::s).any Xmg
  ·simp only[Ywp,Ywz,Yvh]
  ·rfl
theorem Xpd {s:List UInt8} (h:Xeg s=0):s≠[]∧s.length≤4∧s.any Xmg=false:=by
 unfold Xeg at h
 cases h1:s.any Xmg with
 |true=>rw[h1] at h;cases h
 |false=>
  rw[h1] at h
  cases h2:(s == []) with
  |true=>rw[h2] at h;cases h
  |false=>
   rw[h2] at h
   cases h3:decide ((s.length:Int)>4) with
   |true=>rw[h3] at h;cases h
   |false=>exact⟨(by intro e;subst e;cases h2),(by simp at h3;omega),rfl⟩
def Xi3:List Int→List Int→Bool
 |_,[]=>false
 |a,x::l=>a.contains x || Xi3 (a++[x]) l
theorem Xdm {α:Type} (p:α→Bool) (l:List α) {o:Option (Int⊕Unit)} (h:o=some (match Yk4 p 0 l with | some j=>.inl (j:Int) | none=>.inr ())):(o.bind fun o=>sel o (fun b=>some b) (fun c=>some (-1))).bind (fun r=>some (decide (r≥0)))=some (l.any p):=by
 rw[h];exact Xcd p l
theorem Xps (l:List Int) (v:Int) (hl:l.length≤2147483648):Xb6 l v=some (l.contains v):=by
 have h:Xfp l v (l.length:Int) 0=_:=Yvr l (fun x=>v == x) (fun i hi=>by
  simp only[Xfp.B,Yxb hi,Yxd hi,Yw0,toNat_cast,getD_lt _ hi,Option.bind_some,Yvj (by omega:i<4294967296)]) (by
  simp only[Xfp.B,Yw7 (Nat.le_refl _),Ywp]) 0 (Nat.zero_le _)
 simp only[Xb6,Xjx];rw[Xdm _ _ h,List.any_beq,List.drop_zero]
theorem Xtl (l:List Int) (v:Int) (hl:l.length≤2147483648):Xlj l v=some (l.contains v):=by
 have h:Xkr l v 0=_:=Yvl l (fun x=>x == v) true (fun i hi=>by
  simp only[Xkr.B,Yxb hi,Yxd hi,Yw0,toNat_cast,getD_lt _ hi,Option.bind_some,Yvj (by omega:i<4294967296)]) (by
  simp only[Xkr.B,Yw7 (Nat.le_refl _),Ywp])
 simp only[Xlj,h,Option.bind_some];rw[←List.any_beq,show(fun x:Int=>x == v)=fun x=>v == x from funext fun x=>Bool.beq_comm]
 cases l.any fun x=>v == x<;>rfl
def Xha (n:Int):Int:=w64 ((w64 ((w64 (n+8))-1)).tdiv 8)
def Xh6 (x:Xb):Int:=cond (!inR x.2.1 1 60) 3 (cond (!inR x.2.2.1 0 32) 3 (cond ((x.2.2.2.1.length:Int) != Xha x.2.2.1) 1 (cond (x.2.2.2.1.any fun b=>!inR b 0 19) 3 (cond (Xi3 [] x.2.2.2.1) 7 0))))
theorem Xt6 (x:Xb) (hl:x.2.2.2.1.length≤2147483648) (n:Nat) (hn:n<x.2.2.2.1.length):Xim x (n:Int) 0=some (cond ((x.2.2.2.1.take n).contains x.2.2.2.1[n]) (.inl 7) (.inr ())):=by
 have h:Xim x (n:Int) 0=_:=Yvl (x.2.2.2.1.take n) (fun y=>y == x.2.2.2.1[n]) (7:Int) (fun i hi=>by
  have hi':i<n:=by simp at hi;omega
  simp only[Xim.B,Yxb hi',Yxd (by omega:i<x.2.2.2.1.length),Yxd hn,Yw0,toNat_cast,getD_lt _ (by omega:i<x.2.2.2.1.length),getD_lt _ hn,Option.bind_some,Yvj (by omega:i<4294967296),List.getElem_take]) (by
  have:(x.2.2.2.1.take n).length=n:=by simp;omega
  rw[this]
  simp only[Xim.B,Yw7 (Nat.le_refl _),Ywp])
 rw[h,←List.any_beq,show(fun y:Int=>y == x.2.2.2.1[n])=fun y=>x.2.2.2.1[n] == y from funext fun y=>Bool.beq_comm]
theorem Xjh (l:List Int):∀ (k n:Nat),n+k=l.length→Ya9 (τ:=Unit) (fun i y _=>cond ((l.take i).contains y) (.inr (.inl 7)) (.inl ())) (fun _=>(.inr ():Int⊕Unit)) n (l.drop n) ()=cond (Xi3 (l.take n) (l.drop n)) (.inl 7) (.inr ())
 |0,n,h=>by
  have:n=l.length:=by omega
  subst this
  simp[Ya9,Xi3]
 |k+1,n,h=>by
  have hn:n<l.length:=by omega
  rw[List.drop_eq_getElem_cons hn];simp only[Ya9,Xi3]
  have e:l.take n++[l[n]]=l.take (n+1):=by simp
  rw[e];cases (l.take n).contains l[n]
  ·simp only[Ywp,Ywk,Bool.false_or];exact Xjh l k (n+1) (by omega)
  ·rfl
theorem Xrl (x:Xb) (hl:x.2.2.2.1.length≤2147483648):Xgi x=some (Xh6 x):=by
 have h0:Xkk x 0=_:=Yvl x.2.2.2.1 (fun b=>!inR b 0 19) (3:Int) (fun i hi=>by
  simp only[Xkk.B,Yxb hi,Yxd hi,Yw0,toNat_cast,getD_lt _ hi,Xf0,Option.bind_some,Yvj (by omega:i<4294967296)]) (by
  simp only[Xkk.B,Yw7 (Nat.le_refl _),Ywp])
 have h1:Xjl x 0=some (cond (Xi3 [] x.2.2.2.1) (.inl 7) (.inr ())):=by
  have:=Yfq (τ:=Unit) x.2.2.2.1 (f:=fun s=>Xjl.B x s) (fun i _=>(i:Int)) (fun i y _=>cond ((x.2.2.2.1.take i).contains y) (.inr (.inl 7)) (.inl ())) (fun _=>(.inr ():Int⊕Unit)) (fun i hi t=>by
   simp only[Xjl.B,Yxb hi,Yw0,Xt6 x hl i hi,Option.bind_some,Yvj (by omega:i<4294967296)]
   cases (x.2.2.2.1.take i).contains x.2.2.2.1[i]<;>rfl) (fun t=>by
   simp only[Xjl.B,Yw7 (Nat.le_refl _),Ywp]) () (s:=0) rfl
  refine Eq.trans this ?_
  congr 1
  exact Xjh x.2.2.2.1 x.2.2.2.1.length 0 (by omega)
 have h8:(!((8:Int) == 0))=true:=rfl;simp only[Xgi,Xne,Xm4,Xf0,Option.bind_some,h8,Yw0,h0,h1,Xh6,Xha,Yvh];cases inR x.2.1 1 60
 ·rfl
 ·cases inR x.2.2.1 0 32
  ·rfl
  ·simp only[Bool.not_true,Ywp]
   cases ((x.2.2.2.1.length:Int) != w64 ((w64 ((w64 (x.2.2.1+8))-1)).tdiv 8))
   ·simp only[Ywp]
    cases x.2.2.2.1.any fun b=>!inR b 0 19
    ·simp only[Ywp,Ywz]
     cases Xi3 [] x.2.2.2.1<;>rfl
    ·rfl
   ·rfl
theorem Xtc (x:Xb) (hl:x.2.2.2.1.length≤2147483648):Xe6 x=some (Xh6 x):=by
 have h0:Xh5 x.2.2.2.1 ()=some (x.2.2.2.1.any fun b=>!inR b 0 19):=by
  have h:Xfy x.2.2.2.1 () (x.2.2.2.1.length:Int) 0=_:=Yvr x.2.2.2.1 (fun b=>!inR b 0 19) (fun i hi=>by
   simp only[Xfy.B,Yxb hi,Yxd hi,Yw0,toNat_cast,getD_lt _ hi,Xj6,Xhx,Option.bind_some,Yvj (by omega:i<4294967296)]) (by
   simp only[Xfy.B,Yw7 (Nat.le_refl _),Ywp]) 0 (Nat.zero_le _)
  simp only[Xh5,Xfs];exact Xdm _ _ h
 have h1:Xdp x x.2.2.2.1 (x.2.2.2.1.length:Int) 0=some (cond (Xi3 [] x.2.2.2.1) (.inl 7) (.inr ())):=by
  have:=Yfq (τ:=Unit) x.2.2.2.1 (f:=fun s=>Xdp.B x x.2.2.2.1 (x.2.2.2.1.length:Int) s) (fun i _=>(i:Int)) (fun i y _=>cond ((x.2.2.2.1.take i).contains y) (.inr (.inl 7)) (.inl ())) (fun _=>(.inr ():Int⊕Unit)) (fun i hi t=>by
   have e1:(decide ((0:Int)≤(i:Int))&&decide ((i:Int)≤(x.2.2.2.1.length:Int)))=true:=by simp;omega
   have e2:=Xps (x.2.2.2.1.take i) x.2.2.2.1[i] (by simp;omega)
   simp only[Xdp.B,Yxb hi,Yxd hi,Yw0,toNat_cast,getD_lt _ hi,e1,List.drop_zero,e2,Option.bind_some,Yvj (by omega:i<4294967296)]
   cases (x.2.2.2.1.take i).contains x.2.2.2.1[i]<;>rfl) (fun t=>by
   simp only[Xdp.B,Yw7 (Nat.le_refl _),Ywp]) () (s:=0) rfl
  refine Eq.trans this ?_
  congr 1
  exact Xjh x.2.2.2.1 x.2.2.2.1.length 0 (by omega)
 have h8:(!((8:Int) == 0))=true:=rfl;simp only[Xe6,Xj0,Xap,Xhx,Option.bind_some,h8,Yw0,h0,h1,Xh6,Xha,Yvh];cases inR x.2.1 1 60
 ·rfl
 ·cases inR x.2.2.1 0 32
  ·rfl
  ·simp only[Bool.not_true,Ywp]
   cases ((x.2.2.2.1.length:Int) != w64 ((w64 ((w64 (x.2.2.1+8))-1)).tdiv 8))
   ·simp only[Ywp]
    cases x.2.2.2.1.any fun b=>!inR b 0 19
    ·simp only[Ywp]
     cases Xi3 [] x.2.2.2.1<;>rfl
    ·rfl
   ·rfl
def Xg8 (prev:Option (List UInt8)) (e:Xc):Int:=
 cond (Xeg e.1 != 0) (Xeg e.1) (cond (!inR e.2.1 0 9) 3 (match prev with | none=>0 | some p=>cond (leB p e.1) 0 1))
def Xey:Option (List UInt8)→List Xc→Int
 |_,[]=>0
 |p,e::l=>cond (Xg8 p e != 0) (Xg8 p e) (Xey (some e.1) l)
def Xma (x:Xb):Int:=cond (decide ((x.2.2.2.2.1.length:Int)>6)) 2 (Xey none x.2.2.2.2.1)
theorem Xol:∀ (a b:List UInt8),(leB a b || a == b) = !leB b a
 |[],[]=>rfl
 |[],_::_=>rfl
 |_::_,[]=>by simp[leB]
 |x::a,y::b=>by
  have ih:=Xol a b;simp only[leB]
  by_cases e:x=y
  ·subst e
   have h:¬ x<x:=UInt8.lt_irrefl x;simp only[h,decide_false,Bool.false_or,beq_self_eq_true,Bool.true_and]
   rw[←ih,show(x::a == x::b)=(a == b) by simp]
  ·have e':¬ y=x:=fun h=>e h.symm
   rw[show(x == y)=false by simp[e],show(y == x)=false by simp[e'],show(x::a == y::b)=false by simp[e]]
   simp only[Bool.false_and,Bool.or_false]
   by_cases h1:x<y
   ·have:¬ y<x:=fun h=>absurd (UInt8.lt_trans h1 h) (UInt8.lt_irrefl x)
    simp[h1,this]
   ·have:y<x:=by
     rw[UInt8.lt_iff_toNat_lt] at *;have:x.toNat≠y.toNat:=fun h=>e (UInt8.toNat_inj.1 h);omega
    simp[h1,this]
def Xe3 (l:List Xc):Nat→Option (List UInt8)
 |0=>none
 |j+1=>(l[j]?).map (·.1)
theorem Xje (l:List Xc):∀ (k n:Nat),n+k=l.length→Ya9 (τ:=Unit) (fun i e _=>cond (Xg8 (Xe3 l i) e != 0) (.inr (.inl (Xg8 (Xe3 l i) e))) (.inl ())) (fun _=>(.inr ():Int⊕Unit)) n (l.drop n) () =
  cond (Xey (Xe3 l n) (l.drop n) != 0) (.inl (Xey (Xe3 l n) (l.drop n))) (.inr ())
 |0,n,h=>by
  have:n=l.length:=by omega
  subst this
  simp[Ya9,Xey]
 |k+1,n,h=>by
  have hn:n<l.length:=by omega
  have hp:Xe3 l (n+1)=some l[n].1:=by simp[Xe3,hn]
  have ih:=Xje l k (n+1) (by omega)
  rw[hp] at ih;rw[List.drop_eq_getElem_cons hn];simp only[Ya9,Xey];generalize Xe3 l n=p;cases hc:(Xg8 p l[n] != 0)
  ·simp only[Ywp,Ywk];exact ih
  ·simp only[Yw0,Ywz,hc]
theorem Xrt (x:Xb) (hb:Bd Xe x):Xi0 x=some (Xma x):=by
 simp only[Xi0,Xma]
 cases hd:decide ((x.2.2.2.2.1.length:Int)>6) with
 |true=>rfl
 |false=>
  have hl:x.2.2.2.2.1.length≤6:=by simp at hd;omega
  have h:Xjc x 0=some (cond (Xey none x.2.2.2.2.1 != 0) (.inl (Xey none x.2.2.2.2.1)) (.inr ())):=by
   have:=Yfq (τ:=Unit) x.2.2.2.2.1 (f:=fun s=>Xjc.B x s) (fun i _=>(i:Int)) (fun i e _=>cond (Xg8 (Xe3 x.2.2.2.2.1 i) e != 0) (.inr (.inl (Xg8 (Xe3 x.2.2.2.2.1 i) e))) (.inl ())) (fun _=>(.inr ():Int⊕Unit)) (fun i hi t=>by
    have hn:(x.2.2.2.2.1[i]).1.length≤2147483648:=(hb.2.2.2.2.1.2 _ (List.getElem_mem hi)).1
    simp only[Xjc.B,Yxb hi,Yxd hi,Yw0,toNat_cast,getD_lt _ hi,Xf0,Xtq _ hn,Option.bind_some,Yvj (by omega:i<4294967296)]
    simp only[Xg8];cases hc:(Xeg (x.2.2.2.2.1[i]).1 != 0)
    ·simp only[Ywp]
     cases inR (x.2.2.2.2.1[i]).2.1 0 9
     ·rfl
     ·simp only[Bool.not_true,Ywp]
      cases i with
      |zero=>rfl
      |succ j=>
       have hj:j<x.2.2.2.2.1.length:=by omega
       have hw:w64 (((j+1:Nat):Int)-1)=(j:Int):=by rw[Yry (by omega) (by omega)];omega
       rw[show decide (((j+1:Nat):Int)>0)=true by simp]
       simp only[Yw0,hw,Yxd hj,toNat_cast,getD_lt _ hj,Xe3,List.getElem?_eq_getElem hj,Option.map_some,Xol]
       cases leB (x.2.2.2.2.1[j]).1 (x.2.2.2.2.1[j+1]).1<;>rfl
    ·simp only[Yw0,hc];rfl) (fun t=>by
    simp only[Xjc.B,Yw7 (Nat.le_refl _),Ywp]) () (s:=0) rfl
   refine Eq.trans this ?_
   congr 1
   exact Xje x.2.2.2.2.1 x.2.2.2.2.1.length 0 (by omega)
  rw[h,Ywp,Ywp,Xax,Xa8]
theorem Xsm (x:Xb) (hb:Bd Xe x):Xe4 x=some (Xma x):=by
 simp only[Xe4,Xma]
 cases hd:decide ((x.2.2.2.2.1.length:Int)>6) with
 |true=>rfl
 |false=>
  have hl:x.2.2.2.2.1.length≤6:=by simp at hd;omega
  have h:Xdw x x.2.2.2.2.1 (x.2.2.2.2.1.length:Int) 0=some (cond (Xey none x.2.2.2.2.1 != 0) (.inl (Xey none x.2.2.2.2.1)) (.inr ())):=by
   have:=Yfq (τ:=Unit) x.2.2.2.2.1 (f:=fun s=>Xdw.B x x.2.2.2.2.1 (x.2.2.2.2.1.length:Int) s) (fun i _=>(i:Int)) (fun i e _=>cond (Xg8 (Xe3 x.2.2.2.2.1 i) e != 0) (.inr (.inl (Xg8 (Xe3 x.2.2.2.2.1 i) e))) (.inl ())) (fun _=>(.inr ():Int⊕Unit)) (fun i hi t=>by
    have hn:(x.2.2.2.2.1[i]).1.length≤2147483648:=(hb.2.2.2.2.1.2 _ (List.getElem_mem hi)).1
    simp only[Xdw.B,Yxb hi,Yxd hi,Yw0,toNat_cast,getD_lt _ hi,Xhx,Xta _ hn,Option.bind_some,Yvj (by omega:i<4294967296)]
    simp only[Xg8];cases hc:(Xeg (x.2.2.2.2.1[i]).1 != 0)
    ·simp only[Ywp]
     cases inR (x.2.2.2.2.1[i]).2.1 0 9
     ·rfl
     ·simp only[Bool.not_true,Ywp]
      cases i with
      |zero=>rfl
      |succ j=>
       have hj:j<x.2.2.2.2.1.length:=by omega
       have hw:w64 (((j+1:Nat):Int)-1)=(j:Int):=by rw[Yry (by omega) (by omega)];omega
       rw[show decide (((j+1:Nat):Int)>0)=true by simp]
       simp only[Yw0,hw,Yxd hj,toNat_cast,getD_lt _ hj,Xe3,List.getElem?_eq_getElem hj,Option.map_some]
       cases leB (x.2.2.2.2.1[j]).1 (x.2.2.2.2.1[j+1]).1<;>rfl
    ·simp only[Yw0,hc];rfl) (fun t=>by
    simp only[Xdw.B,Yw7 (Nat.le_refl _),Ywp]) () (s:=0) rfl
   refine Eq.trans this ?_
   congr 1
   exact Xje x.2.2.2.2.1 x.2.2.2.2.1.length 0 (by omega)
  rw[h,Ywp,Ywp,Xax,Xa8]
def Xt (x:Xb):Int:=
 cond (!inR x.1 0 2) 1 (cond (cond (cond (x.1 != 1) (cond (cond (x.2.1 != 0) true (x.2.2.1 != 0)) true (decide ((x.2.2.2.1.length:Int)>0))) false) true (cond (x.1 != 2) (decide ((x.2.2.2.2.1.length:Int)>0)) false)) 1
  (cond (x.1 == 1) (Xh6 x) (cond (x.1 == 2) (Xma x) 0)))
theorem Xq4 (x:Xb) (hb:Bd Xe x):Xg9 x=some (Xt x):=by
 simp only[Xg9,Xt,Xf0,Xrl x hb.2.2.2.1.1,Xrt x hb,Option.bind_some];simp only[Yvh]
theorem Xof (n:Nat):decide ((n:Int)>0) = !((n:Int) == 0):=by
 rw[Bool.eq_iff_iff];simp only[decide_eq_true_eq,Bool.not_eq_true',beq_eq_false_iff_ne,ne_eq];omega
theorem not_bne (a b:Int):(a == b) = !(a != b):=(Bool.not_not _).symm
theorem Xq1 (x:Xb) (hb:Bd Xe x):Xd8 x=some (Xt x):=by
 simp only[Xd8,Xt,Xhx,Xtc x hb.2.2.2.1.1,Xsm x hb,Option.bind_some];cases inR x.1 0 2
 ·rfl
 ·simp only[Bool.not_true,Ywp]
  have e1:(cond (cond (x.2.1 == 0) (x.2.2.1 == 0) false) ((x.2.2.2.1.length:Int) == 0) false) = !(cond (cond (x.2.1 != 0) true (x.2.2.1 != 0)) true (decide ((x.2.2.2.1.length:Int)>0))):=by
   rw[show(x.2.1 != 0) = !(x.2.1 == 0) from rfl,show(x.2.2.1 != 0) = !(x.2.2.1 == 0) from rfl,Xof]
   cases (x.2.1 == 0)<;>cases (x.2.2.1 == 0)<;>cases ((x.2.2.2.1.length:Int) == 0)<;>rfl
  have e2:(!((x.2.2.2.2.1.length:Int) == 0))=decide ((x.2.2.2.2.1.length:Int)>0):=(Xof _).symm;rw[e1,e2,Bool.not_not]
  cases (cond (cond (x.2.1 != 0) true (x.2.2.1 != 0)) true (decide ((x.2.2.2.1.length:Int)>0)))<;>cases h1:(x.1 != 1)<;>cases h2:(x.1 != 2)<;>cases hd:decide ((x.2.2.2.2.1.length:Int)>0)<;>simp only[Yw0,Ywp]
  all_goals (rw[not_bne x.1 1,not_bne x.1 2,h1,h2])
  all_goals simp only[Bool.not_true,Bool.not_false,Yw0,Ywp]
  all_goals first | rfl | skip
  all_goals (
   have hz:x.2.2.2.2.1=[]:=by simp at hd;exact hd
   have:Xma x=0:=by simp[Xma,hz,Xey]
   rw[this])
def X7 (l:List Xb):Int:=cond (decide ((l.length:Int)>10)) 2 (Yeo Xt l)
theorem Xqz (l:List Xb) (hb:Bd (.sl Xe) l):Xgs l=some (X7 l):=by
 simp only[Xgs,X7]
 cases hd:decide ((l.length:Int)>10) with
 |true=>rfl
 |false=>
  have hl:l.length≤10:=by simp at hd;omega
  have h:Xkb l 0=_:=Yu5 l Xt (fun i hi=>by
   simp only[Xkb.B,Yxb hi,Yxd hi,Yw0,toNat_cast,getD_lt _ hi,Xq4 _ (hb.2 _ (List.getElem_mem hi)),Option.bind_some,Yvj (by omega:i<4294967296)]) (by
   simp only[Xkb.B,Yw7 (Nat.le_refl _),Ywp])
  rw[h,Ywp,Ywp,Xax,Xa8]
theorem Xtw (l:List Xb) (hb:Bd (.sl Xe) l):Xd2 l=some (X7 l):=by
 simp only[Xd2,X7]
 cases hd:decide ((l.length:Int)>10) with
 |true=>rfl
 |false=>
  have hl:l.length≤10:=by simp at hd;omega
  have h:Xfk l (l.length:Int) 0=_:=Yu5 l Xt (fun i hi=>by
   simp only[Xfk.B,Yxb hi,Yxd hi,Yw0,toNat_cast,getD_lt _ hi,Xq1 _ (hb.2 _ (List.getElem_mem hi)),Option.bind_some,Yvj (by omega:i<4294967296)]) (by
   simp only[Xfk.B,Yw7 (Nat.le_refl _),Ywp])
  rw[h,Ywp,Ywp,Xax,Xa8]
def Xaq (l:List Xb):List Int:=l.flatMap fun x=>x.2.2.2.1
theorem Xar {x:Xb} (h:Xt x=0):x.2.2.2.1.length≤4∧(∀ b∈x.2.2.2.1,0≤b∧b≤19)∧(x.1≠1→x.2.2.2.1=[])∧(x.1=1→Xh6 x=0):=by
 unfold Xt at h
 cases h1:inR x.1 0 2 with
 |false=>rw[h1] at h;cases h
 |true=>
  rw[h1] at h;simp only[Bool.not_true,Ywp] at h
  by_cases e:x.1=1
  ·rw[show(x.1 != 1)=false by simp[e]] at h
   cases h2:cond (cond false (cond (cond (x.2.1 != 0) true (x.2.2.1 != 0)) true (decide ((x.2.2.2.1.length:Int)>0))) false) true (cond (x.1 != 2) (decide ((x.2.2.2.2.1.length:Int)>0)) false) with
   |true=>rw[h2] at h;cases h
   |false=>
    rw[h2,show(x.1 == 1)=true by simp[e]] at h
    simp only[Ywp,Yw0] at h;have hf:=h;unfold Xh6 at h
    cases h3:inR x.2.1 1 60 with
    |false=>rw[h3] at h;cases h
    |true=>
     rw[h3] at h
     cases h4:inR x.2.2.1 0 32 with
     |false=>rw[h4] at h;cases h
     |true=>
      rw[h4] at h;simp only[Bool.not_true,Ywp] at h
      cases h5:((x.2.2.2.1.length:Int) != Xha x.2.2.1) with
      |true=>rw[h5] at h;cases h
      |false=>
       rw[h5] at h;simp only[Ywp] at h
       cases h6:(x.2.2.2.1.any fun b=>!inR b 0 19) with
       |true=>rw[h6] at h;cases h
       |false=>
        refine⟨?_,fun b hb=>?_,fun h=>absurd e h,fun _=>hf⟩
        ·have hs:=Xw.1 h4
         have:(x.2.2.2.1.length:Int)=Xha x.2.2.1:=by simpa using h5
         unfold Xha at this
         rw[Yry (x:=x.2.2.1+8) (by omega) (by omega),Yry (x:=x.2.2.1+8-1) (by omega) (by omega),Int.tdiv_eq_ediv_of_nonneg (by omega),Yry (by omega) (by omega)] at this
         omega
        ·have:=List.any_eq_false.1 h6 b hb
         exact Xw.1 (by simpa using this)
  ·rw[show(x.1 != 1)=true by simp[e]] at h
   cases h2:decide ((x.2.2.2.1.length:Int)>0) with
   |true=>
    rw[h2] at h;simp only[Yw0,Yu9] at h
    cases h
   |false=>
    have hz:x.2.2.2.1=[]:=by simp at h2;exact h2
    exact⟨by simp[hz],by simp[hz],fun _=>hz,fun h=>absurd h e⟩
theorem Xas {α:Type} {c:α→Int}:∀ {l:List α},Yeo c l=0↔∀ x∈l,c x=0
 |[]=>by simp[Yeo]
 |x::l=>by
  simp only[Yeo,List.mem_cons,forall_eq_or_imp];cases h:(c x != 0)
  ·have:c x=0:=by simpa using h
   simp only[Ywp,this,true_and];exact Xas
  ·have:c x≠0:=by simpa using h
   simp only[Yw0];exact⟨fun e=>absurd e this,fun e=>absurd e.1 this⟩
theorem Xai {l:List Xb} (h:X7 l=0):l.length≤10∧∀ x∈l,Xt x=0:=by
 unfold X7 at h
 cases h1:decide ((l.length:Int)>10) with
 |true=>rw[h1] at h;cases h
 |false=>rw[h1] at h;exact⟨by simp at h1;omega,Xas.1 h⟩
structure Xcw (l:List Xb):Prop where
 len:l.length≤10
 blk:∀ x∈l,x.2.2.2.1.length≤4∧∀ b∈x.2.2.2.1,0≤b∧b≤19
theorem Xcw.of {l:List Xb} (h:X7 l=0):Xcw l:=
 ⟨(Xai h).1,fun x hx=>⟨(Xar ((Xai h).2 x hx)).1,(Xar ((Xai h).2 x hx)).2.1⟩⟩
theorem Xng:∀ {l:List Xb},(∀ x∈l,x.2.2.2.1.length≤4)→(Xaq l).length≤4*l.length
 |[],h=>by simp[Xaq]
 |x::l,h=>by
  have h1:=h x (List.mem_cons_self ..);have:=Xng (l:=l) fun y hy=>h y (List.mem_cons_of_mem _ hy);simp only[Xaq,List.flatMap_cons,List.length_append,List.length_cons] at *;omega
theorem Xcw.all {l:List Xb} (h:Xcw l):(Xaq l).length≤40∧∀ b∈Xaq l,0≤b∧b≤19:=by
 refine⟨by have:=Xng (l:=l) fun x hx=>(h.blk x hx).1;have:=h.len;omega,fun b hb=>?_⟩
 obtain⟨x,hx,hb⟩:=List.mem_flatMap.1 hb;exact(h.blk x hx).2 b hb
theorem Xtj (l:List Xb) (at_:Int) (i:Nat) (hi:i<l.length) (n:Nat) (hb:l[i].2.2.2.1.length≤4) (hn:n≤1000):Xhn l at_ (i:Int) ((n:Int),0)=some (((n+l[i].2.2.2.1.count at_:Nat):Int)):=by
 have h:=Ym3 (τ:=Nat) l[i].2.2.2.1 (f:=fun s=>Xhn.B l at_ (i:Int) s.1 s.2) (fun k m=>((m:Int),(k:Int))) (fun _ y m=>.inl (m+(if y == at_ then 1 else 0))) (fun m=>((m:Nat):Int)) (fun k m=>m≤n+k)
  (fun k hk m hm=>by
   simp only[Xhn.B,Yxd hi,Yw0,toNat_cast,getD_lt _ hi,Option.bind_some,Yxb hk,Yxd hk,getD_lt _ hk,Yvj (by omega:k<4294967296),Yvj (by omega:m<4294967296),sel]
   cases h:(l[i].2.2.2.1[k] == at_)<;>simp[h])
  (fun k hk m m' hm e=>by cases e;split<;>omega)
  (fun m hm=>by
   simp only[Xhn.B,Yxd hi,Yw0,toNat_cast,getD_lt _ hi,Option.bind_some,Yw7 (Nat.le_refl _),Ywp]) n (by omega) (s:=((n:Int),0)) rfl
 refine Eq.trans h ?_;rw[Ye8]
 congr 2
 have:∀ (l:List Int) (m:Nat),l.foldl (fun t y=>t+(if y == at_ then 1 else 0)) m=m+l.count at_:=by
  intro l
  induction l with
  |nil=>intro m;simp
  |cons y l ih=>intro m;rw[List.foldl_cons,ih,List.count_cons];omega
 exact this _ _
theorem Xqm (l:List Xb) (hok:Xcw l) (at_:Int):Xkp l at_=some ((((Xaq l).count at_:Nat):Int)):=by
 have h:=Ym3 (τ:=Nat) l (f:=fun s=>Xjm.B l at_ s.1 s.2) (fun k m=>((m:Int),(k:Int))) (fun _ x m=>.inl (m+x.2.2.2.1.count at_)) (fun m=>((m:Nat):Int)) (fun k m=>m≤4*k)
  (fun k hk m hm=>by
   have hl:=hok.len
   simp only[Xjm.B,Yxb hk,Yw0,Xtj l at_ k hk m (hok.blk _ (List.getElem_mem hk)).1 (by omega),Option.bind_some,Yvj (by omega:k<4294967296),sel])
  (fun k hk m m' hm e=>by cases e;have:=(hok.blk _ (List.getElem_mem hk)).1;have:=List.count_le_length (a:=at_) (l:=l[k].2.2.2.1);omega)
  (fun m hm=>by simp only[Xjm.B,Yw7 (Nat.le_refl _),Ywp]) 0 (by omega) (s:=(0,0)) rfl
 have h':Xjm l at_ (0,0)=_:=h;simp only[Xkp,h',Option.bind_some];rw[Ye8]
 have:∀ (l:List Xb) (m:Nat),l.foldl (fun t x=>t+x.2.2.2.1.count at_) m=m+(Xaq l).count at_:=by
  intro l
  induction l with
  |nil=>intro m;simp[Xaq]
  |cons y l ih=>intro m;rw[List.foldl_cons,ih];simp only[Xaq,List.flatMap_cons,List.count_append];omega
 rw[this,Nat.zero_add]
def r20:List Int:=(List.range 20).map Int.ofNat
theorem Xn5:r20.length=20:=by simp[r20]
theorem Xqa (k:Nat) (h:k<r20.length):r20[k]=(k:Int):=by simp[r20]
theorem Xqe (a:Int):a∈r20↔0≤a∧a≤19:=by
 simp only[r20,List.mem_map,List.mem_range]
 constructor
 ·rintro⟨k,h1,rfl⟩;simp;omega
 ·intro h;exact⟨a.toNat,by omega,by simp;omega⟩
def Xr9 (l:List Xb):List Int:=r20.filter fun b=>(Xaq l).contains b
def Xgw (l:List Xb):Bool:=decide (Xaq l).Nodup
theorem Xr1 (l:List Xb) (hok:Xcw l):Xjk l=some (Xr9 l,Xgw l):=by
 have h:=Ym3 (τ:=Bool×List Int) r20 (f:=fun s=>Xkf.B l s.1 s.2.1 s.2.2) (fun k t=>(t.1,((k:Int),t.2))) (fun _ b t=>.inl (t.1&&decide ((Xaq l).count b≤1),cond ((Xaq l).contains b) (t.2++[b]) t.2)) (fun t=>t) (fun k t=>t.2.length≤k)
  (fun k hk t ht=>by
   have hk':k<20:=by rw[Xn5] at hk;exact hk
   rw[Xqa k hk]
   have h20:decide ((k:Int)<20)=true:=by simp;omega
   simp only[Xkf.B,h20,Yw0,Xqm l hok,Option.bind_some,Yvj (by omega:k<4294967296),sel]
   have e1:decide ((((Xaq l).count (k:Int):Nat):Int)>0)=(Xaq l).contains (k:Int):=by
    rw[Bool.eq_iff_iff];simp only[decide_eq_true_eq,List.contains_iff_mem,←List.count_pos_iff];omega
   have e2:cond t.1 (decide ((((Xaq l).count (k:Int):Nat):Int)≤1)) false=(t.1&&decide ((Xaq l).count (k:Int)≤1)):=by
    cases t.1
    ·rfl
    ·simp only[Yw0,Bool.true_and];rw[Bool.eq_iff_iff];simp;omega
   rw[e1,e2,Xfd (by simp;omega)]
   cases (Xaq l).contains (k:Int)<;>rfl)
  (fun k hk t t' ht e=>by cases e;simp only;cases (Xaq l).contains _<;>simp<;>omega)
  (fun t ht=>by
   rw[Xn5];rfl) (true,[]) (by simp) (s:=(true,0,[])) rfl
 have h':Xkf l (true,0,[])=_:=h;simp only[Xjk,h',Option.bind_some];rw[Ye8]
 have hf:∀ (m:List Int) (t:Bool×List Int),m.foldl (fun t b=>(t.1&&decide ((Xaq l).count b≤1),cond ((Xaq l).contains b) (t.2++[b]) t.2)) t=(t.1&&m.all fun b=>decide ((Xaq l).count b≤1),t.2++m.filter fun b=>(Xaq l).contains b):=by
  intro m
  induction m with
  |nil=>intro t;simp
  |cons b m ih=>
   intro t;rw[List.foldl_cons,ih,List.all_cons,List.filter_cons]
   cases (Xaq l).contains b<;>simp[Bool.and_assoc]
 rw[hf];simp only[Bool.true_and,List.nil_append]
 congr 2
 rw[Bool.eq_iff_iff];simp only[Xgw,List.all_eq_true,decide_eq_true_eq,List.nodup_iff_count]
 constructor
 ·intro h a
  by_cases ha:a∈Xaq l
  ·have:=hok.all.2 a ha
   exact h a ((Xqe a).2 this)
  ·rw[List.count_eq_zero.2 ha];omega
 ·intro h a _;exact h a
theorem Xkt (s0:List Int) (k0:Nat) (h0:0<k0) (h1:k0<s0.length) (hl:s0.length≤2147483648):∀ (m j k:Nat) (s:List Int),j+m=s0.length-k0→0<j→s.length=s0.length→k<k0+j→∃ (k':Nat) (s':List Int),Xb9 k0 (s0.length-k0) ((k:Int),(j:Int),s)=some ((k':Int),s')∧s'.length=s0.length∧k'<s0.length
 |0,j,k,s,hj,h2,h3,h4=>by
  refine⟨k,s,Y5 ?_,h3,by omega⟩
  simp only[Xb9.B,show decide ((j:Int)<((s0.length-k0:Nat):Int))=false by simp;omega,Ywp]
 |m+1,j,k,s,hj,h2,h3,h4=>by
  have hw:w64 ((j:Int)-1)=((j-1:Nat):Int):=by rw[Yry (by omega) (by omega)];omega
  have hst:∃ k' s',Xb9.B k0 (s0.length-k0) (k:Int) (j:Int) s=some (.inl ((k':Nat),((j+1:Nat):Int),s'))∧s'.length=s0.length∧k'<k0+(j+1):=by
   simp only[Xb9.B,show decide ((j:Int)<((s0.length-k0:Nat):Int))=true by simp;omega,Yxd (by omega:j<s0.length-k0),hw,Yxd (by omega:j-1<s0.length-k0),Yxd (by omega:k<s.length),Yw0,Option.bind_some,toNat_cast,Yvj (by omega:j<4294967296),Yvj (by omega:k<4294967296)]
   cases (s.getD (k0+j) 0 != s.getD (k0+(j-1)) 0)
   ·exact⟨k,s,rfl,h3,by omega⟩
   ·exact⟨k+1,_,rfl,by simpa using h3,by omega⟩
  obtain⟨k1,s1,e1,e2,e3⟩:=hst
  obtain⟨k',s',q1,q2,q3⟩:=Xkt s0 k0 h0 h1 hl m (j+1) k1 s1 (by omega) (by omega) e2 (by omega)
  refine⟨k',s',?_,q2,q3⟩;unfold Xb9;rw[Yar (s':=((k1:Int),((j+1:Nat):Int),s1)) e1];exact q1
theorem Xkz (s:List Int) (hl:s.length≤2147483648):∀ (m n:Nat),n+m=s.length→0<n→
  (Xbe s (n:Int)=some (.inr ())∧∀ i,n≤i→(h:i<s.length)→s[i]≠s[i-1])∨(∃ (k:Nat) (s':List Int),Xbe s (n:Int)=some (.inl (0,k-0,s'))∧s'.length=s.length∧k<s.length∧∃ i,n≤i∧∃ h:i<s.length,s[i]=s[i-1])
 |0,n,hn,h0=>by
  have:n=s.length:=by omega
  subst this
  refine .inl ⟨Y5 ?_,fun i h1 h2=>by omega⟩
  simp only[Xbe.B,Yw7 (Nat.le_refl _),Ywp]
 |m+1,n,hn,h0=>by
  have hlt:n<s.length:=by omega
  have hw:w64 ((n:Int)-1)=((n-1:Nat):Int):=by rw[Yry (by omega) (by omega)];omega
  by_cases he:s[n]=s[n-1]
  ·refine .inr ?_
   obtain⟨k',s',q1,q2,q3⟩:=Xkt s n h0 hlt hl (s.length-n-1) 1 n s (by omega) (by omega) rfl (by omega)
   refine⟨k',splice s' k' (List.replicate (s'.length-k') 0),Y5 ?_,by simp[splice];omega,q3,n,Nat.le_refl _,hlt,he⟩
   have q1':Xb9 n (s.length-n) ((n:Int),1,s)=some ((k':Int),s'):=q1
   simp only[Xbe.B,Yxb hlt,Yxd hlt,hw,Yxd (by omega:n-1<s.length),Yw0,Option.bind_some,toNat_cast,getD_lt _ hlt,getD_lt _ (by omega:n-1<s.length),he,beq_self_eq_true,q1']
   rw[show(decide ((0:Int)≤(n:Int))&&decide ((n:Int)≤(s.length:Int)))=true by simp;omega,show(decide ((0:Int)≤(k':Int))&&decide ((k':Int)≤(s'.length:Int)))=true by simp;omega,
    show(decide ((0:Int)≤(k':Int))&&decide ((k':Int)≤((splice s' k' (List.replicate (s'.length-k') 0)).length:Int)))=true by simp[splice];omega]
   rfl
  ·have hst:Xbe.B s (n:Int)=some (.inl ((n+1:Nat):Int)):=by
    simp only[Xbe.B,Yxb hlt,Yxd hlt,hw,Yxd (by omega:n-1<s.length),Yw0,Option.bind_some,toNat_cast,getD_lt _ hlt,getD_lt _ (by omega:n-1<s.length),Yvj (by omega:n<4294967296)]
    rw[show(s[n] == s[n-1])=false by simp[he]]
    rfl
   unfold Xbe;rw[Yar (f:=fun s_1=>Xbe.B s s_1) hst]
   rcases Xkz s hl m (n+1) (by omega) (by omega) with ⟨q1,q2⟩ | ⟨k,s',q1,q2,q3,i,q4,q5,q6⟩
   ·refine .inl ⟨q1,fun i h1 h2=>?_⟩
    by_cases e:i=n
    ·subst e;exact he
    ·exact q2 i (by omega) h2
   ·exact .inr ⟨k,s',q1,q2,q3,i,by omega,q5,q6⟩
theorem Xnq (s:List Int) (hl:s.length≤2147483648) (hs:s.Pairwise fun a b=>a≤b):∃ r,Xif s=some r∧((r.length:Int) == (s.length:Int))=decide s.Nodup:=by
 simp only[Xif]
 by_cases h2:s.length<2
 ·rw[show decide ((s.length:Int)<2)=true by simp;omega]
  refine⟨s,rfl,?_⟩
  have:s.Nodup:=by
   match s,h2 with
   |[],_=>simp
   |[x],_=>simp
  simp[this]
 ·rw[show decide ((s.length:Int)<2)=false by simp;omega]
  simp only[Ywp]
  have hle:∀ i j,(hij:i≤j)→(hj:j<s.length)→s[i]≤s[j]:=by
   intro i j hij hj;rcases Nat.lt_or_eq_of_le hij with h | h
   ·exact List.pairwise_iff_getElem.1 hs i j _ hj h
   ·subst h;exact Int.le_refl _
  rcases Xkz s hl (s.length-1) 1 (by omega) (by omega) with ⟨q1,q2⟩ | ⟨k,s',q1,q2,q3,i,q4,q5,q6⟩
  ·have q1':Xbe s 1=some (.inr ()):=q1
   rw[q1'];refine⟨s,rfl,?_⟩
   have:s.Nodup:=by
    rw[List.Nodup,List.pairwise_iff_getElem];intro i j hi hj hij he
    have h1:=hle i (j-1) (by omega) (by omega)
    have h2:=hle (j-1) j (by omega) hj
    exact q2 j (by omega) hj (by omega)
   simp[this]
  ·have q1':Xbe s 1=some (.inl (0,k-0,s')):=q1
   rw[q1'];refine⟨_,rfl,?_⟩
   have:¬ s.Nodup:=by
    intro hn
    exact List.pairwise_iff_getElem.1 hn (i-1) i (by omega) q5 (by omega) q6.symm
   simp only[this,decide_false]
   have hlen:((List.drop 0 s').take (k-0)).length=k:=by simp;omega
   rw[hlen];simp;omega
def Xhr (l:List Int):List Int:=l.mergeSort fun x y=>decide (x≤y)
theorem Xmi (l:List Int):(Xhr l).Pairwise fun a b=>a≤b:=by
 have:=List.pairwise_mergeSort (le:=fun x y:Int=>decide (x≤y)) (fun a b c h1 h2=>by simp at *;omega) (fun a b=>by simp;omega) l
 simpa [Xhr] using this
theorem Xlg (l:List Int):(Xhr l).Perm l:=List.mergeSort_perm _ _
theorem Xln (l:List Int):(Xhr l).length=l.length:=(Xlg l).length_eq
theorem Xo8 {l:List Int} (h:l.length≤2147483648):Yuc l=some (Xhr l):=by
 unfold Yuc Xhr;rw[Xfd h];rfl
theorem Xth (l:List Xb) (hok:Xcw l):Xd7 l=some (Xhr (Xaq l),Xgw l):=by
 have hall:=hok.all
 have h:Xez l (l.length:Int) (0,[])=some (l.foldl (fun t x=>t++x.2.2.2.1) []):=
  Yjp l (f:=fun s=>Xez.B l (l.length:Int) s.1 s.2) (fun t x=>t++x.2.2.2.1) id (fun i t=>t.length≤4*i) (fun i hi t ht=>by
   have h4:=(hok.blk _ (List.getElem_mem hi)).1;have hl:=hok.len
   refine⟨?_,by simp;omega⟩
   simp only[Xez.B,Yxb hi,Yxd hi,Yw0,toNat_cast,getD_lt _ hi,Option.bind_some,Yvj (by omega:i<4294967296)]
   rw[Xfd (by simp;omega)];rfl) (fun t ht=>by
   simp only[Xez.B,Yw7 (Nat.le_refl _),Ywp,id]) [] (by simp)
 have h2:∀ (l:List Xb) (t:List Int),l.foldl (fun t x=>t++x.2.2.2.1) t=t++Xaq l:=by
  intro l
  induction l with
  |nil=>intro t;simp[Xaq]
  |cons x l ih=>intro t;rw[List.foldl_cons,ih];simp[Xaq]
 rw[h2,List.nil_append] at h
 obtain⟨r,hr1,hr2⟩:=Xnq (Xhr (Xaq l)) (by rw[Xln];omega) (Xmi _)
 simp only[Xd7,h,Option.bind_some,Xjv,Xo8 (by omega:(Xaq l).length≤2147483648),Xan,Xch (by rw[Xln];omega:(Xhr (Xaq l)).length≤2147483648),hr1,hr2]
 congr 2
 rw[Bool.eq_iff_iff];simp only[Xgw,decide_eq_true_eq];exact(Xlg _).nodup_iff
theorem Xnb:∀ {p:Option (List UInt8)} {l:List Xc},Xey p l=0→∀ e∈l,Xeg e.1=0∧0≤e.2.1∧e.2.1≤9
 |p,[],h,e,he=>by cases he
 |p,x::l,h,e,he=>by
  simp only[Xey] at h
  cases hc:(Xg8 p x != 0) with
  |true=>
   rw[hc] at h
   have:Xg8 p x≠0:=by simpa using hc
   exact absurd h this
  |false=>
   rw[hc] at h;rcases List.mem_cons.1 he with rfl | he
   ·have h0:Xg8 p e=0:=by simpa using hc
    unfold Xg8 at h0
    cases h1:(Xeg e.1 != 0) with
    |true=>rw[h1] at h0;exact absurd h0 (by simpa using h1)
    |false=>
     rw[h1] at h0
     cases h2:inR e.2.1 0 9 with
     |false=>rw[h2] at h0;cases h0
     |true=>exact⟨by simpa using h1,Xw.1 h2⟩
   ·exact Xnb h e he
theorem Xa6 {x:Xb} (h:Xt x=0):(0≤x.1∧x.1≤2)∧x.2.2.2.2.1.length≤6∧(x.1≠2→x.2.2.2.2.1=[])∧(x.1=2→Xma x=0)∧(x.1≠1→x.2.1=0∧x.2.2.1=0)∧∀ e∈x.2.2.2.2.1,Xeg e.1=0∧0≤e.2.1∧e.2.1≤9:=by
 unfold Xt at h
 cases h1:inR x.1 0 2 with
 |false=>rw[h1] at h;cases h
 |true=>
  rw[h1] at h;simp only[Bool.not_true,Ywp] at h;have hk:=Xw.1 h1
  have hz:x.1≠1→x.2.1=0∧x.2.2.1=0:=by
   intro e
   rw[show(x.1 != 1)=true by simp[e]] at h
   cases h2:(x.2.1 != 0) with
   |true=>rw[h2] at h;cases h
   |false=>
    cases h3:(x.2.2.1 != 0) with
    |true=>rw[h2,h3] at h;cases h
    |false=>exact⟨by simpa using h2,by simpa using h3⟩
  cases h2:cond (cond (x.1 != 1) (cond (cond (x.2.1 != 0) true (x.2.2.1 != 0)) true (decide ((x.2.2.2.1.length:Int)>0))) false) true (cond (x.1 != 2) (decide ((x.2.2.2.2.1.length:Int)>0)) false) with
  |true=>rw[h2] at h;cases h
  |false=>
   rw[h2] at h
   by_cases e:x.1=2
   ·rw[show(x.1 == 1)=false by simp[e],show(x.1 == 2)=true by simp[e]] at h
    simp only[Ywp,Yw0] at h;have hd:=h;unfold Xma at h
    cases h3:decide ((x.2.2.2.2.1.length:Int)>6) with
    |true=>rw[h3] at h;cases h
    |false=>
     rw[h3] at h
     exact⟨hk,by simp at h3;omega,fun hh=>absurd e hh,fun _=>hd,hz,Xnb h⟩
   ·rw[show(x.1 != 2)=true by simp[e]] at h2
    have:x.2.2.2.2.1=[]:=by
     cases h3:decide ((x.2.2.2.2.1.length:Int)>0) with
     |true=>
      rw[h3] at h2;exfalso
      revert h2
      generalize cond (x.1 != 1) (cond (cond (x.2.1 != 0) true (x.2.2.1 != 0)) true (decide ((x.2.2.2.1.length:Int)>0))) false=b
      cases b<;>intro h2<;>cases h2
     |false=>simp at h3;exact h3
    exact⟨hk,by simp[this],fun _=>this,fun hh=>absurd hh e,hz,by simp[this]⟩
def Xav (l:List Xb) (e:Xc):Bool:=cond (decide (e.2.1≥(l.length:Int))) true ((l.getD e.2.1.toNat Xa).1 == 0)
def Xb1 (f:Fs_):Int:=cond (X7 f.1 != 0) (X7 f.1) (cond (cond (cond ((f.1.length:Int) == 0) true ((f.1.getD 0 Xa).1 != 2)) true ((f.2.1.length:Int) != 20)) 1 0)
def Xbc (f:Fs_):Int:=cond (Xb1 f != 0) (Xb1 f)
 (cond (f.2.1.any fun b=>decide ((b.length:Int)>8)) 2 (cond (!Xgw f.1) 7 (cond (f.1.any fun x=>x.2.2.2.2.1.any (Xav f.1)) 4 0)))
structure Xf9 (l:List Xb):Prop where
 ent:∀ x∈l,x.2.2.2.2.1.length≤6∧∀ e∈x.2.2.2.2.1,0≤e.2.1∧e.2.1≤9
theorem Xf9.of {l:List Xb} (h:X7 l=0):Xf9 l:=
 ⟨fun x hx=>⟨(Xa6 ((Xai h).2 x hx)).2.1,fun e he=>((Xa6 ((Xai h).2 x hx)).2.2.2.2.2 e he).2⟩⟩
theorem Xti (f:Fs_) (hok:Xcw f.1) (hen:Xf9 f.1) (n:Nat) (hn:n<f.1.length):Xin f (n:Int) 0=some (cond (f.1[n].2.2.2.2.1.any (Xav f.1)) (.inl 4) (.inr ())):=
 Yvl f.1[n].2.2.2.2.1 (f:=fun s=>Xin.B f (n:Int) s) (Xav f.1) (4:Int) (fun i hi=>by
  have hx:=hen.ent _ (List.getElem_mem hn);have he:=hx.2 _ (List.getElem_mem hi)
  simp only[Xin.B,Yxd hn,Yw0,toNat_cast,getD_lt _ hn,Option.bind_some,Yxb hi,Yxd hi,getD_lt _ hi,Yvj (by omega:i<4294967296),Xav]
  by_cases hh:(f.1[n].2.2.2.2.1[i]).2.1≥(f.1.length:Int)
  ·rw[show decide ((f.1[n].2.2.2.2.1[i]).2.1≥(f.1.length:Int))=true by simp[hh]];rfl
  ·rw[show decide ((f.1[n].2.2.2.2.1[i]).2.1≥(f.1.length:Int))=false by simp;omega,show inB (f.1[n].2.2.2.2.1[i]).2.1 f.1.length=true from Yuo he.1 (by omega)]
   rfl) (by
  simp only[Xin.B,Yxd hn,Yw0,toNat_cast,getD_lt _ hn,Option.bind_some,Yw7 (Nat.le_refl _),Ywp])
theorem Xqr (f:Fs_) (hb:Bd Xj f):Xen f=some (Xbc f):=by
 simp only[Xen,Xbc,Xb1,Xqz f.1 hb.1,Option.bind_some]
 cases hi:(X7 f.1 != 0) with
 |true=>simp only[Yw0,hi]
 |false=>
  have h0:X7 f.1=0:=by simpa using hi
  have hok:=Xcw.of h0;have hen:=Xf9.of h0;simp only[Ywp]
  have e1:cond (!((f.1.length:Int) == 0)) (inB 0 f.1.length) true=true:=by
   cases hl:((f.1.length:Int) == 0) with
   |true=>rfl
   |false=>exact Yxd (i:=0) (by
     have:(f.1.length:Int)≠0:=by simpa using hl
     omega)
  rw[e1];simp only[Yw0,show(0:Int).toNat=0 from rfl]
  cases hr:cond (cond ((f.1.length:Int) == 0) true ((f.1.getD 0 Xa).1 != 2)) true ((f.2.1.length:Int) != 20) with
  |true=>rfl
  |false=>
   have hd:f.2.1.length=20:=by
    cases h20:((f.2.1.length:Int) != 20) with
    |false=>have:(f.2.1.length:Int)=20:=by simpa using h20
            omega
    |true=>rw[h20] at hr;cases hh:(cond ((f.1.length:Int) == 0) true ((f.1.getD 0 Xa).1 != 2))<;>rw[hh] at hr<;>cases hr
   have h1:Xkm f 0=_:=Yvl f.2.1 (fun b=>decide ((b.length:Int)>8)) (2:Int) (fun i hi=>by
    simp only[Xkm.B,Yxb hi,Yxd hi,Yw0,toNat_cast,getD_lt _ hi,Option.bind_some,Yvj (by omega:i<4294967296)]) (by
    simp only[Xkm.B,Yw7 (Nat.le_refl _),Ywp])
   have h2:Xka f 0=_:=Yvl f.1 (fun x=>x.2.2.2.2.1.any (Xav f.1)) (4:Int) (fun i hi=>by
    have hl:=hok.len
    simp only[Xka.B,Yxb hi,Yw0,Xti f hok hen i hi,Option.bind_some,Yvj (by omega:i<4294967296)]
    cases (f.1[i].2.2.2.2.1.any (Xav f.1))<;>rfl) (by
    simp only[Xka.B,Yw7 (Nat.le_refl _),Ywp])
   simp only[Ywp,h1,h2,Option.bind_some,Xr1 f.1 hok];cases f.2.1.any fun b=>decide ((b.length:Int)>8)
   ·simp only[Ywp,Ywz]
    cases Xgw f.1
    ·rfl
    ·simp only[Bool.not_true,Ywp]
     cases f.1.any fun x=>x.2.2.2.2.1.any (Xav f.1)<;>rfl
   ·rfl
theorem Xtk (f:Fs_) (hb:Bd Xj f):Xhk f=some (Xb1 f):=by
 simp only[Xhk,Xb1,Xtw f.1 hb.1,Option.bind_some]
 cases hi:(X7 f.1 != 0) with
 |true=>simp only[Yw0]
 |false=>
  simp only[Ywp]
  have e1:cond (!((f.1.length:Int) == 0)) (inB 0 f.1.length) true=true:=by
   cases hl:((f.1.length:Int) == 0) with
   |true=>rfl
   |false=>exact Yxd (i:=0) (by
     have:(f.1.length:Int)≠0:=by simpa using hl
     omega)
  rw[e1];simp only[Yw0,show(0:Int).toNat=0 from rfl,Yvh]
theorem Xk7 {f:Fs_} (h:Xb1 f=0):X7 f.1=0∧0<f.1.length∧(f.1.getD 0 Xa).1=2∧f.2.1.length=20:=by
 unfold Xb1 at h
 cases hi:(X7 f.1 != 0) with
 |true=>rw[hi] at h;exact absurd h (by simpa using hi)
 |false=>
  rw[hi] at h
  refine⟨by simpa using hi,?_⟩
  cases h1:((f.1.length:Int) == 0) with
  |true=>rw[h1] at h;cases h
  |false=>
   rw[h1] at h
   cases h2:((f.1.getD 0 Xa).1 != 2) with
   |true=>rw[h2] at h;cases h
   |false=>
    rw[h2] at h
    cases h3:((f.2.1.length:Int) != 20) with
    |true=>rw[h3] at h;cases h
    |false=>
     have a1:(f.1.length:Int)≠0:=by simpa using h1
     have a3:(f.2.1.length:Int)=20:=by simpa using h3
     exact⟨by omega,by simpa using h2,by omega⟩
theorem Xrv (f:Fs_) (hok:Xcw f.1) (hen:Xf9 f.1) (v2 v3:Int) (x:Xb) (hx:x∈f.1):Xdg f f.1 v2 v3 x.2.2.2.2.1 (x.2.2.2.2.1.length:Int) 0=some (cond (x.2.2.2.2.1.any (Xav f.1)) (.inl 4) (.inr ())):=
 Yvl x.2.2.2.2.1 (f:=fun s=>Xdg.B f f.1 v2 v3 x.2.2.2.2.1 (x.2.2.2.2.1.length:Int) s) (Xav f.1) (4:Int) (fun i hi=>by
  have hx:=hen.ent _ hx;have he:=hx.2 _ (List.getElem_mem hi)
  simp only[Xdg.B,Xfo,Yw0,toNat_cast,Option.bind_some,Yxb hi,Yxd hi,getD_lt _ hi,Yvj (by omega:i<4294967296),Xav]
  by_cases hh:(x.2.2.2.2.1[i]).2.1≥(f.1.length:Int)
  ·rw[show decide ((x.2.2.2.2.1[i]).2.1≥(f.1.length:Int))=true by simp[hh]];rfl
  ·rw[show decide ((x.2.2.2.2.1[i]).2.1≥(f.1.length:Int))=false by simp;omega,show inB (x.2.2.2.2.1[i]).2.1 f.1.length=true from Yuo he.1 (by omega)]
   rfl) (by
  simp only[Xdg.B,Yw7 (Nat.le_refl _),Ywp])
theorem Xq7 (f:Fs_) (hb:Bd Xj f):Xbm f=some (Xbc f):=by
 simp only[Xbm,Xbc,Xtk f hb,Option.bind_some]
 cases hi:(Xb1 f != 0) with
 |true=>simp only[Yw0]
 |false=>
  have h0:Xb1 f=0:=by simpa using hi
  obtain⟨g1,g2,g3,g4⟩:=Xk7 h0;have hok:=Xcw.of g1;have hen:=Xf9.of g1
  have h1:Xis f.2.1 ()=some (f.2.1.any fun b=>decide ((b.length:Int)>8)):=by
   have h:Xf1 f.2.1 () (f.2.1.length:Int) 0=_:=Yvr f.2.1 (fun b=>decide ((b.length:Int)>8)) (fun i hi=>by
    simp only[Xf1.B,Yxb hi,Yxd hi,Yw0,toNat_cast,getD_lt _ hi,Xjt,Option.bind_some,Yvj (by omega:i<4294967296)]) (by
    simp only[Xf1.B,Yw7 (Nat.le_refl _),Ywp]) 0 (Nat.zero_le _)
   simp only[Xis,Xfj];rw[Xdm _ _ h,List.drop_zero]
  have h2:Xfl f f.1 (f.1.length:Int) 0=_:=Yvl f.1 (fun x=>x.2.2.2.2.1.any (Xav f.1)) (4:Int) (fun i hi=>by
   have hl:=hok.len
   simp only[Xfl.B,Yxb hi,Yxd hi,Yw0,toNat_cast,getD_lt _ hi,Option.bind_some,Xrv f hok hen _ _ _ (List.getElem_mem hi),Yvj (by omega:i<4294967296)]
   cases (f.1[i].2.2.2.2.1.any (Xav f.1))<;>rfl) (by
   simp only[Xfl.B,Yw7 (Nat.le_refl _),Ywp])
  simp only[Ywp,h1,h2,Option.bind_some,Xth f.1 hok];cases f.2.1.any fun b=>decide ((b.length:Int)>8)
  ·simp only[Ywp]
   cases Xgw f.1
   ·rfl
   ·simp only[Bool.not_true,Ywp]
    cases f.1.any fun x=>x.2.2.2.2.1.any (Xav f.1)<;>rfl
  ·rfl
structure Xcp (f:Fs_):Prop where
 inod:X7 f.1=0
 pos:0<f.1.length
 root:(f.1.getD 0 Xa).1=2
 dat:f.2.1.length=20
 dl:∀ b∈f.2.1,b.length≤8
 once:Xgw f.1=true
 ent:∀ x∈f.1,∀ e∈x.2.2.2.2.1,0≤e.2.1∧e.2.1<(f.1.length:Int)∧(f.1.getD e.2.1.toNat Xa).1≠0
theorem Xcp.of {f:Fs_} (h:Xbc f=0):Xcp f:=by
 unfold Xbc at h
 cases hi:(Xb1 f != 0) with
 |true=>rw[hi] at h;exact absurd h (by simpa using hi)
 |false=>
  rw[hi] at h
  obtain⟨g1,g2,g3,g4⟩:=Xk7 (by simpa using hi:Xb1 f=0)
  cases h1:(f.2.1.any fun b=>decide ((b.length:Int)>8)) with
  |true=>rw[h1] at h;cases h
  |false=>
   rw[h1] at h
   cases h2:Xgw f.1 with
   |false=>rw[h2] at h;cases h
   |true=>
    rw[h2] at h
    cases h3:(f.1.any fun x=>x.2.2.2.2.1.any (Xav f.1)) with
    |true=>rw[h3] at h;cases h
    |false=>
     refine⟨g1,g2,g3,g4,fun b hb=>?_,h2,fun x hx e he=>?_⟩
     ·have:=List.any_eq_false.1 h1 b hb
      simp at this;omega
     ·have hh:=List.any_eq_false.1 h3 x hx
      have hh2:(x.2.2.2.2.1.any (Xav f.1))=false:=by simpa using hh
      have hb:=List.any_eq_false.1 hh2 e he
      have hb2:Xav f.1 e=false:=by simpa using hb
      have h0:=((Xf9.of g1).ent x hx).2 e he;unfold Xav at hb2
      cases h4:decide (e.2.1≥(f.1.length:Int)) with
      |true=>rw[h4] at hb2;cases hb2
      |false=>
       rw[h4] at hb2
       exact⟨h0.1,by simp at h4;omega,by simpa using hb2⟩
abbrev Xr (l:List Xb) (a:Nat):List Xc:=(l.getD a Xa).2.2.2.2.1
inductive Reach (l:List Xb) (s:Nat):Nat→Prop
 |refl:Reach l s s
 |step {a b:Nat}:Reach l s a→(∃ e∈Xr l a,e.2.1=(b:Int))→Reach l s b
def Xgg (l:List Xb):Prop:=∀ x∈l,x.2.2.2.2.1.length≤6∧∀ e∈x.2.2.2.2.1,0≤e.2.1∧e.2.1<(l.length:Int)
theorem Xcp.Xqt {f:Fs_} (h:Xcp f):Xgg f.1:=fun x hx=>⟨((Xf9.of h.inod).ent x hx).1,fun e he=>⟨(h.ent x hx e he).1,(h.ent x hx e he).2.1⟩⟩
theorem Xct {l:List Xb} (h:Xgg l) {a:Nat} {e:Xc} (he:e∈Xr l a):0≤e.2.1∧e.2.1<(l.length:Int):=by
 unfold Xr at he
 by_cases ha:a<l.length
 ·rw[getD_lt _ ha] at he;exact(h _ (List.getElem_mem ha)).2 e he
 ·rw[List.getD_eq_getElem?_getD,List.getElem?_eq_none (by omega)] at he;cases he
theorem Reach.lt {l:List Xb} (h:Xgg l) {s a:Nat} (hs:s<l.length) (hr:Reach l s a):a<l.length:=by
 induction hr with
 |refl=>exact hs
 |step _ he _=>obtain⟨e,he,h2⟩:=he;have:=Xct h he;omega
abbrev on (b:List Bool) (i:Nat):Prop:=b.getD i false=true
theorem Xa7 {b:List Bool} {i j:Nat}:on (b.set i true) j↔on b j∨(i=j∧i<b.length):=by
 unfold on;rw[List.getD_eq_getElem?_getD,List.getD_eq_getElem?_getD,List.getElem?_set]
 by_cases e:i=j
 ·subst e
  by_cases h:i<b.length
  ·simp[h]
  ·simp[h]
 ·simp[e]
theorem Xpi {b:List Bool} {i:Nat} (h:on b i):i<b.length:=by
 unfold on at h
 by_cases hh:i<b.length
 ·exact hh
 ·rw[List.getD_eq_getElem?_getD,List.getElem?_eq_none (by omega)] at h;cases h
theorem Xrh {b:List Bool} {i:Nat} (h:on b i):b.set i true=b:=by
 have hl:=Xpi h;unfold on at h;rw[getD_lt _ hl] at h
 conv=>lhs;rw[←h]
 exact List.set_getElem_self hl
def Xfm (b:List Bool) (es:List Xc):List Bool:=es.foldl (fun b e=>b.set e.2.1.toNat true) b
theorem Xgm:∀ (es:List Xc) (b:List Bool),(Xfm b es).length=b.length
 |[],b=>rfl
 |e::es,b=>by simp only[Xfm,List.foldl_cons];exact(Xgm es _).trans (by simp)
theorem Xf5:∀ (es:List Xc) (b:List Bool) (j:Nat),on (Xfm b es) j↔on b j∨(j<b.length∧∃ e∈es,e.2.1.toNat=j)
 |[],b,j=>by simp[Xfm]
 |e::es,b,j=>by
  have ih:=Xf5 es (b.set e.2.1.toNat true) j;have:on (Xfm b (e::es)) j↔on (Xfm (b.set e.2.1.toNat true) es) j:=Iff.rfl;rw[this,ih,Xa7,List.length_set]
  constructor
  ·rintro((h | ⟨h1,h2⟩) | ⟨h1,e',h2,h3⟩)
   ·exact .inl h
   ·exact .inr ⟨by omega,e,List.mem_cons_self ..,h1⟩
   ·exact .inr ⟨h1,e',List.mem_cons_of_mem _ h2,h3⟩
  ·rintro(h | ⟨h1,e',h2,h3⟩)
   ·exact .inl (.inl h)
   ·rcases List.mem_cons.1 h2 with rfl | h2
    ·exact .inl (.inr ⟨h3,by omega⟩)
    ·exact .inr ⟨h1,e',h2,h3⟩
theorem Xk5:∀ (es:List Xc) (b:List Bool),(∀ e∈es,on b e.2.1.toNat)→Xfm b es=b
 |[],b,h=>rfl
 |e::es,b,h=>by
  simp only[Xfm,List.foldl_cons];rw[Xrh (h e (List.mem_cons_self ..))];exact Xk5 es b fun x hx=>h x (List.mem_cons_of_mem _ hx)
def Xa5 (l:List Xb):List Nat→List Bool→List Bool
 |[],b=>b
 |i::is,b=>Xa5 l is (cond (b.getD i false) (Xfm b (Xr l i)) b)
def Xgk (l:List Xb) (b:List Bool):Prop:=∀ i,on b i→∀ e∈Xr l i,on b e.2.1.toNat
def Xf6 (l:List Xb) (s:Nat) (b:List Bool):Prop:=∀ j,on b j→Reach l s j
theorem Xhd (l:List Xb):∀ (is:List Nat) (b:List Bool),(Xa5 l is b).length=b.length
 |[],b=>rfl
 |i::is,b=>by simp only[Xa5];rw[Xhd l is];cases b.getD i false<;>simp[Xgm]
theorem Xc3 (l:List Xb):∀ (is:List Nat) (b:List Bool) (j:Nat),on b j→on (Xa5 l is b) j
 |[],b,j,h=>h
 |i::is,b,j,h=>by
  refine Xc3 l is _ j ?_;cases b.getD i false
  ·exact h
  ·exact(Xf5 _ _ _).2 (.inl h)
theorem Xh4 {l:List Xb} (hl:Xgg l) {s:Nat}:∀ (is:List Nat) (b:List Bool),Xf6 l s b→Xf6 l s (Xa5 l is b)
 |[],b,h=>h
 |i::is,b,h=>by
  refine Xh4 hl is _ ?_;cases hi:b.getD i false
  ·exact h
  ·intro j hj
   rcases(Xf5 _ _ _).1 hj with hj | ⟨_,e,he,h2⟩
   ·exact h j hj
   ·have:=Xct hl he
    exact .step (h i hi) ⟨e,he,by omega⟩
theorem Xj1 {l:List Xb}:∀ (is:List Nat) (b:List Bool) (i:Nat),i∈is→on b i→∀ e∈Xr l i,e.2.1.toNat<b.length→on (Xa5 l is b) e.2.1.toNat
 |k::is,b,i,hi,hb,e,he,hlt=>by
  rcases List.mem_cons.1 hi with rfl | hi
  ·refine Xc3 l is _ _ ?_
   rw[hb];exact(Xf5 _ _ _).2 (.inr ⟨hlt,e,he,rfl⟩)
  ·refine Xj1 is _ i hi ?_ e he ?_
   ·cases b.getD k false
    ·exact hb
    ·exact(Xf5 _ _ _).2 (.inl hb)
   ·cases b.getD k false
    ·exact hlt
    ·simpa [Xgm] using hlt
theorem Xbr {l:List Xb}:∀ (is:List Nat) (b:List Bool),Xgk l b→Xa5 l is b=b
 |[],b,h=>rfl
 |i::is,b,h=>by
  simp only[Xa5];cases hi:b.getD i false
  ·exact Xbr is b h
  ·simp only[Yw0]
   rw[Xk5 _ _ (h i hi)];exact Xbr is b h
theorem Xo9:∀ (b c:List Bool),b.length=c.length→(∀ j,on b j→on c j)→b.count true≤c.count true
 |[],[],_,_=>Nat.le_refl _
 |x::b,y::c,hl,h=>by
  have ih:=Xo9 b c (by simpa using hl) fun j hj=>h (j+1) hj
  have h0:=h 0;simp only[List.count_cons]
  cases x<;>cases y<;>simp[on] at h0 ⊢<;>omega
theorem cnt_lt:∀ (b c:List Bool),b.length=c.length→(∀ j,on b j→on c j)→(∃ j,on c j∧¬ on b j)→b.count true<c.count true
 |[],[],_,_,⟨j,h,_⟩=>by have:=Xpi h;simp at this
 |x::b,y::c,hl,h,⟨j,h1,h2⟩=>by
  have h0:=h 0;simp only[List.count_cons]
  cases j with
  |zero=>
   have ih:=Xo9 b c (by simpa using hl) fun j hj=>h (j+1) hj
   cases x<;>cases y<;>simp[on] at h1 h2 h0 ⊢<;>omega
  |succ j=>
   have ih:=cnt_lt b c (by simpa using hl) (fun j hj=>h (j+1) hj) ⟨j,h1,h2⟩
   cases x<;>cases y<;>simp[on] at h0 ⊢<;>omega
def Xao (l:List Xb):Nat→List Bool→List Bool
 |0,b=>b
 |n+1,b=>Xao l n (Xa5 l (List.range l.length) b)
theorem Xgv {l:List Xb} (hl:Xgg l):∀ (n:Nat) (b:List Bool),b.length=l.length→l.length≤n+b.count true→Xgk l (Xao l n b)∧(Xao l n b).length=l.length∧(∀ j,on b j→on (Xao l n b) j)∧∀ s,Xf6 l s b→Xf6 l s (Xao l n b)
 |0,b,hb,hn=>by
  refine⟨fun i hi e he=>?_,hb,fun _ h=>h,fun _ h=>h⟩
  have hall:b.count true=b.length:=by have:=List.count_le_length (a:=true) (l:=b);omega
  have hlt:=(Xct hl he)
  have:b.getD e.2.1.toNat false=b[e.2.1.toNat]'(by omega):=getD_lt _ _
  show b.getD e.2.1.toNat false=true;rw[this]
  exact(List.count_eq_length.1 hall _ (List.getElem_mem _)).symm
 |n+1,b,hb,hn=>by
  simp only[Xao];have hlen:=Xhd l (List.range l.length) b
  by_cases hc:Xgk l b
  ·rw[Xbr _ _ hc]
   have:∀ n,Xao l n b=b:=by
    intro n
    induction n with
    |zero=>rfl
    |succ n ih=>simp only[Xao];rw[Xbr _ _ hc];exact ih
   rw[this];exact⟨hc,hb,fun _ h=>h,fun _ h=>h⟩
  ·obtain⟨i,h1,e,h2,h3⟩:∃ i,on b i∧∃ e∈Xr l i,¬ on b e.2.1.toNat:=by
    unfold Xgk at hc;simp only[Classical.not_forall] at hc;obtain⟨i,h1,e,h2,h3⟩:=hc;exact⟨i,h1,e,h2,h3⟩
   have hlt:=Xct hl h2;have hi:=Xpi h1
   have hs:=cnt_lt b _ hlen.symm (Xc3 l _ b) ⟨_,Xj1 (List.range l.length) b i (List.mem_range.2 (by omega)) h1 e h2 (by omega),h3⟩
   obtain⟨q1,q2,q3,q4⟩:=Xgv hl n _ (by omega) (by omega:l.length≤n+(Xa5 l (List.range l.length) b).count true)
   exact⟨q1,q2,fun j hj=>q3 j (Xc3 l _ b j hj),fun s hs=>q4 s (Xh4 hl _ _ hs)⟩
open Classical in
noncomputable def Xad (l:List Xb) (s:Nat):List Int:=((List.range l.length).filter fun i=>decide (Reach l s i)).map Int.ofNat
theorem Xrf {l:List Xb} (hl:Xgg l) {s:Nat} (hs:s<l.length) {a:Nat}:(a:Int)∈Xad l s↔Reach l s a:=by
 unfold Xad;simp only[List.mem_map,List.mem_filter,List.mem_range,decide_eq_true_eq]
 constructor
 ·rintro⟨i,⟨_,h⟩,e⟩
  have:i=a:=Int.ofNat.inj e;subst this;exact h
 ·intro h;exact⟨a,⟨h.lt hl hs,h⟩,rfl⟩
theorem Xra {l:List Xb} {s:Nat} {v:Int} (h:v∈Xad l s):0≤v∧v<(l.length:Int):=by
 unfold Xad at h;simp only[List.mem_map,List.mem_filter,List.mem_range] at h;obtain⟨i,⟨h1,_⟩,rfl⟩:=h;simp;omega
theorem Xla (l:List Xb) (s:Nat):(Xad l s).length≤l.length:=by
 unfold Xad;rw[List.length_map]
 exact Nat.le_trans (List.length_filter_le _ _) (by simp)
open Classical in
theorem Xku {l:List Xb} {s:Nat} {b:List Bool} (hb:b.length=l.length) (hc:Xgk l b) (hs:Xf6 l s b) (h0:on b s):((List.range b.length).filter fun i=>b.getD i false).map Int.ofNat=Xad l s:=by
 unfold Xad;rw[hb]
 congr 1
 refine List.filter_congr fun i hi=>?_;clear hi;rw[Bool.eq_iff_iff,decide_eq_true_eq]
 constructor
 ·exact hs i
 ·intro h
  induction h with
  |refl=>exact h0
  |step _ he ih=>obtain⟨e,he,h2⟩:=he;have:=hc _ ih e he;rw[h2] at this;exact this
theorem Xpv (b:List Bool) {f:Int×List Int→Option ((Int×List Int)⊕List Int)} (hl:b.length≤1000)
  (hs:∀ (i:Nat) (h:i<b.length) (t:List Int),t.length≤i→f ((i:Int),t)=cond b[i] (some (.inl (((i+1:Nat):Int),t++[(i:Int)]))) (some (.inl (((i+1:Nat):Int),t)))) (he:∀ t,f ((b.length:Int),t)=some (.inr t)) :
  Y9 f (0,[])=some (((List.range b.length).filter fun i=>b.getD i false).map Int.ofNat):=by
 have h:=Ym3 (τ:=List Int) b (f:=f) (fun i t=>((i:Int),t)) (fun i x t=>.inl (cond x (t++[(i:Int)]) t)) id (fun i t=>t.length≤i)
  (fun i hi t ht=>by rw[hs i hi t ht];cases b[i]<;>rfl) (fun i hi t t' ht e=>by cases e;cases b[i]<;>simp<;>omega) (fun t ht=>he t) [] (by simp) (s:=(0,[])) rfl
 rw[h]
 congr 1
 clear h hs he hl
 have:∀ (m:List Bool) (n:Nat) (t:List Int),Ya9 (fun i x t=>.inl (cond x (t++[(i:Int)]) t)) id n m t=t++((List.range' n m.length).filter fun i=>m.getD (i-n) false).map Int.ofNat:=by
  intro m
  induction m with
  |nil=>intro n t;simp[Ya9]
  |cons x m ih=>
   intro n t;simp only[Ya9,Ywk];rw[ih,List.length_cons,List.range'_succ,List.filter_cons]
   have e:(List.range' (n+1) m.length).filter (fun i=>(x::m).getD (i-n) false)=(List.range' (n+1) m.length).filter (fun i=>m.getD (i-(n+1)) false):=by
    refine List.filter_congr fun i hi=>?_;have:=(List.mem_range'_1.1 hi).1
    rw[show i-n=(i-(n+1))+1 by omega];rfl
   rw[e]
   cases x<;>simp
 rw[this b 0 [],List.nil_append,List.range_eq_range'];rfl
theorem Xst (f:Fs_) (hl:Xgg f.1) (hn:f.1.length≤10) (rd:Int) (i:Nat) (hi:i<f.1.length) (b:List Bool) (hb:b.length=f.1.length):Xgp f rd (i:Int) (0,b)=some (cond (b.getD i false) (Xfm b (Xr f.1 i)) b):=by
 have hx:=hl _ (List.getElem_mem hi)
 have he:Xr f.1 i=f.1[i].2.2.2.2.1:=by unfold Xr;rw[getD_lt _ hi]
 cases h0:b.getD i false with
 |false=>
  refine Y5 ?_
  simp only[Xgp.B,Yxd (by omega:i<b.length),Yw0,toNat_cast,h0,Ywp,Option.bind_some]
 |true=>
  rw[he]
  have h:=Yjp f.1[i].2.2.2.2.1 (f:=fun s=>Xgp.B f rd (i:Int) s.1 s.2) (fun(b:List Bool) e=>b.set e.2.1.toNat true) id (fun k c=>c.length=f.1.length∧on c i) (fun k hk c hc=>by
   have hek:=hx.2 _ (List.getElem_mem hk)
   refine⟨?_,by simpa using hc.1,Xa7.2 (.inl hc.2)⟩
   have h1:c.getD i false=true:=hc.2
   simp only[Xgp.B,Yxd (by omega:i<c.length),Yw0,toNat_cast,h1,Yxd hi,getD_lt _ hi,Yxb hk,Option.bind_some,Yxd hk,getD_lt _ hk,Yvj (by omega:k<4294967296)]
   rw[show inB (f.1[i].2.2.2.2.1[k]).2.1 c.length=true from Yuo hek.1 (by omega)];rfl) (fun c hc=>by
   have h1:c.getD i false=true:=hc.2
   simp only[Xgp.B,Yxd (by omega:i<c.length),Yw0,toNat_cast,h1,Yxd hi,getD_lt _ hi,Yw7 (Nat.le_refl _),Option.bind_some,Ywp,id]) b ⟨hb,h0⟩
  exact h
theorem Xs4 (f:Fs_) (hl:Xgg f.1) (hn:f.1.length≤10) (rd:Int) (b:List Bool) (hb:b.length=f.1.length):Xht f rd (0,b)=some (Xa5 f.1 (List.range f.1.length) b):=by
 have h:=Ym3 (τ:=List Bool) f.1 (f:=fun s=>Xht.B f rd s.1 s.2) (fun i b=>((i:Int),b)) (fun i x b=>.inl (cond (b.getD i false) (Xfm b (Xr f.1 i)) b)) id (fun i b=>b.length=f.1.length)
  (fun i hi c hc=>by
   simp only[Xht.B,Yxb hi,Yw0,Xst f hl hn rd i hi c hc,Option.bind_some,Yvj (by omega:i<4294967296),sel]) (fun i hi c c' hc e=>by cases e;cases c.getD i false<;>simp[Xgm,hc]) (fun c hc=>by
   simp only[Xht.B,Yw7 (Nat.le_refl _),Ywp,id]) b hb (s:=(0,b)) rfl
 refine Eq.trans h ?_
 congr 1
 have:∀ (m:List Xb) (n:Nat) (b:List Bool),Ya9 (fun i (x:Xb) b=>.inl (cond (b.getD i false) (Xfm b (Xr f.1 i)) b)) id n m b=Xa5 f.1 (List.range' n m.length) b:=by
  intro m
  induction m with
  |nil=>intro n b;rfl
  |cons x m ih=>intro n b;simp only[Ya9,Ywk,List.length_cons,List.range'_succ,Xa5];exact ih _ _
 rw[this,List.range_eq_range']
theorem Xsb (f:Fs_) (hl:Xgg f.1) (hn:f.1.length≤10) (h0:0<f.1.length):Xmc f=some (Xad f.1 0):=by
 have hz:(List.replicate f.1.length false).length=f.1.length:=by simp
 let b0:=(List.replicate f.1.length false).set 0 true
 have hb0:b0.length=f.1.length:=by simp[b0]
 have hon:on b0 0:=Xa7.2 (.inr ⟨rfl,by omega⟩)
 have hcnt:1≤b0.count true:=by
  have:true∈b0:=by
   have h1:b0[0]'(by omega)=true:=by rw[←getD_lt false (by omega:0<b0.length)];exact hon
   rw[←h1];exact List.getElem_mem _
  exact List.count_pos_iff.2 this
 have hsnd:Xf6 f.1 0 b0:=by
  intro j hj;rcases Xa7.1 hj with h | ⟨rfl,_⟩
  ·unfold on at h;rw[List.getD_eq_getElem?_getD,List.getElem?_replicate] at h;split at h<;>simp at h
  ·exact .refl
 obtain⟨q1,q2,q3,q4⟩:=Xgv hl f.1.length b0 hb0 (by omega)
 have h1:Xiv f (0,b0)=some (Xao f.1 f.1.length b0):=by
  have h:=Ym3 (τ:=List Bool) f.1 (f:=fun s=>Xiv.B f s.1 s.2) (fun i b=>((i:Int),b)) (fun i x b=>.inl (Xa5 f.1 (List.range f.1.length) b)) id (fun i b=>b.length=f.1.length)
   (fun i hi c hc=>by
    simp only[Xiv.B,Yxb hi,Yw0,Xs4 f hl hn i c hc,Option.bind_some,Yvj (by omega:i<4294967296),sel]) (fun i hi c c' hc e=>by cases e;rw[Xhd,hc]) (fun c hc=>by
    simp only[Xiv.B,Yw7 (Nat.le_refl _),Ywp,id]) b0 hb0 (s:=(0,b0)) rfl
  refine Eq.trans h ?_
  congr 1
  have:∀ (m:List Xb) (n:Nat) (b:List Bool),Ya9 (fun i (x:Xb) b=>.inl (Xa5 f.1 (List.range f.1.length) b)) id n m b=Xao f.1 m.length b:=by
   intro m
   induction m with
   |nil=>intro n b;rfl
   |cons x m ih=>intro n b;simp only[Ya9,Ywk,List.length_cons,Xao];exact ih _ _
  exact this _ _ _
 have h3:Xiu (Xao f.1 f.1.length b0) (0,[])=some (Xad f.1 0):=by
  have h:=Xpv (Xao f.1 f.1.length b0) (f:=fun s=>Xiu.B (Xao f.1 f.1.length b0) s.1 s.2) (by omega) (fun i hi t ht=>by
   simp only[Xiu.B,Yxb hi,Yxd hi,Yw0,toNat_cast,getD_lt _ hi,Yvj (by omega:i<4294967296)]
   rw[Xfd (by simp;omega)];rfl) (fun t=>by
   simp only[Xiu.B,Yw7 (Nat.le_refl _),Ywp])
  refine Eq.trans h ?_;rw[Xku q2 q1 (q4 0 hsnd) (q3 0 hon)]
 simp only[Xmc]
 rw[show(decide ((0:Int)≤(f.1.length:Int))&&(decide ((f.1.length:Int)≤(f.1.length:Int))&&decide ((f.1.length:Int)≤2147483648)))=true by simp;omega]
 rw[show((f.1.length:Int)).toNat=f.1.length from toNat_cast _,hz,show inB 0 f.1.length=true from Yxd (i:=0) h0];simp only[Yw0,Option.bind_some,show(0:Int).toNat=0 from rfl];rw[show(List.replicate f.1.length false).set 0 true=b0 from rfl,h1];simp only[Option.bind_some,h3]
theorem Xn8:∀ (b:List Bool) (i:Nat),i<b.length→b.getD i false=false→(b.set i true).count false+1=b.count false
 |x::b,0,h,hf=>by
  have:x=false:=by simpa using hf
  subst this;simp
 |x::b,i+1,h,hf=>by
  have ih:=Xn8 b i (by simpa using h) (by simpa using hf)
  simp only[List.set_cons_succ,List.count_cons];omega
theorem Xt2 (l:List Xb) (es:List Xc) (v2:Int) (hv:v2=(es.length:Int)) (seen:List Bool) (op:List Int) (h6:es.length≤6) (ho:op.length≤1000):Xde l es v2 seen (0,op)=some (op++es.map fun e=>e.2.1):=by
 subst hv
 exact Yvb es (f:=fun s=>Xde.B l es (es.length:Int) seen s.1 s.2) (fun e=>e.2.1) id op.length (fun i hi t ht=>by
  simp only[Xde.B,Yxb hi,Yxd hi,Yw0,toNat_cast,getD_lt _ hi,Yvj (by omega:i<4294967296)]
  rw[Xfd (by simp;omega)];rfl) (fun t ht=>by
  simp only[Xde.B,Yw7 (Nat.le_refl _),Ywp,id]) op rfl
theorem Xlm {op:List Int} (h:0<op.length):op.take (op.length-1)++[op.getD (op.length-1) 0]=op:=by
 have h1:op.length-1<op.length:=by omega
 rw[getD_lt _ h1];have:=List.take_append_drop (op.length-1) op
 rw[List.drop_eq_getElem_cons h1,show op.length-1+1=op.length by omega,List.drop_length] at this
 exact this
theorem Xpj {l:List Xb} (hl:Xgg l) (hn:l.length≤10) (s:Nat) (hs:s<l.length):∀ (m:Nat) (seen:List Bool) (op:List Int),7*seen.count false+op.length≤m→m≤100→seen.length=l.length→Xf6 l s seen→
  (∀ v∈op,∃ a:Nat,v=(a:Int)∧Reach l s a)→(∀ i,on seen i→∀ e∈Xr l i,on seen e.2.1.toNat∨e.2.1∈op)→
  ∃ b,Xbu l (seen,op)=some b∧b.length=l.length∧Xgk l b∧Xf6 l s b∧(∀ j,on seen j→on b j)∧∀ v∈op,on b v.toNat
 |m,seen,op,hm,hm2,h1,h2,h3,h4=>by
  by_cases ho:op.length=0
  ·have:op=[]:=List.length_eq_zero_iff.1 ho
   subst this
   refine⟨seen,Y5 ?_,h1,fun i hi e he=>?_,h2,fun _ h=>h,fun v hv=>by cases hv⟩
   ·simp only[Xbu.B];rfl
   ·rcases h4 i hi e he with h | h
    ·exact h
    ·cases h
  ·have hpos:0<op.length:=by omega
   have hw:w64 ((op.length:Int)-1)=((op.length-1:Nat):Int):=by rw[Yry (by omega) (by omega)];omega
   have hsp:=Xlm hpos;generalize hv:op.getD (op.length-1) 0=v at hsp;generalize hq:op.take (op.length-1)=q at hsp
   have hql:q.length=op.length-1:=by rw[←hq];simp
   obtain⟨a,rfl,ha⟩:=h3 v (by rw[←hsp];simp)
   have hal:=ha.lt hl hs
   have hB:Xbu.B l seen op=cond (seen.getD a false) (some (.inl (seen,q))) (some (.inl (seen.set a true,q++(Xr l a).map fun e=>e.2.1))):=by
    have e6:(Xr l a).length≤6:=by unfold Xr;rw[getD_lt _ hal];exact(hl _ (List.getElem_mem hal)).1
    simp only[Xbu.B,show decide ((op.length:Int)>0)=true by simp;omega,Yw0,hw,Yxd (by omega:op.length-1<op.length),toNat_cast,hv,Option.bind_some]
    rw[show(decide ((0:Int)≤((op.length-1:Nat):Int))&&decide (((op.length-1:Nat):Int)≤(op.length:Int)))=true by rw[Bool.and_eq_true,decide_eq_true_eq,decide_eq_true_eq];omega,List.drop_zero,Nat.sub_zero,hq]
    simp only[Yw0,Yxd (by omega:a<seen.length),Yxd hal,Xt2 l (Xr l a) _ rfl _ q e6 (by omega),Option.bind_some]
   cases hsn:seen.getD a false with
   |true=>
    rw[hsn] at hB
    obtain⟨b,q1,q2,q3,q4,q5,q6⟩:=Xpj hl hn s hs (m-1) seen q (by omega) (by omega) h1 h2 (fun v hv=>h3 v (by rw[←hsp];simp[hv])) (fun i hi e he=>by
     rcases h4 i hi e he with h | h
     ·exact .inl h
     ·rw[←hsp] at h
      rcases List.mem_append.1 h with h | h
      ·exact .inr h
      ·have:e.2.1=(a:Int):=by simpa using h
       rw[this];exact .inl hsn)
    refine⟨b,?_,q2,q3,q4,q5,fun v hv=>?_⟩
    ·unfold Xbu
     rw[Yar (f:=fun s=>Xbu.B l s.1 s.2) (s:=(seen,op)) (s':=(seen,q)) hB];exact q1
    ·rw[←hsp] at hv
     rcases List.mem_append.1 hv with h | h
     ·exact q6 v h
     ·have:v=(a:Int):=by simpa using h
      rw[this];exact q5 a hsn
   |false=>
    rw[hsn] at hB
    have e6:(Xr l a).length≤6:=by unfold Xr;rw[getD_lt _ hal];exact(hl _ (List.getElem_mem hal)).1
    have hc:=Xn8 seen a (by omega) hsn
    have hon:on (seen.set a true) a:=Xa7.2 (.inr ⟨rfl,by omega⟩)
    obtain⟨b,q1,q2,q3,q4,q5,q6⟩:=Xpj hl hn s hs (m-1) (seen.set a true) (q++(Xr l a).map fun e=>e.2.1) (by simp;omega) (by omega) (by simpa using h1) (fun j hj=>by
      rcases Xa7.1 hj with h | ⟨rfl,_⟩
      ·exact h2 j h
      ·exact ha) (fun v hv=>by
      rcases List.mem_append.1 hv with h | h
      ·exact h3 v (by rw[←hsp];simp[h])
      ·obtain⟨e,he,rfl⟩:=List.mem_map.1 h
       have:=Xct hl he
       exact⟨e.2.1.toNat,by omega,.step ha ⟨e,he,by omega⟩⟩) (fun i hi e he=>by
      rcases Xa7.1 hi with h | ⟨rfl,_⟩
      ·rcases h4 i h e he with h | h
       ·exact .inl (Xa7.2 (.inl h))
       ·rw[←hsp] at h
        rcases List.mem_append.1 h with h | h
        ·exact .inr (List.mem_append_left _ h)
        ·have:e.2.1=(a:Int):=by simpa using h
         rw[this];exact .inl hon
      ·exact .inr (List.mem_append_right _ (List.mem_map.2 ⟨e,he,rfl⟩)))
    refine⟨b,?_,q2,q3,q4,fun j hj=>q5 j (Xa7.2 (.inl hj)),fun v hv=>?_⟩
    ·unfold Xbu
     rw[Yar (f:=fun s=>Xbu.B l s.1 s.2) (s:=(seen,op)) (s':=(seen.set a true,q++(Xr l a).map fun e=>e.2.1)) hB];exact q1
    ·rw[←hsp] at hv
     rcases List.mem_append.1 hv with h | h
     ·exact q6 v (List.mem_append_left _ h)
     ·have:v=(a:Int):=by simpa using h
      rw[this];exact q5 a hon
termination_by m=>m
decreasing_by all_goals omega
theorem Xsf {l:List Xb} (hl:Xgg l) (hn:l.length≤10) (s:Nat) (hs:s<l.length):Xg3 l (s:Int)=some (Xad l s):=by
 obtain⟨b,q1,q2,q3,q4,_,q6⟩:=Xpj hl hn s hs 71 (List.replicate l.length false) [(s:Int)] (by simp;omega) (by omega) (by simp) (fun j hj=>by
   unfold on at hj;rw[List.getD_eq_getElem?_getD,List.getElem?_replicate] at hj;split at hj<;>simp at hj) (fun v hv=>⟨s,by simpa using hv,.refl⟩) (fun j hj=>by
   unfold on at hj;rw[List.getD_eq_getElem?_getD,List.getElem?_replicate] at hj;split at hj<;>simp at hj)
 have h2:Xei (b.length:Int) b (0,[])=some (Xad l s):=by
  have h:=Xpv b (f:=fun s=>Xei.B (b.length:Int) b s.1 s.2) (by omega) (fun i hi t ht=>by
   simp only[Xei.B,Yxb hi,Yxd hi,Yw0,toNat_cast,getD_lt _ hi,Yvj (by omega:i<4294967296)]
   rw[Xfd (by simp;omega)];rfl) (fun t=>by
   simp only[Xei.B,Yw7 (Nat.le_refl _),Ywp])
  refine Eq.trans h ?_;rw[Xku q2 q3 q4 (q6 _ (List.mem_cons_self ..))]
 simp only[Xg3]
 rw[show(decide ((0:Int)≤(l.length:Int))&&(decide ((l.length:Int)≤(l.length:Int))&&decide ((l.length:Int)≤2147483648)))=true by simp;omega,show((l.length:Int)).toNat=l.length from toNat_cast _]
 simp only[Yw0,q1,Option.bind_some,h2]
def Xm2 (l:List Xb):List Int:=l.flatMap fun x=>x.2.2.2.2.1.map fun e=>e.2.1
def Xa4 (l:List Xb) (a:Int):Int:=(((Xm2 l).count a:Nat):Int)
theorem Xlc (a:Int):∀ (l:List Xc) (m:Nat),l.foldl (fun t e=>t+(if e.2.1 == a then 1 else 0)) m=m+(l.map fun e=>e.2.1).count a
 |[],m=>by simp
 |y::l,m=>by rw[List.foldl_cons,Xlc a l,List.map_cons,List.count_cons];omega
theorem Xqq (l:List Xb) (hl:∀ x∈l,x.2.2.2.2.1.length≤6) (hn:l.length≤10) (a:Int):Xjd l a=some (Xa4 l a):=by
 have h1:∀ (i:Nat) (hi:i<l.length) (n:Nat),n≤1000→Xhz l a (i:Int) ((n:Int),0)=some (((n+(l[i].2.2.2.2.1.map fun e=>e.2.1).count a:Nat):Int)):=by
  intro i hi n hn;have h6:=hl _ (List.getElem_mem hi)
  have h:=Ym3 (τ:=Nat) l[i].2.2.2.2.1 (f:=fun s=>Xhz.B l a (i:Int) s.1 s.2) (fun k m=>((m:Int),(k:Int))) (fun _ e m=>.inl (m+(if e.2.1 == a then 1 else 0))) (fun m=>((m:Nat):Int)) (fun k m=>m≤n+k)
   (fun k hk m hm=>by
    simp only[Xhz.B,Yxd hi,Yw0,toNat_cast,getD_lt _ hi,Option.bind_some,Yxb hk,Yxd hk,getD_lt _ hk,Yvj (by omega:k<4294967296),Yvj (by omega:m<4294967296),sel]
    cases h:((l[i].2.2.2.2.1[k]).2.1 == a)<;>simp[h])
   (fun k hk m m' hm e=>by cases e;split<;>omega)
   (fun m hm=>by
    simp only[Xhz.B,Yxd hi,Yw0,toNat_cast,getD_lt _ hi,Option.bind_some,Yw7 (Nat.le_refl _),Ywp]) n (by omega) (s:=((n:Int),0)) rfl
  refine Eq.trans h ?_;rw[Ye8,Xlc]
 have h:=Ym3 (τ:=Nat) l (f:=fun s=>Xiy.B l a s.1 s.2) (fun k m=>((m:Int),(k:Int))) (fun _ x m=>.inl (m+(x.2.2.2.2.1.map fun e=>e.2.1).count a)) (fun m=>((m:Nat):Int)) (fun k m=>m≤6*k)
  (fun k hk m hm=>by
   simp only[Xiy.B,Yxb hk,Yw0,h1 k hk m (by omega),Option.bind_some,Yvj (by omega:k<4294967296),sel])
  (fun k hk m m' hm e=>by cases e;have:=hl _ (List.getElem_mem hk);have:=List.count_le_length (a:=a) (l:=l[k].2.2.2.2.1.map fun e=>e.2.1);simp at this;omega)
  (fun m hm=>by simp only[Xiy.B,Yw7 (Nat.le_refl _),Ywp]) 0 (by omega) (s:=(0,0)) rfl
 have h':Xiy l a (0,0)=_:=h;simp only[Xjd,h',Option.bind_some];rw[Ye8]
 have:∀ (l:List Xb) (m:Nat),l.foldl (fun t x=>t+(x.2.2.2.2.1.map fun e=>e.2.1).count a) m=m+(Xm2 l).count a:=by
  intro l
  induction l with
  |nil=>intro m;simp[Xm2]
  |cons y l ih=>intro m;rw[List.foldl_cons,ih];simp only[Xm2,List.flatMap_cons,List.count_append];omega
 rw[this,Nat.zero_add];rfl
theorem Xs1 (l:List Xb) (hl:∀ x∈l,x.2.2.2.2.1.length≤6) (hn:l.length≤10) (a:Int):Xir l a=some (Xa4 l a):=by
 have h1:∀ (v v2:Int) (x:Xb) (h6:x.2.2.2.2.1.length≤6) (n:Nat),n≤1000→Xcz a l v v2 x.2.2.2.2.1 (x.2.2.2.2.1.length:Int) ((n:Int),0)=some (((n+(x.2.2.2.2.1.map fun e=>e.2.1).count a:Nat):Int)):=by
  intro v v2 x h6 n hn
  have h:=Ym3 (τ:=Nat) x.2.2.2.2.1 (f:=fun s=>Xcz.B a l v v2 x.2.2.2.2.1 (x.2.2.2.2.1.length:Int) s.1 s.2) (fun k m=>((m:Int),(k:Int))) (fun _ e m=>.inl (m+(if e.2.1 == a then 1 else 0))) (fun m=>((m:Nat):Int)) (fun k m=>m≤n+k)
   (fun k hk m hm=>by
    simp only[Xcz.B,Yw0,toNat_cast,Option.bind_some,Yxb hk,Yxd hk,getD_lt _ hk,Yvj (by omega:k<4294967296),Yvj (by omega:m<4294967296),sel]
    cases h:((x.2.2.2.2.1[k]).2.1 == a)<;>simp[h])
   (fun k hk m m' hm e=>by cases e;split<;>omega)
   (fun m hm=>by
    simp only[Xcz.B,Yw7 (Nat.le_refl _),Ywp]) n (by omega) (s:=((n:Int),0)) rfl
  refine Eq.trans h ?_;rw[Ye8,Xlc]
 have h:=Ym3 (τ:=Nat) l (f:=fun s=>Xew.B a l (l.length:Int) s.1 s.2) (fun k m=>((m:Int),(k:Int))) (fun _ x m=>.inl (m+(x.2.2.2.2.1.map fun e=>e.2.1).count a)) (fun m=>((m:Nat):Int)) (fun k m=>m≤6*k)
  (fun k hk m hm=>by
   simp only[Xew.B,Yxb hk,Yxd hk,Yw0,toNat_cast,getD_lt _ hk,h1 _ _ _ (hl _ (List.getElem_mem hk)) m (by omega),Option.bind_some,Yvj (by omega:k<4294967296),sel])
  (fun k hk m m' hm e=>by cases e;have:=hl _ (List.getElem_mem hk);have:=List.count_le_length (a:=a) (l:=l[k].2.2.2.2.1.map fun e=>e.2.1);simp at this;omega)
  (fun m hm=>by simp only[Xew.B,Yw7 (Nat.le_refl _),Ywp]) 0 (by omega) (s:=(0,0)) rfl
 have h':Xew a l (l.length:Int) (0,0)=_:=h;simp only[Xir,h',Option.bind_some];rw[Ye8]
 have:∀ (l:List Xb) (m:Nat),l.foldl (fun t x=>t+(x.2.2.2.2.1.map fun e=>e.2.1).count a) m=m+(Xm2 l).count a:=by
  intro l
  induction l with
  |nil=>intro m;simp[Xm2]
  |cons y l ih=>intro m;rw[List.foldl_cons,ih];simp only[Xm2,List.flatMap_cons,List.count_append];omega
 rw[this,Nat.zero_add];rfl
noncomputable def Xe7 (l:List Xb) (i:Nat) (x:Xb):Bool:=
 cond (x.1 == 0) false (cond (x.1 == 1) (cond (Xa4 l i != x.2.1) true (!(Xad l 0).contains (i:Int))) (cond ((i:Int) == 0) (cond (Xa4 l i != 0) true (!(Xad l 0).contains (i:Int))) (cond (Xa4 l i != 1) true (!(Xad l 0).contains (i:Int)))))
noncomputable def Xef (l:List Xb):Bool:=(List.range l.length).any fun i=>Xe7 l i (l.getD i Xa)
theorem Xjg {α ρ:Type} (l:List α) (d:α) {f:Int→Option (Int⊕(ρ⊕Unit))} (p:Nat→α→Bool) (r:ρ)
  (hs:∀ (i:Nat) (h:i<l.length),f (i:Int)=cond (p i l[i]) (some (.inr (.inl r))) (some (.inl ((i+1:Nat):Int)))) (he:f (l.length:Int)=some (.inr (.inr ()))) :
  Y9 f 0=some (cond ((List.range l.length).any fun i=>p i (l.getD i d)) (.inl r) (.inr ())):=by
 refine Yvl (List.range l.length) (fun i=>p i (l.getD i d)) r (fun i hi=>?_) (by rw[List.length_range];exact he)
 have hi':i<l.length:=by simpa using hi
 rw[hs i hi',List.getElem_range,getD_lt _ hi']
theorem Xsi (f:Fs_) (h:Xcp f):Xjj f=some (!Xef f.1):=by
 have hn:=(Xcw.of h.inod).len;have h6:∀ x∈f.1,x.2.2.2.2.1.length≤6:=fun x hx=>((Xf9.of h.inod).ent x hx).1;have hrl:=Xla f.1 0
 have hl:Xkh f (Xad f.1 0) 0=_:=Xjg f.1 Xa (Xe7 f.1) false (fun i hi=>by
  simp only[Xkh.B,Yxb hi,Yxd hi,Yw0,toNat_cast,getD_lt _ hi,Xqq f.1 h6 hn,Xtl _ _ (by omega:(Xad f.1 0).length≤2147483648),Option.bind_some,Yvj (by omega:i<4294967296),Xe7]
  cases (f.1[i].1 == 0)
  ·simp only[Ywp]
   cases (f.1[i].1 == 1)
   ·simp only[Ywp]
    cases ((i:Int) == 0)
    ·simp only[Ywp]
     cases (Xa4 f.1 (i:Int) != 1)
     ·simp only[Ywp]
     ·rfl
    ·simp only[Yw0]
     cases (Xa4 f.1 (i:Int) != 0)
     ·simp only[Ywp]
     ·rfl
   ·simp only[Yw0]
    cases (Xa4 f.1 (i:Int) != f.1[i].2.1)
    ·simp only[Ywp]
    ·rfl
  ·rfl) (by simp only[Xkh.B,Yw7 (Nat.le_refl _),Ywp])
 simp only[Xjj,Xsb f h.Xqt hn h.pos,Option.bind_some,hl,Xef]
 cases (List.range f.1.length).any fun i=>Xe7 f.1 i (f.1.getD i Xa)<;>rfl
theorem Xrm (f:Fs_) (h:Xcp f):Xdr f=some (cond (Xef f.1) 1 0):=by
 have hn:=(Xcw.of h.inod).len;have h6:∀ x∈f.1,x.2.2.2.2.1.length≤6:=fun x hx=>((Xf9.of h.inod).ent x hx).1;have hrl:=Xla f.1 0
 have hl:Xfx f f.1 (f.1.length:Int) (Xad f.1 0) 0=_:=Xjg f.1 Xa (Xe7 f.1) (1:Int) (fun i hi=>by
  have hk:=(Xa6 ((Xai h.inod).2 _ (List.getElem_mem hi))).1
  simp only[Xfx.B,Yxb hi,Yxd hi,Yw0,toNat_cast,getD_lt _ hi,Xs1 f.1 h6 hn,Xps _ _ (by omega:(Xad f.1 0).length≤2147483648),Option.bind_some,Yvj (by omega:i<4294967296),Xe7]
  generalize hx:f.1[i]=x at hk
  by_cases e0:x.1=0
  ·rw[show(x.1 == 0)=true by simp[e0],show(x.1 == 1)=false by simp[e0],show(x.1 == 2)=false by simp[e0],show(x.1 != 0)=false by simp[e0]];rfl
  ·by_cases e1:x.1=1
   ·rw[show(x.1 == 0)=false by simp[e0],show(x.1 == 1)=true by simp[e1],show(x.1 == 2)=false by simp[e1],show(x.1 != 0)=true by simp[e0],show(x.2.1 != Xa4 f.1 (i:Int))=(Xa4 f.1 (i:Int) != x.2.1) by rw[bne,bne,Bool.beq_comm]]
    simp only[Yw0,Ywp]
    cases (Xa4 f.1 (i:Int) != x.2.1)<;>rfl
   ·have e2:x.1=2:=by omega
    rw[show(x.1 == 0)=false by simp[e0],show(x.1 == 1)=false by simp[e1],show(x.1 == 2)=true by simp[e2],show(x.1 != 0)=true by simp[e0]]
    simp only[Yw0,Ywp]
    cases i with
    |zero=>
     rw[show(((0:Nat):Int) == 0)=true from rfl,show decide (((0:Nat):Int)>0)=false from rfl];simp only[Yw0,Ywp]
     cases (Xa4 f.1 ((0:Nat):Int) != 0)<;>rfl
    |succ j=>
     rw[show(((j+1:Nat):Int) == 0)=false by simp;omega,show decide (((j+1:Nat):Int)>0)=true by simp]
     simp only[Yw0,Ywp]
     cases (Xa4 f.1 ((j+1:Nat):Int) != 1)<;>rfl) (by simp only[Xfx.B,Yw7 (Nat.le_refl _),Ywp])
 have hr:Xg3 f.1 0=some (Xad f.1 0):=Xsf h.Xqt hn 0 h.pos;simp only[Xdr,hr,Option.bind_some,hl,Xef]
 cases (List.range f.1.length).any fun i=>Xe7 f.1 i (f.1.getD i Xa)<;>rfl
def Xby (a b:Int):Int:=cond (decide (a<b)) a b
theorem Xn7 (a b:Int):Xf2 a b=some (Xby a b):=by simp only[Xf2,Xby,Yvh]
theorem Xm1 (a b:Int):cond (decide (a<b)) a b=Xby b a:=by
 unfold Xby
 by_cases h1:a<b
 ·rw[show decide (a<b)=true by simp[h1],show decide (b<a)=false by simp;omega];rfl
 ·by_cases h2:b<a
  ·rw[show decide (a<b)=false by simp;omega,show decide (b<a)=true by simp[h2]];rfl
  ·have:a=b:=by omega
   subst this;simp
def Xbv (x:Xb):Nat→List Int→List Int→List Int
 |_,[],w=>w
 |k,b::bs,w=>Xbv x (k+1) bs (w.set b.toNat (Xby 8 (w64 (x.2.2.1-w64 ((k:Int)*8)))))
def Xgx:List Xb→List Int→List Int
 |[],w=>w
 |x::l,w=>Xgx l (Xbv x 0 x.2.2.2.1 w)
def X0 (l:List Xb):List Int:=Xgx l (List.replicate 20 0)
theorem Xeh (x:Xb):∀ (bs:List Int) (k:Nat) (w:List Int),(Xbv x k bs w).length=w.length
 |[],k,w=>rfl
 |b::bs,k,w=>by simp only[Xbv];rw[Xeh x bs];simp
theorem Xlz:∀ (l:List Xb) (w:List Int),(Xgx l w).length=w.length
 |[],w=>rfl
 |x::l,w=>by simp only[Xgx];rw[Xlz l,Xeh]
theorem Xeo (l:List Xb):(X0 l).length=20:=by unfold X0;rw[Xlz];simp
theorem Xfc (x:Xb):∀ (bs:List Int) (k:Nat) (w:List Int),Ya9 (fun k b w=>.inl (w.set b.toNat (Xby 8 (w64 (x.2.2.1-w64 ((k:Int)*8)))))) id k bs w=Xbv x k bs w
 |[],k,w=>rfl
 |b::bs,k,w=>by simp only[Ya9,Ywk,Xbv];exact Xfc x bs _ _
theorem Xfb:∀ (l:List Xb) (k:Nat) (w:List Int),Ya9 (fun _ x w=>.inl (Xbv x 0 x.2.2.2.1 w)) id k l w=Xgx l w
 |[],k,w=>rfl
 |x::l,k,w=>by simp only[Ya9,Ywk,Xgx];exact Xfb l _ _
theorem Xrq (f:Fs_) (i:Int) (x:Xb) (h4:x.2.2.2.1.length≤4) (hb:∀ b∈x.2.2.2.1,0≤b∧b≤19) (w:List Int) (hw:w.length=20):Xh2 f i x (0,w)=some (Xbv x 0 x.2.2.2.1 w):=by
 have h:=Ym3 (τ:=List Int) x.2.2.2.1 (f:=fun s=>Xh2.B f i x s.1 s.2) (fun k w=>((k:Int),w)) (fun k b w=>.inl (w.set b.toNat (Xby 8 (w64 (x.2.2.1-w64 ((k:Int)*8)))))) id (fun k w=>w.length=20)
  (fun k hk w hw=>by
   have h2:=hb _ (List.getElem_mem hk)
   simp only[Xh2.B,Yxb hk,Yxd hk,Yw0,toNat_cast,getD_lt _ hk,Xn7,Option.bind_some,Yvj (by omega:k<4294967296),sel]
   rw[show inB (x.2.2.2.1[k]) w.length=true from Yuo h2.1 (by omega)];rfl) (fun k hk w w' hw e=>by cases e;simpa using hw) (fun w hw=>by
   simp only[Xh2.B,Yw7 (Nat.le_refl _),Ywp,id]) w hw (s:=(0,w)) rfl
 rw[Xfc] at h;exact h
theorem Xsd (l:List Xb) (v v2:Int) (v3:List Int) (x:Xb) (h4:x.2.2.2.1.length≤4) (hb:∀ b∈x.2.2.2.1,0≤b∧b≤19) (w:List Int) (hw:w.length=20):Xdc l v v2 x.2.2.2.1 (x.2.2.2.1.length:Int) v3 x (0,w)=some (Xbv x 0 x.2.2.2.1 w):=by
 have h:=Ym3 (τ:=List Int) x.2.2.2.1 (f:=fun s=>Xdc.B l v v2 x.2.2.2.1 (x.2.2.2.1.length:Int) v3 x s.1 s.2) (fun k w=>((k:Int),w)) (fun k b w=>.inl (w.set b.toNat (Xby 8 (w64 (x.2.2.1-w64 ((k:Int)*8)))))) id (fun k w=>w.length=20)
  (fun k hk w hw=>by
   have h2:=hb _ (List.getElem_mem hk)
   simp only[Xdc.B,Yxb hk,Yxd hk,Yw0,toNat_cast,getD_lt _ hk,Xm1,Option.bind_some,Yvj (by omega:k<4294967296),sel]
   rw[show inB (x.2.2.2.1[k]) 20=true from Yuo h2.1 (by omega)];rfl) (fun k hk w w' hw e=>by cases e;simpa using hw) (fun w hw=>by
   simp only[Xdc.B,Yw7 (Nat.le_refl _),Ywp,id]) w hw (s:=(0,w)) rfl
 rw[Xfc] at h;exact h
theorem Xoh (l:List Xb) (hok:Xcw l):Xbl l=some (X0 l):=by
 have hl:=hok.len
 have h:=Ym3 (τ:=List Int) l (f:=fun s=>Xdz.B l (l.length:Int) (List.replicate 20 0) s.1 s.2) (fun k w=>((k:Int),w)) (fun _ x w=>.inl (Xbv x 0 x.2.2.2.1 w)) id (fun k w=>w.length=20)
  (fun k hk w hw=>by
   have h2:=hok.blk _ (List.getElem_mem hk)
   simp only[Xdz.B,Yxb hk,Yxd hk,Yw0,toNat_cast,getD_lt _ hk,Option.bind_some,Xsd l _ _ _ _ h2.1 h2.2 w hw,Yvj (by omega:k<4294967296),sel]) (fun k hk w w' hw e=>by cases e;rw[Xeh];exact hw) (fun w hw=>by
   simp only[Xdz.B,Yw7 (Nat.le_refl _),Ywp,id]) (List.replicate 20 0) (by simp) (s:=(0,List.replicate 20 0)) rfl
 rw[Xfb] at h;have h':Xdz l (l.length:Int) (List.replicate 20 0) (0,List.replicate 20 0)=some (X0 l):=h;simp only[Xbl,h',Option.bind_some]
def Xdq (f:Fs_):Bool:=(List.range 20).any fun i=>((f.2.1.getD i []).length:Int) != (X0 f.1).getD i 0
theorem Xr6 (f:Fs_) (h:Xcp f):Xf3 f=some (!Xdq f):=by
 have hok:=Xcw.of h.inod;have hl:=hok.len;have hd:=h.dat
 have h1:=Ym3 (τ:=List Int) f.1 (f:=fun s=>Xit.B f s.1 s.2) (fun k w=>((k:Int),w)) (fun _ x w=>.inl (Xbv x 0 x.2.2.2.1 w)) id (fun k w=>w.length=20)
  (fun k hk w hw=>by
   have h2:=hok.blk _ (List.getElem_mem hk)
   simp only[Xit.B,Yxb hk,Yxd hk,Yw0,toNat_cast,getD_lt _ hk,Option.bind_some,Xrq f _ _ h2.1 h2.2 w hw,Yvj (by omega:k<4294967296),sel]) (fun k hk w w' hw e=>by cases e;rw[Xeh];exact hw) (fun w hw=>by
   simp only[Xit.B,Yw7 (Nat.le_refl _),Ywp,id]) (List.replicate 20 0) (by simp) (s:=(0,List.replicate 20 0)) rfl
 rw[Xfb] at h1;have h1':Xit f (0,List.replicate 20 0)=some (X0 f.1):=h1;have hwl:=Xeo f.1
 have h2:Xke f (X0 f.1) 0=_:=Xjg f.2.1 [] (fun i b=>(b.length:Int) != (X0 f.1).getD i 0) false (fun i hi=>by
  simp only[Xke.B,Yxb hi,Yxd hi,Yxd (by omega:i<(X0 f.1).length),Yw0,toNat_cast,getD_lt _ hi,Option.bind_some,Yvj (by omega:i<4294967296)]) (by
  simp only[Xke.B,Yw7 (Nat.le_refl _),Ywp])
 simp only[Xf3];rw[show(decide ((0:Int)≤(20:Int))&&(decide ((20:Int)≤(20:Int))&&decide ((20:Int)≤2147483648)))=true from rfl,show(20:Int).toNat=20 from rfl];simp only[Yw0,h1',Option.bind_some,h2,Xdq,hd]
 cases (List.range 20).any fun i=>((f.2.1.getD i []).length:Int) != (X0 f.1).getD i 0<;>rfl
theorem Xrz (f:Fs_) (h:Xcp f):Xd3 f=some (cond (Xdq f) 1 0):=by
 have hok:=Xcw.of h.inod;have hd:=h.dat
 have h2:Xgj f (X0 f.1) 0=_:=Yvl (List.range 20) (fun i=>((f.2.1.getD i []).length:Int) != (X0 f.1).getD i 0) (1:Int) (fun i hi=>by
  have hi':i<20:=by simpa using hi
  simp only[Xgj.B,show decide ((i:Int)<20)=true by simp;omega,Yxd hi',Yxd (by omega:i<f.2.1.length),Yw0,toNat_cast,Xbn,Option.bind_some,Yvj (by omega:i<4294967296),List.getElem_range]) (by
  rw[List.length_range];rfl)
 simp only[Xd3,Xoh f.1 hok,Option.bind_some,h2,Xdq]
 cases (List.range 20).any fun i=>((f.2.1.getD i []).length:Int) != (X0 f.1).getD i 0<;>rfl
noncomputable def fsF (f:Fs_):Int:=cond (Xbc f != 0) (Xbc f) (cond (Xef f.1) 1 (cond (Xdq f) 1 0))
theorem Xr5 (f:Fs_) (hb:Bd Xj f):Xl8 f=some (fsF f):=by
 simp only[Xl8,fsF,Xqr f hb,Option.bind_some]
 cases h:(Xbc f != 0) with
 |true=>simp only[Yw0]
 |false=>
  have ht:=Xcp.of (by simpa using h:Xbc f=0)
  simp only[Ywp,Xsi f ht,Xr6 f ht,Option.bind_some,Bool.not_not,Yvh]
theorem Xr3 (f:Fs_) (hb:Bd Xj f):Xio f=some (fsF f):=by
 simp only[Xio,fsF,Xq7 f hb,Option.bind_some]
 cases h:(Xbc f != 0) with
 |true=>simp only[Yw0]
 |false=>
  have ht:=Xcp.of (by simpa using h:Xbc f=0)
  simp only[Ywp,Xrm f ht,Xrz f ht,Option.bind_some]
  cases Xef f.1<;>cases Xdq f<;>rfl
theorem Xh9 (k:IntKind):∀ xs:List Int,(xs.map (wt (.int k))).sum=xs.length
 |[]=>rfl
 |x::xs=>by rw[List.map_cons,List.sum_cons,Xh9 k xs,Yxh,List.length_cons];omega
def Xag (e:Xc):List Int:=[e.2.1,(e.1.length:Int)]++e.1.map fun b=>(b.toNat:Int)
def Xa2 (x:Xb):List Int:=cond (x.1 != 2) ([x.1,x.2.1,x.2.2.1]++x.2.2.2.1) (([x.1,x.2.1,x.2.2.1]++x.2.2.2.1)++[(x.2.2.2.2.1.length:Int)]++x.2.2.2.2.1.flatMap Xag)
structure Xah (x:Xb):Prop where
 blk:x.2.2.2.1.length≤4
 ent:x.2.2.2.2.1.length≤6
 nam:∀ e∈x.2.2.2.2.1,e.1.length≤4
theorem Xah.of {x:Xb} (h:Xt x=0):Xah x:=
 ⟨(Xar h).1,(Xa6 h).2.1,fun e he=>(Xpd ((Xa6 h).2.2.2.2.2 e he).1).2.1⟩
theorem Xi4 {e:Xc} (h:e.1.length≤4):(Xag e).length≤6:=by simp[Xag];omega
theorem Xlb:∀ {l:List Xc},(∀ e∈l,e.1.length≤4)→(l.flatMap Xag).length≤6*l.length
 |[],_=>by simp
 |e::l,h=>by
  have h1:=Xi4 (h e (List.mem_cons_self ..));have:=Xlb fun x hx=>h x (List.mem_cons_of_mem _ hx);simp only[List.flatMap_cons,List.length_append,List.length_cons];omega
theorem Xlo {x:Xb} (h:Xah x):(Xa2 x).length≤44:=by
 unfold Xa2;have:=Xlb h.nam;have:=h.blk;have:=h.ent;cases (x.1 != 2)
 ·simp only[Ywp,List.length_append,List.length_cons,List.length_nil];omega
 ·simp only[Yw0,List.length_append,List.length_cons,List.length_nil];omega
theorem Xo7 (b:UInt8):w64 (b.toNat:Int)=(b.toNat:Int):=by
 have:=b.toNat_lt
 exact Yry (by omega) (by omega)
theorem Xi8 (g:Xc→List Int):∀ (l:List Xc) (t:List Int),l.foldl (fun t e=>t++g e) t=t++l.flatMap g
 |[],t=>by simp
 |e::l,t=>by rw[List.foldl_cons,Xi8 g l];simp
theorem Xtd (x:Xb) (h:Xah x):Xkd x=some (Xa2 x):=by
 have hb:=h.blk
 have h1:∀ (i:Int) (e:Xc) (t:List Int),e.1.length≤4→t.length≤1000→Xhy x i e (0,t)=some (t++e.1.map fun b=>(b.toNat:Int)):=by
  intro i e t he ht
  exact Yvb e.1 (f:=fun s=>Xhy.B x i e s.1 s.2) (fun b=>(b.toNat:Int)) id t.length (fun k hk t ht=>by
   simp only[Xhy.B,Yxb hk,Yxd hk,Yw0,toNat_cast,getD_lt _ hk,Xo7,Option.bind_some,Yvj (by omega:k<4294967296)]
   rw[Xfd (by simp;omega)];rfl) (fun t ht=>by
   simp only[Xhy.B,Yw7 (Nat.le_refl _),Ywp,id]) t rfl
 have h0:∀ t:List Int,t.length≤10→Xi2 x (0,t)=some (t++x.2.2.2.2.1.flatMap Xag):=by
  intro t ht
  have:=Yjp x.2.2.2.2.1 (f:=fun s=>Xi2.B x s.1 s.2) (fun t e=>t++Xag e) id (fun k t=>t.length≤10+6*k) (fun k hk t ht=>by
   have he:=h.nam _ (List.getElem_mem hk);have hn:=h.ent;have hp:=Xi4 he
   refine⟨?_,by simp;omega⟩
   simp only[Xi2.B,Yxb hk,Yxd hk,Yw0,toNat_cast,getD_lt _ hk,Option.bind_some,Yvj (by omega:k<4294967296)]
   rw[Xfd (by simp;omega)]
   simp only[Yw0,h1 _ _ _ he (by simp;omega:(t++[(x.2.2.2.2.1[k]).2.1,((x.2.2.2.2.1[k]).1.length:Int)]).length≤1000),Option.bind_some,Xag,List.append_assoc]) (fun t ht=>by
   simp only[Xi2.B,Yw7 (Nat.le_refl _),Ywp,id]) t (by omega)
  rw[Xi8] at this;exact this
 simp only[Xkd,Xa2]
 rw[Xfd (by simp;omega)]
 simp only[Yw0];cases (x.1 != 2)
 ·simp only[Ywp,Option.bind_some]
  rw[Xfd (by simp;omega)]
  simp only[Yw0,h0 _ (by simp;omega:(([x.1,x.2.1,x.2.2.1]++x.2.2.2.1)++[(x.2.2.2.2.1.length:Int)]).length≤10),Option.bind_some]
 ·rfl
theorem Xsw (x:Xb) (h:Xah x):Xb7 x=some (Xa2 x):=by
 have hb:=h.blk
 have h1:∀ (v:List Xc) (v2 v3:Int) (e:Xc) (t:List Int),e.1.length≤4→t.length≤1000→Xc2 v v2 v3 (e.1.length:Int) e (0,t)=some (t++e.1.map fun b=>(b.toNat:Int)):=by
  intro v v2 v3 e t he ht
  exact Yvb e.1 (f:=fun s=>Xc2.B v v2 v3 (e.1.length:Int) e s.1 s.2) (fun b=>(b.toNat:Int)) id t.length (fun k hk t ht=>by
   simp only[Xc2.B,Yxb hk,Yxd hk,Yw0,toNat_cast,getD_lt _ hk,Xo7,Option.bind_some,Yvj (by omega:k<4294967296)]
   rw[Xfd (by simp;omega)];rfl) (fun t ht=>by
   simp only[Xc2.B,Yw7 (Nat.le_refl _),Ywp,id]) t rfl
 have h0:∀ t:List Int,t.length≤10→Xe2 x.2.2.2.2.1 (x.2.2.2.2.1.length:Int) (0,t)=some (t++x.2.2.2.2.1.flatMap Xag):=by
  intro t ht
  have:=Yjp x.2.2.2.2.1 (f:=fun s=>Xe2.B x.2.2.2.2.1 (x.2.2.2.2.1.length:Int) s.1 s.2) (fun t e=>t++Xag e) id (fun k t=>t.length≤10+6*k) (fun k hk t ht=>by
   have he:=h.nam _ (List.getElem_mem hk);have hn:=h.ent;have hp:=Xi4 he
   refine⟨?_,by simp;omega⟩
   simp only[Xe2.B,Yxb hk,Yxd hk,Yw0,toNat_cast,getD_lt _ hk,Option.bind_some,Yvj (by omega:k<4294967296)]
   rw[Xfd (by simp;omega)]
   simp only[Yw0,h1 _ _ _ _ _ he (by simp;omega:(t++[(x.2.2.2.2.1[k]).2.1,((x.2.2.2.2.1[k]).1.length:Int)]).length≤1000),Option.bind_some,Xag,List.append_assoc]) (fun t ht=>by
   simp only[Xe2.B,Yw7 (Nat.le_refl _),Ywp,id]) t (by omega)
  rw[Xi8] at this;exact this
 simp only[Xb7,Xa2,Xjy]
 rw[Xfd (by simp;omega)]
 simp only[Yw0];cases (x.1 != 2)
 ·simp only[Ywp,Option.bind_some]
  rw[Xfd (by simp;omega)]
  simp only[Yw0,h0 _ (by simp;omega:(([x.1,x.2.1,x.2.2.1]++x.2.2.2.1)++[(x.2.2.2.2.1.length:Int)]).length≤10),Option.bind_some]
 ·rfl
theorem Xp6 {l:List Xo} {n B:Nat} (hl:l.length≤n) (h:∀ p∈l,p.2.1.length≤B):wt (.sl Xl) l≤n*(B+2)+1:=by
 rw[Yud]
 have:=Ytg (wt Xl) (B+2) (xs:=l) fun p hp=>by
  have:=h p hp;have e:=Xh9 .i64 p.2.1;simp only[Ypv,Yud,Yxh,Ywy];show 1+((List.map (wt (.int .i64)) p.2.1).sum+1+0)≤_;rw[e];omega
 have:=Nat.mul_le_mul_right (B+2) hl;omega
theorem Xcf {n:Int} (h : -9223372036854775808≤n) (h':n<9223372036854775808):w64 n=n:=Yry h (by omega)
def Xnz (n:Int) (p:Xo):Int:=cond (!inR p.1 0 n) 3 (X8 p.2.1)
def Xcc (d:Xd):Int:=cond (cond (decide ((d.1.length:Int)>60)) true (decide ((d.2.1.length:Int)>200))) 2 (cond (Yeo X8 d.1 != 0) (Yeo X8 d.1) (Yeo (Xnz ((d.1.length:Int)-1)) d.2.1))
theorem Xmb {d:Xd} (h1:d.1.length≤60) (h2:d.2.1.length≤200):cond (decide ((d.1.length:Int)>60)) true (decide ((d.2.1.length:Int)>200))=false:=by
 rw[show decide ((d.1.length:Int)>60)=false by simp;omega,show decide ((d.2.1.length:Int)>200)=false by simp;omega];rfl
theorem Xnx {d:Xd} (h:¬ (d.1.length≤60∧d.2.1.length≤200)):cond (decide ((d.1.length:Int)>60)) true (decide ((d.2.1.length:Int)>200))=true:=by
 by_cases h1:d.1.length≤60
 ·rw[show decide ((d.2.1.length:Int)>200)=true by simp;omega];cases decide ((d.1.length:Int)>60)<;>rfl
 ·rw[show decide ((d.1.length:Int)>60)=true by simp;omega];rfl
theorem Xo5 (d:Xd):Xdl d=some (Xcc d):=by
 simp only[Xdl,Xcc,Option.bind_some]
 by_cases hb:d.1.length≤60∧d.2.1.length≤200
 ·obtain⟨b1,b2⟩:=hb
  have h:Xkg d 0=_:=Yu5 d.1 X8 (fun i hi=>by
   simp only[Xkg.B,Yxb hi,Yxd hi,Yw0,toNat_cast,getD_lt _ hi,Xoe,Option.bind_some,Yvj (by omega:i<4294967296)]) (by
   simp only[Xkg.B,Yw7 (Nat.le_refl _),Ywp])
  have hw:w64 ((d.1.length:Int)-1)=(d.1.length:Int)-1:=Xcf (by omega) (by omega)
  have h':Xkn d 0=_:=Yu5 d.2.1 (Xnz ((d.1.length:Int)-1)) (fun i hi=>by
   simp only[Xkn.B,Yxb hi,Yxd hi,Yw0,toNat_cast,getD_lt _ hi,Xoe,Xf0,hw,Option.bind_some,Yvj (by omega:i<4294967296),Xnz]
   cases inR d.2.1[i].1 0 ((d.1.length:Int)-1)<;>rfl) (by
   simp only[Xkn.B,Yw7 (Nat.le_refl _),Ywp])
  rw[Xmb b1 b2,Ywp,Ywp,h,h',Xax,Xax,Xa8]
  cases (Yeo X8 d.1 != 0)<;>rfl
 ·rw[Xnx hb];rfl
theorem Xr0 (d:Xd):Xck d=some (Xcc d):=by
 simp only[Xck,Xcc,Option.bind_some]
 by_cases hb:d.1.length≤60∧d.2.1.length≤200
 ·obtain⟨b1,b2⟩:=hb
  have h:Xfu d d.1 (d.1.length:Int) 0=_:=Yu5 d.1 X8 (fun i hi=>by
   simp only[Xfu.B,Yxb hi,Yxd hi,Yw0,toNat_cast,getD_lt _ hi,Xpl,Option.bind_some,Yvj (by omega:i<4294967296)]) (by
   simp only[Xfu.B,Yw7 (Nat.le_refl _),Ywp])
  have hw:w64 ((d.1.length:Int)-1)=(d.1.length:Int)-1:=Xcf (by omega) (by omega)
  have h':Xft d d.2.1 (d.2.1.length:Int) 0=_:=Yu5 d.2.1 (Xnz ((d.1.length:Int)-1)) (fun i hi=>by
   simp only[Xft.B,Xjr,Yxb hi,Yxd hi,Yw0,toNat_cast,getD_lt _ hi,Xpl,Xhx,hw,Option.bind_some,Yvj (by omega:i<4294967296),Xnz]
   cases inR d.2.1[i].1 0 ((d.1.length:Int)-1)<;>rfl) (by
   simp only[Xft.B,Yw7 (Nat.le_refl _),Ywp])
  rw[Xmb b1 b2,Ywp,Ywp,h,h',Xax,Xax,Xa8]
  cases (Yeo X8 d.1 != 0)<;>rfl
 ·rw[Xnx hb];rfl
structure Xv (d:Xd):Prop where
 l1:d.1.length≤60
 l2:d.2.1.length≤200
 w1:∀ w∈d.1,w.length≤64∧∀ x∈w,0≤x∧x≤65535
 w2:∀ p∈d.2.1,(0≤p.1∧p.1≤(d.1.length:Int)-1)∧p.2.1.length≤64∧∀ x∈p.2.1,0≤x∧x≤65535
theorem Xv.of {d:Xd} (h:Xcc d=0):Xv d:=by
 unfold Xcc at h
 by_cases hb:d.1.length≤60∧d.2.1.length≤200
 ·obtain⟨b1,b2⟩:=hb
  rw[Xmb b1 b2,Ywp] at h
  cases hc:(Yeo X8 d.1 != 0) with
  |true=>rw[hc,Yw0] at h;simp[h] at hc
  |false=>
   rw[hc,Ywp] at h
   refine⟨b1,b2,fun w hw=>Xes (Xas.1 (by simpa using hc) w hw),fun p hp=>?_⟩
   have hp:=Xas.1 h p hp;unfold Xnz at hp
   cases hr:inR p.1 0 ((d.1.length:Int)-1) with
   |false=>rw[hr] at hp;cases hp
   |true=>rw[hr] at hp;exact⟨Xw.1 hr,Xes hp⟩
 ·rw[Xnx hb] at h;cases h
def Xi (d:Xd) (at_:Int):List Int:=match Yfg d.2.1 at_ d.2.1.length with
 |some j=>(d.2.1.getD j (0,[],())).2.1
 |none=>d.1.getD at_.toNat []
theorem Xow {d:Xd} (h:d.2.1.length≤200) {at_:Int} (h0:0≤at_) (h1:at_<(d.1.length:Int)):Yli d at_=some (Xi d at_):=by
 simp only[Yli,Xi]
 rw[show decide (d.2.1.length≤2147483648)=true by simp;omega,Yw0]
 cases Yfg d.2.1 at_ d.2.1.length with
 |some j=>rfl
 |none=>simp only[inB,decide_eq_true h0,decide_eq_true h1,Bool.and_self,Yw0]
theorem Xlq {d:Xd} (h:d.2.1.length≤200) {at_:Int} (h0:0≤at_) (h1:at_<(d.1.length:Int)):Xb8 d at_=some (Xi d at_):=Xow h h0 h1
theorem Xqn {d:Xd} (h:d.2.1.length≤200) (at_:Int):∀ (k:Nat),k≤d.2.1.length→Xfa d at_ ((k:Int)-1)=some (match Yfg d.2.1 at_ k with | some j=>.inl (d.2.1.getD j (0,[],())).2.1 | none=>.inr ())
 |0,_=>Y5 (by
  show Xfa.B d at_ (((0:Nat):Int)-1)=some (.inr (.inr ()));unfold Xfa.B
  rw[show decide ((((0:Nat):Int)-1)≥0)=false by simp];rfl)
 |k+1,hk=>by
  have e:((k+1:Nat):Int)-1=(k:Int):=by omega
  have hlt:k<d.2.1.length:=by omega
  rw[e]
  have hB:Xfa.B d at_ (k:Int)=cond (d.2.1[k].1 == at_) (some (.inr (.inl d.2.1[k].2.1))) (some (.inl ((k:Int)-1))):=by
   simp only[Xfa.B,Yxd hlt,toNat_cast,getD_lt _ hlt,Yw0,show decide ((k:Int)≥0)=true by simp,Xcf (by omega : -9223372036854775808≤(k:Int)-1) (by omega)]
  have eg:d.2.1.getD k (0,[],())=d.2.1[k]:=getD_lt _ hlt
  by_cases hc:d.2.1[k].1=at_
  ·rw[show Xfa d at_ (k:Int)=some (.inl d.2.1[k].2.1) from Y5 (by
    show Xfa.B d at_ (k:Int)=_
    rw[hB,show(d.2.1[k].1 == at_)=true by simpa using hc,Yw0])]
   simp only[Yfg,eg,if_pos hc]
  ·rw[show Xfa d at_ (k:Int)=Xfa d at_ ((k:Int)-1) from Yar (by
    show Xfa.B d at_ (k:Int)=_
    rw[hB,show(d.2.1[k].1 == at_)=false by simpa using hc,Ywp]),Xqn h at_ k (by omega)]
   simp only[Yfg,eg,if_neg hc]
theorem Xl5 {d:Xd} (h:d.2.1.length≤200) {at_:Int} (h0:0≤at_) (h1:at_<(d.1.length:Int)):Xd1 d at_=some (Xi d at_):=by
 simp only[Xd1,Xi]
 rw[Xcf (by omega : -9223372036854775808≤(d.2.1.length:Int)-1) (by omega),Xqn h at_ _ (Nat.le_refl _)]
 cases Yfg d.2.1 at_ d.2.1.length with
 |some j=>rfl
 |none=>simp only[Option.bind_some,sel,inB,decide_eq_true h0,decide_eq_true h1,Bool.and_self,Yw0]
def Xau (d:Xd):Int×Int:=cond (Xcc d != 0) (0,Xcc d) (cond ((d.1.length:Int) != 47) (0,1) (cond (cond (((Xi d 0).length:Int) != 2) true ((Xi d 0).getD 0 0 != 7)) (0,5) (cond (!inR ((Xi d 0).getD 1 0) 1 60000) (0,5) ((Xi d 0).getD 1 0,0))))
theorem Xr7 (d:Xd):Xig d=some (Xau d):=by
 simp only[Xig,Xau,Xr0,Option.bind_some]
 cases h:(Xcc d != 0) with
 |true=>rfl
 |false=>
  have hok:=Xv.of (by simpa using h)
  simp only[Ywp]
  cases h1:((d.1.length:Int) != 47) with
  |true=>rfl
  |false=>
   have h47:(d.1.length:Int)=47:=by simpa using h1
   simp only[Ywp,Xlq hok.l2 (Int.le_refl 0) (by omega),Option.bind_some]
   cases h2:(((Xi d 0).length:Int) != 2) with
   |true=>rfl
   |false=>
    have hl2:(Xi d 0).length=2:=by
      have:((Xi d 0).length:Int)=2:=by simpa using h2
      omega
    rw[hl2];simp only[Ywp,Yw0,Bool.not_false,show inB 0 2=true from rfl,show inB 1 2=true from rfl,Xj2,Xhx,Option.bind_some,Int.toNat_zero,show(1:Int).toNat=1 from rfl]
    cases ((Xi d 0).getD 0 0 != 7) with
    |true=>rfl
    |false=>cases inR ((Xi d 0).getD 1 0) 1 60000<;>rfl
theorem Xqx (d:Xd):Xko d=some ((Xau d).2,(Xau d).1,()):=by
 simp only[Xko,Xau,Xo5,Option.bind_some]
 cases h:(Xcc d != 0) with
 |true=>rfl
 |false=>
  have hok:=Xv.of (by simpa using h)
  simp only[Ywp]
  cases h1:((d.1.length:Int) != 47) with
  |true=>rfl
  |false=>
   have h47:(d.1.length:Int)=47:=by simpa using h1
   simp only[Ywp,Xl5 hok.l2 (Int.le_refl 0) (by omega),Option.bind_some]
   cases h2:(((Xi d 0).length:Int) != 2) with
   |true=>rfl
   |false=>
    have hl2:(Xi d 0).length=2:=by
      have:((Xi d 0).length:Int)=2:=by simpa using h2
      omega
    rw[hl2];simp only[Ywp,Yw0,Bool.not_false,show inB 0 2=true from rfl,show inB 1 2=true from rfl,Xm9,Xf0,Option.bind_some,Int.toNat_zero,show(1:Int).toNat=1 from rfl]
    cases ((Xi d 0).getD 0 0 != 7) with
    |true=>rfl
    |false=>cases inR ((Xi d 0).getD 1 0) 1 60000<;>rfl
theorem Xoj:∀ (a b:List Int) (c:List Int) (i:Nat),c.drop i=b→a.length=b.length→
  Ya9 (τ:=Unit) (fun i x _=>cond (x != c.getD i 0) (.inr (.inl false)) (.inl ())) (fun _=>(.inr ():Bool⊕Unit)) i a ()=cond (a == b) (.inr ()) (.inl false)
 |[],[],c,i,h,hl=>rfl
 |x::a,y::b,c,i,h,hl=>by
  have hc:c.getD i 0=y:=by
   have:(c.drop i)[0]? = some y:=by rw[h];rfl
   rw[List.getElem?_drop] at this;simp only[Nat.add_zero] at this;simp[List.getD,this]
  have hd:c.drop (i+1)=b:=by
   have:(c.drop i).drop 1=b:=by rw[h];rfl
   rwa [List.drop_drop] at this
  simp only[Ya9,hc]
  cases he:(x != y) with
  |true=>
   have:(x::a == y::b)=false:=by
    have hne:x≠y:=by simpa using he
    simp[hne]
   rw[this];rfl
  |false=>
   have hxy:x=y:=by simpa using he
   subst hxy
   have ih:=Xoj a b c (i+1) hd (by simpa using hl)
   simp only[Ywp,sel];rw[ih]
   have:(x::a == x::b)=(a == b):=by simp
   rw[this]
theorem Xog {f:Int→Option (Int⊕(Bool⊕Unit))} (a b:List Int) (hl:a.length=b.length)
  (hs:∀ (i:Nat) (h:i<a.length),f (i:Int)=cond (a[i] != b.getD i 0) (some (.inr (.inl false))) (some (.inl ((i+1:Nat):Int)))) (he:f (a.length:Int)=some (.inr (.inr ()))) :
  Y9 f 0=some (cond (a == b) (.inr ()) (.inl false)):=by
 rw[Yfq (τ:=Unit) a (fun i _=>(i:Int)) (fun i x _=>cond (x != b.getD i 0) (.inr (.inl false)) (.inl ())) (fun _=>(.inr ():Bool⊕Unit)) (fun i hi t=>by rw[hs i hi];cases (a[i] != b.getD i 0)<;>rfl) (fun t=>he) () (s:=0) rfl,Xoj a b b 0 rfl hl]
theorem Xpn {a b:List Int} (h:a.length≠b.length):(a == b)=false:=by
 have:a≠b:=fun e=>h (by rw[e])
 simpa using this
theorem Xql (a b:List Int) (hl:a.length≤2147483648):Xhb a b=some (a == b):=by
 simp only[Xhb]
 by_cases h:a.length=b.length
 ·rw[show((a.length:Int) != (b.length:Int))=false by simp[h],Ywp]
  have:=Xog (f:=fun s=>Xi6.B a b s) a b h (fun i hi=>by
   simp only[Xi6.B,Yxb hi,Yxd hi,Yxd (show i<b.length by omega),Yw0,toNat_cast,getD_lt _ hi,Yvj (by omega:i<4294967296)]) (by
   simp only[Xi6.B,Yw7 (Nat.le_refl _),Ywp])
  rw[show Xi6 a b 0=_ from this]
  cases (a == b)<;>rfl
 ·rw[show((a.length:Int) != (b.length:Int))=true by simp;omega,Yw0,Xpn h]
theorem Xqo (a b:List Int) (hl:a.length≤2147483648):Xfh a b=some (a == b):=by
 simp only[Xfh]
 by_cases h:a.length=b.length
 ·rw[show((a.length:Int) != (b.length:Int))=false by simp[h],Ywp]
  have:=Xog (f:=fun s=>Xdv.B a b (a.length:Int) s) a b h (fun i hi=>by
   simp only[Xdv.B,Yxb hi,Yxd hi,Yxd (show i<b.length by omega),Yw0,toNat_cast,getD_lt _ hi,Yvj (by omega:i<4294967296)]) (by
   simp only[Xdv.B,Yw7 (Nat.le_refl _),Ywp])
  rw[show Xdv a b (a.length:Int) 0=_ from this]
  cases (a == b)<;>rfl
 ·rw[show((a.length:Int) != (b.length:Int))=true by simp;omega,Yw0,Xpn h]
theorem Xak {d:Xd} (hok:Xv d) (at_:Int):(Xi d at_).length≤64:=by
 unfold Xi
 cases h:Yfg d.2.1 at_ d.2.1.length with
 |some j=>
  have hj:j<d.2.1.length:=by
   have:∀ (ps:List (Int×List Int×Unit)) (k j:Nat),Yfg ps at_ k=some j→j<k:=by
    intro ps k
    induction k with
    |zero=>intro j h;cases h
    |succ k ih=>
     intro j h;unfold Yfg at h
     split at h
     ·cases h;omega
     ·have:=ih j h;omega
   exact this _ _ _ h
  show(d.2.1.getD j (0,[],())).2.1.length≤64;rw[show d.2.1.getD j (0,[],())=d.2.1[j] from getD_lt _ hj]
  exact(hok.w2 _ (List.getElem_mem hj)).2.1
 |none=>
  show(d.1.getD at_.toNat []).length≤64;rw[List.getD_eq_getElem?_getD]
  cases h2:d.1[at_.toNat]? with
  |none=>simp
  |some w=>exact(hok.w1 w (List.mem_of_getElem? h2)).1
theorem Xlk {l:List Xo} (h:l.length≤2147483648) (hw:∀ p∈l,p.2.1.length≤2147483648):Yfj l=some l:=by
 have:(decide (l.length≤2147483648)&&l.all (fun x=>decide (x.2.1.length≤2147483648)))=true:=by
  simp only[Bool.and_eq_true,decide_eq_true_eq,List.all_eq_true];exact⟨h,hw⟩
 simp only[Yfj,this,Yw0]
def Xkx {α β:Type} (h:Nat→α→β):Nat→List α→List β
 |_,[]=>[]
 |i,x::l=>h i x::Xkx h (i+1) l
theorem Xnc {α β:Type} (h:Nat→α→β):∀ (l:List α) (i:Nat),(Xkx h i l).length=l.length
 |[],_=>rfl
 |x::l,i=>by simp[Xkx,Xnc h l]
theorem Xij {α β:Type} {h:Nat→α→β} {y:β}:∀ {l:List α} {i:Nat},y∈Xkx h i l→∃ j x,x∈l∧y=h j x
 |x::l,i,hy=>by
  rcases List.mem_cons.1 hy with rfl | hy
  ·exact⟨i,x,List.mem_cons_self,rfl⟩
  ·obtain⟨j,z,h1,h2⟩:=Xij hy
   exact⟨j,z,List.mem_cons_of_mem _ h1,h2⟩
theorem Xk3 {α β ρ:Type} (h:Nat→α→β) (e:List β→ρ):∀ (l:List α) (i:Nat) (t:List β),Ya9 (fun i x t=>.inl (t++[h i x])) e i l t=e (t++Xkx h i l)
 |[],i,t=>by simp[Ya9,Xkx]
 |x::l,i,t=>by
  simp only[Ya9,sel];rw[Xk3 h e l (i+1)];simp[Xkx]
theorem Xlx {α β ρ:Type} (bad:α→Bool) (c:ρ) (h:Nat→α→β):∀ (l:List α) (i:Nat) (t:List β),
  Ya9 (fun i x t=>cond (bad x) (.inr (.inl c)) (.inl (t++[h i x]))) (fun t=>(.inr t:ρ⊕List β)) i l t=cond (l.any bad) (.inl c) (.inr (t++Xkx h i l))
 |[],i,t=>by simp[Ya9,Xkx]
 |x::l,i,t=>by
  simp only[Ya9,List.any_cons]
  cases hb:bad x with
  |true=>rfl
  |false=>
   simp only[Ywp,sel,Bool.false_or];rw[Xlx bad c h l (i+1)];simp[Xkx]
def Xcq (x:Int):Bool:=!inR x 17 26
def Xm6 (d:Xd) (l:List Int):List Xo:=Xkx (fun i x=>(x,Xi d ((i+2:Nat):Int),())) 0 l
theorem Xpt {l:List Int} {i:Nat} (h:i<(l.drop 3).length):(l.drop 3)[i]=l.getD (3+i) 0:=by
 have h3:3+i<l.length:=by simp at h;omega
 rw[getD_lt _ h3,List.getElem_drop]
theorem Xty {d:Xd} (hok:Xv d) (h47:(d.1.length:Int)=47) (l:List Int) (hl:l.length≤64) (hn:3≤l.length) (hm:l.length≤13) :
  Xhw d l (((l.drop 3).length:Nat):Int) (0,[])=some (cond ((l.drop 3).any Xcq) (.inl (false,[])) (.inr (Xm6 d (l.drop 3)))):=by
 have h:=Ym3 (τ:=List Xo) (f:=fun s=>Xhw.B d l (((l.drop 3).length:Nat):Int) s.1 s.2) (l.drop 3) (fun i t=>((i:Int),t)) (fun i x t=>cond (Xcq x) (.inr (.inl (false,[]))) (.inl (t++[(x,Xi d ((i+2:Nat):Int),())])))
  (fun t=>(.inr t:(Bool×List Xo)⊕List Xo)) (fun i t=>t.length≤i) (fun i hi t ht=>by
   have e3:w64 ((3:Int)+(i:Int))=((3+i:Nat):Int):=by rw[Xcf (by omega) (by simp at hi;omega)];omega
   have e2:w64 ((2:Int)+(i:Int))=((i+2:Nat):Int):=by rw[Xcf (by omega) (by simp at hi;omega)];omega
   have h3:3+i<l.length:=by simp at hi;omega
   simp only[Xhw.B,Yxb hi,Yw0,e3,e2,Yxd h3,toNat_cast,←Xpt hi,Xf0,Option.bind_some,Xl5 hok.l2 (at_:=((i+2:Nat):Int)) (by omega) (by omega),Xaw,List.nil_append,Xcq,
    Yvj (by omega:i<4294967296)]
   rw[decide_eq_true (Nat.le_trans (Xak hok _) (by omega:64≤2147483648))]
   cases inR (l.drop 3)[i] 17 26 with
   |false=>rfl
   |true=>
    simp only[Bool.not_true,Ywp,Yw0,sel,Option.bind_some]
    rw[show decide ((t++[((l.drop 3)[i],Xi d ((i+2:Nat):Int),())]).length≤2147483648)=true by simp;simp at hi;omega,Yw0]) (fun i hi t t' ht e=>by
   cases hb:Xcq (l.drop 3)[i] with
   |true=>rw[hb] at e;cases e
   |false=>rw[hb] at e;cases e;simp;omega) (fun t ht=>by
   simp only[Xhw.B,Yw7 (Nat.le_refl _),Ywp]) [] (Nat.le_refl _) (s:=(0,[])) rfl
 rw[show Xhw d l (((l.drop 3).length:Nat):Int) (0,[])=_ from h,Xlx];rfl
theorem Xte {d:Xd} (hok:Xv d) (h47:(d.1.length:Int)=47) (l:List Int) (hm:l.length≤10):Xc5 d l (l.length:Int) (0,[])=some (Xm6 d l):=by
 have h:=Ym3 (τ:=List Xo) (f:=fun s=>Xc5.B d l (l.length:Int) s.1 s.2) l (fun i t=>((i:Int),t)) (fun i x t=>.inl (t++[(x,Xi d ((i+2:Nat):Int),())]))
  (fun t=>t) (fun i t=>t.length≤i) (fun i hi t ht=>by
   have e2:w64 ((2:Int)+(i:Int))=((i+2:Nat):Int):=by rw[Xcf (by omega) (by omega)];omega
   simp only[Xc5.B,Yxb hi,Yw0,e2,Yxd hi,toNat_cast,getD_lt _ hi,Option.bind_some,Xlq hok.l2 (at_:=((i+2:Nat):Int)) (by omega) (by omega),Yvj (by omega:i<4294967296),sel]
   rw[show decide ((t++[(l[i],Xi d ((i+2:Nat):Int),())]).length≤2147483648)=true by simp;omega,Yw0]) (fun i hi t t' ht e=>by cases e;simp;omega) (fun t ht=>by
   simp only[Xc5.B,Yw7 (Nat.le_refl _),Ywp]) [] (Nat.le_refl _) (s:=(0,[])) rfl
 rw[show Xc5 d l (l.length:Int) (0,[])=_ from h,Xk3];rfl
theorem Xri (l:List Int) (hl:l.length≤2147483648):Xie l ()=some (l.any Xcq):=by
 have h:Xc9 l () (l.length:Int) ((0:Nat):Int)=_:=Yvr l (f:=fun s=>Xc9.B l () (l.length:Int) s) Xcq (fun i hi=>by
  simp only[Xc9.B,Xj3,Xhx,Yxb hi,Yxd hi,Yw0,toNat_cast,getD_lt _ hi,Option.bind_some,Xcq,Yvj (by omega:i<4294967296)]) (by
  simp only[Xc9.B,Yw7 (Nat.le_refl _),Ywp]) 0 (Nat.zero_le _)
 rw[List.drop_zero] at h;simp only[Xie,Xfq];rw[show Xc9 l () (l.length:Int) 0=_ from h];exact Xcd Xcq l
def X5 (d:Xd) (seq:Int):List Xo×Bool:=
 let b:=Xi d 1
 cond (cond (decide ((b.length:Int)<3)) true (cond (b.getD 0 0 != 1) true (cond (b.getD 1 0 != seq) true (cond (!inR (b.getD 2 0) 0 10) true (cond ((b.length:Int) != 3+b.getD 2 0) true (cond (!(Xi d (2+b.getD 2 0) == [2,seq,b.getD 2 0])) true ((b.drop 3).any Xcq)))))))
  ([],false) (Xm6 d (b.drop 3),true)
theorem Xl0 {d:Xd} (hok:Xv d) (h47:(d.1.length:Int)=47) (seq:Int):Xja d seq=some (X5 d seq)∧Xd9 d seq=some (X5 d seq):=by
 have hb:Xi d 1=Xi d 1:=rfl;have hl:=Xak hok 1
 simp only[Xja,Xd9,X5,Xl5 hok.l2 (at_:=1) (by omega) (by omega),Xlq hok.l2 (at_:=1) (by omega) (by omega),Option.bind_some]
 generalize Xi d 1=b at hl
 by_cases h3:(b.length:Int)<3
 ·rw[decide_eq_true h3];exact⟨rfl,rfl⟩
 ·rw[decide_eq_false h3]
  have i0:inB 0 b.length=true:=by simp[inB];omega
  have i1:inB 1 b.length=true:=by simp[inB];omega
  have i2:inB 2 b.length=true:=by simp[inB];omega
  simp only[i0,i1,i2,Ywp,Yw0,Bool.not_false,Bool.not_true,Option.bind_some,Int.toNat_zero,show(1:Int).toNat=1 from rfl,show(2:Int).toNat=2 from rfl,show(3:Int).toNat=3 from rfl]
  cases h0:(b.getD 0 0 != 1) with
  |true=>exact⟨rfl,rfl⟩
  |false=>
   simp only[Ywp,Yw0,Bool.not_false]
   cases h1:(b.getD 1 0 != seq) with
   |true=>exact⟨rfl,rfl⟩
   |false=>
    simp only[Ywp,Yw0,Bool.not_false,Xf0,Xhx,Option.bind_some]
    cases hr:inR (b.getD 2 0) 0 10 with
    |false=>exact⟨rfl,rfl⟩
    |true=>
     have hn:=Xw.1 hr
     have e3:w64 ((3:Int)+b.getD 2 0)=3+b.getD 2 0:=Xcf (by omega) (by omega)
     have e2:w64 ((2:Int)+b.getD 2 0)=2+b.getD 2 0:=Xcf (by omega) (by omega)
     simp only[Bool.not_true,Ywp,Yw0,Bool.not_false,e3,e2,Option.bind_some,Xap]
     cases hs:((b.length:Int) != 3+b.getD 2 0) with
     |true=>exact⟨rfl,rfl⟩
     |false=>
      have hsz:(b.length:Int)=3+b.getD 2 0:=by simpa using hs
      have hd:(((b.drop 3).length:Nat):Int)=b.getD 2 0:=by simp only[List.length_drop];omega
      have hbl:=Xak hok (2+b.getD 2 0)
      simp only[Ywp,Yw0,Option.bind_some,Xl5 hok.l2 (at_:=2+b.getD 2 0) (by omega) (by omega),Xlq hok.l2 (at_:=2+b.getD 2 0) (by omega) (by omega),Xql _ _ (Nat.le_trans hbl (by omega)),
       Xqo _ _ (Nat.le_trans hbl (by omega)),List.take_length,show(decide ((0:Int)≤(3:Int))&&decide ((3:Int)≤(b.length:Int)))=true by simp;omega]
      rw[Xri _ (by simp;omega),Xte hok h47 (b.drop 3) (by simp;omega)]
      have hf:=Xty hok h47 b hl (by omega) (by omega)
      rw[hd] at hf;rw[hf]
      cases (Xi d (2+b.getD 2 0) == [2,seq,b.getD 2 0]) with
      |false=>
       simp only[Bool.not_false,Yw0,Option.bind_some]
       cases (b.drop 3).any Xcq<;>(constructor<;>first | rfl | trivial)
      |true=>
       simp only[Bool.not_true,Ywp,Yw0,Option.bind_some]
       cases (b.drop 3).any Xcq<;>(constructor<;>first | rfl | trivial)
theorem Xmj {d:Xd} (h:(Xau d).2=0):Xv d∧(d.1.length:Int)=47:=by
 unfold Xau at h
 cases h1:(Xcc d != 0) with
 |true=>
  rw[h1,Yw0] at h;have h':Xcc d=0:=h
  rw[h'] at h1;cases h1
 |false=>
  rw[h1,Ywp] at h
  refine⟨Xv.of (by simpa using h1),?_⟩
  cases h2:((d.1.length:Int) != 47) with
  |true=>rw[h2] at h;cases h
  |false=>simpa using h2
theorem Xop (d:Xd) (l:List Int):(Xm6 d l).length=l.length:=Xnc _ _ _
theorem Xnp {d:Xd} (hok:Xv d) {l:List Int} {p:Xo} (h:p∈Xm6 d l):p.2.1.length≤64:=by
 obtain⟨j,x,_,rfl⟩:=Xij h;exact Xak hok _
theorem Xg6 {d:Xd} (hok:Xv d) (seq:Int):(X5 d seq).1.length≤64∧∀ p∈(X5 d seq).1,p.2.1.length≤64:=by
 have hl:=Xak hok 1;unfold X5
 dsimp only
 generalize (cond (decide (((Xi d 1).length:Int)<3)) true _)=c
 cases c with
 |true=>exact⟨Nat.zero_le _,fun p h=>by cases h⟩
 |false=>
  simp only[Ywp,Xop]
  exact⟨by simp;omega,fun p h=>Xnp hok h⟩
theorem Xmn {l:List Xo} (h:l.length≤1048576) (hw:∀ p∈l,p.2.1.length≤2147483648):Yg3 l=some (l.map toStep):=by
 have:(decide (l.length≤1048576)&&l.all (fun x=>decide (x.2.1.length≤2147483648)))=true:=by
  simp only[Bool.and_eq_true,decide_eq_true_eq,List.all_eq_true];exact⟨h,hw⟩
 simp only[Yg3,this,Yw0]
theorem Xtv {l:List Xo} (h:l.length≤1048576) (hw:∀ p∈l,p.2.1.length≤2147483648):Xjn l=some (l.map toStep):=by
 have hh:Xiw l (0,[])=some ([]++l.map toStep):=by
  rw[←foldl_map]
  exact Yjp l (f:=fun s=>Xiw.B l s.1 s.2) (fun t x=>t++[toStep x]) (fun t=>t) (fun i t=>t.length≤i) (fun i hi t ht=>by
   have hw:=hw _ (List.getElem_mem hi)
   constructor
   ·simp only[Xiw.B,Yxb hi,Yxd hi,Yw0,toNat_cast,getD_lt _ hi,Option.bind_some,Xaw,List.nil_append,decide_eq_true hw,Yvj (by omega:i<4294967296),toStep]
    rw[show decide ((t++[((false,l[i].1,l[i].2.1,()):Xu)]).length≤2147483648)=true by simp;omega,Yw0]
   ·simp;omega) (fun t ht=>by
   simp only[Xiw.B,Yw7 (Nat.le_refl _),Ywp]) [] (Nat.le_refl _)
 simp only[Xjn,hh,Option.bind_some,List.nil_append]
theorem Xkv {d:Xd} (h:(Xau d).2=0):1≤(Xau d).1∧(Xau d).1≤60000:=by
 unfold Xau at h ⊢
 cases h1:(Xcc d != 0) with
 |true=>rw[h1,Yw0] at h;have h':Xcc d=0:=h;rw[h'] at h1;cases h1
 |false=>
  rw[h1,Ywp] at h
  cases h2:((d.1.length:Int) != 47) with
  |true=>rw[h2] at h;cases h
  |false=>
   rw[h2,Ywp] at h
   cases h3:(cond (((Xi d 0).length:Int) != 2) true ((Xi d 0).getD 0 0 != 7)) with
   |true=>rw[h3] at h;cases h
   |false=>
    rw[h3,Ywp] at h
    cases h4:inR ((Xi d 0).getD 1 0) 1 60000 with
    |false=>rw[h4] at h;cases h
    |true=>exact Xw.1 h4
def Xb2 (d:Xd) (seq:Int):List Xu:=cond (cond (!(X5 d seq).2) true (seq == 60000)) [] ((X5 d seq).1.map toStep++[(true,0,[],()),(false,0,[7,seq+1],()),(true,0,[],())])
theorem Xnw {d:Xd} (hok:Xv d) (seq:Int):(Xb2 d seq).length≤70∧∀ p∈Xb2 d seq,p.2.2.1.length≤64:=by
 obtain⟨b1,b2⟩:=Xg6 hok seq;unfold Xb2
 cases (cond (!(X5 d seq).2) true (seq == 60000)) with
 |true=>exact⟨Nat.zero_le _,fun p h=>by cases h⟩
 |false=>
  refine⟨by simp;omega,fun p hp=>?_⟩
  rcases List.mem_append.1 hp with h | h
  ·obtain⟨q,hq,rfl⟩:=List.mem_map.1 h
   exact b2 q hq
  ·simp at h
   rcases h with rfl | rfl | rfl<;>simp
theorem Xts {d:Xd} (hok:Xv d) (h47:(d.1.length:Int)=47) {seq:Int} (hs:1≤seq∧seq≤60000):Xh7 d seq=some (Xb2 d seq):=by
 obtain⟨b1,b2⟩:=Xg6 hok seq;simp only[Xh7,(Xl0 hok h47 seq).2,Option.bind_some,Xb2]
 cases (cond (!(X5 d seq).2) true (seq == 60000)) with
 |true=>rfl
 |false=>
  simp only[Ywp,Xge,Xmn (l:=(X5 d seq).1) (by omega) (fun p hp=>Nat.le_trans (b2 p hp) (by omega)),Option.bind_some,Xj5,Xcf (by omega : -9223372036854775808≤seq+1) (by omega)]
  rw[show decide (((X5 d seq).1.map toStep++[((true,0,[],()):Xu),(false,0,[7,seq+1],()),(true,0,[],())]).length≤2147483648)=true by simp;omega,Yw0]
theorem Xv.zero {d:Xd} (h:Xv d):Xcc d=0:=by
 have hw:∀ w:List Int,w.length≤64→(∀ x∈w,0≤x∧x≤65535)→X8 w=0:=fun w h1 h2=>by
  unfold X8
  rw[show decide ((w.length:Int)>64)=false by simp;omega,Ywp]
  rw[show(w.any fun x=>!inR x 0 65535)=false from List.any_eq_false.2 (fun x hx=>by
   have:=Xw.2 (h2 x hx);simp[this])]
  rfl
 unfold Xcc;rw[Xmb h.l1 h.l2,Ywp];rw[Xas.2 (fun w hm=>hw w (h.w1 w hm).1 (h.w1 w hm).2)];show cond ((0:Int) != 0) _ _=0;rw[show((0:Int) != 0)=false from rfl,Ywp];refine Xas.2 (fun p hm=>?_);obtain⟨h1,h2,h3⟩:=h.w2 p hm;unfold Xnz;rw[Xw.2 h1];exact hw _ h2 h3
theorem Xnk {α β:Type}:∀ (l:List α) (a:List α) (b:β),l.foldl (fun(t:List α×β) x=>(t.1++[x],t.2)) (a,b)=(a++l,b)
 |[],a,b=>by simp
 |x::l,a,b=>by rw[List.foldl_cons,Xnk l];simp
theorem Xn6 {α β γ:Type}:∀ (l:List α) (a:β) (b:List α) (c:γ),l.foldl (fun(t:β×List α×γ) x=>(t.1,t.2.1++[x],t.2.2)) (a,b,c)=(a,b++l,c)
 |[],a,b,c=>by simp
 |x::l,a,b,c=>by rw[List.foldl_cons,Xn6 l];simp
theorem Xpr {d:Xd} (h:Xv d):Xdn d=some d:=by
 obtain⟨bs,ps,⟨⟩⟩:=d;have hl1:bs.length≤60:=h.l1;have hl2:ps.length≤200:=h.l2
 have h0:Xiz (bs,ps,()) ([],[],()) (0,([],[],()))=some (bs.foldl (fun(t:List (List Int)×List Xo×Unit) x=>(t.1++[x],t.2)) ([],[],())):=
  Yjp bs (f:=fun s=>Xiz.B (bs,ps,()) ([],[],()) s.1 s.2) _ (fun t=>t) (fun i t=>t.1.length≤i) (fun i hi t ht=>by
   have hw:bs[i].length≤64:=(h.w1 _ (List.getElem_mem hi)).1
   constructor
   ·simp only[Xiz.B,Yxb hi,Yxd hi,Yw0,toNat_cast,getD_lt _ hi,Xaw,List.nil_append,decide_eq_true (show bs[i].length≤2147483648 by omega),Option.bind_some,Yvj (by omega:i<4294967296)]
    rw[show decide ((t.1++[bs[i]]).length≤2147483648)=true by simp;omega,Yw0]
   ·simp;omega) (fun t ht=>by simp only[Xiz.B,Yw7 (Nat.le_refl _),Ywp]) _ (Nat.le_refl _)
 have h1:Xi5 (bs,ps,()) ([],[],()) (0,(bs,[],()))=some (ps.foldl (fun(t:List (List Int)×List Xo×Unit) x=>(t.1,t.2.1++[x],t.2.2)) (bs,[],())):=
  Yjp ps (f:=fun s=>Xi5.B (bs,ps,()) ([],[],()) s.1 s.2) _ (fun t=>t) (fun i t=>t.2.1.length≤i) (fun i hi t ht=>by
   have hw:ps[i].2.1.length≤64:=(h.w2 _ (List.getElem_mem hi)).2.1
   constructor
   ·simp only[Xi5.B,Yxb hi,Yxd hi,Yw0,toNat_cast,getD_lt _ hi,Xaw,List.nil_append,decide_eq_true (show ps[i].2.1.length≤2147483648 by omega),Option.bind_some,Yvj (by omega:i<4294967296)]
    rw[show decide ((t.2.1++[ps[i]]).length≤2147483648)=true by simp;omega,Yw0]
   ·simp;omega) (fun t ht=>by simp only[Xi5.B,Yw7 (Nat.le_refl _),Ywp]) _ (Nat.le_refl _)
 rw[Xnk] at h0;rw[Xn6] at h1;simp only[Xdn,h0,Option.bind_some,List.nil_append,h1]
theorem Xrw {d:Xd} (h:Xv d):Xep d=some d:=by
 obtain⟨bs,ps,⟨⟩⟩:=d;have hl1:bs.length≤60:=h.l1;have hl2:ps.length≤200:=h.l2
 have h0:Xdu (bs,ps,()) bs (bs.length:Int) ([],[],()) (0,([],[],()))=some (bs.foldl (fun(t:List (List Int)×List Xo×Unit) x=>(t.1++[x],t.2)) ([],[],())):=
  Yjp bs (f:=fun s=>Xdu.B (bs,ps,()) bs (bs.length:Int) ([],[],()) s.1 s.2) _ (fun t=>t) (fun i t=>t.1.length≤i) (fun i hi t ht=>by
   have hw:bs[i].length≤64:=(h.w1 _ (List.getElem_mem hi)).1
   constructor
   ·simp only[Xdu.B,Yxb hi,Yxd hi,Yw0,toNat_cast,getD_lt _ hi,Xan,Yle,decide_eq_true (show bs[i].length≤2147483648 by omega),Option.bind_some,Yvj (by omega:i<4294967296)]
    rw[show decide ((t.1++[bs[i]]).length≤2147483648)=true by simp;omega,Yw0]
   ·simp;omega) (fun t ht=>by simp only[Xdu.B,Yw7 (Nat.le_refl _),Ywp]) _ (Nat.le_refl _)
 rw[Xnk] at h0;simp only[Xep,h0,Option.bind_some,List.nil_append,Xgb]
 rw[Xlk (l:=ps) (by omega) (fun p hp=>Nat.le_trans (h.w2 p hp).2.1 (by omega))]
 rfl
def Xaj (d:Xd):Xd:=(Ybs d.1 d.2.1 (fun _=>true) d.2.1.length,[],())
theorem Xci (bs:List (List Int)) (ps:List Xo) (pick:Nat→Bool):∀ k,(Ybs bs ps pick k).length=bs.length
 |0=>rfl
 |k+1=>by
  simp only[Ybs]
  split
  ·rw[List.length_set,Xci bs ps pick k]
  ·exact Xci bs ps pick k
theorem Xix {bs:List (List Int)} {ps:List Xo} {pick:Nat→Bool} {w:List Int}:∀ {k},k≤ps.length→w∈Ybs bs ps pick k→w∈bs∨∃ p∈ps,w=p.2.1
 |0,_,h=>.inl h
 |k+1,hk,h=>by
  simp only[Ybs] at h
  have hg:ps.getD k (0,[],())=ps[k]:=by simp[List.getD,show k<ps.length by omega]
  split at h
  ·rcases List.mem_or_eq_of_mem_set h with h | h
   ·exact Xix (by omega) h
   ·rw[hg] at h;exact .inr ⟨ps[k],List.getElem_mem _,h⟩
  ·exact Xix (by omega) h
theorem Xon {d:Xd} (h:Xv d):Xv (Xaj d) where
 l1:=by show(Ybs _ _ _ _).length≤60;rw[Xci];exact h.l1
 l2:=Nat.zero_le _
 w1:=fun w hw=>by
  rcases Xix (Nat.le_refl _) hw with h1 | ⟨p,hp,rfl⟩
  ·exact h.w1 w h1
  ·exact(h.w2 p hp).2
 w2:=fun p hp=>by cases hp
theorem Xlr {d:Xd} (h:Xv d):Yld d=some (Xaj d):=by
 have:(decide (d.2.1.length≤1152921504606846976)&&d.2.1.all (fun p=>inB p.1 d.1.length))=true:=by
  simp only[Bool.and_eq_true,decide_eq_true_eq,List.all_eq_true]
  refine⟨by have:=h.l2;omega,fun p hp=>?_⟩
  have:=(h.w2 p hp).1;simp[inB];omega
 simp only[Yld,this,Yw0,Xaj]
theorem Xqp {d:Xd} (h:Xv d):∀ (k i:Nat),i+k=d.2.1.length→Xhc [] true d ([],[],()) ((i:Int),(Ybs d.1 d.2.1 (fun _=>true) i,[],()))=some (Xaj d)
 |0,i,hi=>Y5 (by
  have e:i=d.2.1.length:=by omega
  subst e
  simp only[Xhc.B,Yw7 (Nat.le_refl _),Ywp,Xaj])
 |k+1,i,hi=>by
  have hlt:i<d.2.1.length:=by omega
  have hp:=h.w2 _ (List.getElem_mem hlt);have hl2:=h.l2
  have hin:inB d.2.1[i].1 (Ybs d.1 d.2.1 (fun _=>true) i).length=true:=by rw[Xci];simp[inB];omega
  have hg:d.2.1.getD i (0,[],())=d.2.1[i]:=by simp[List.getD,hlt]
  rw[show Xhc [] true d ([],[],()) ((i:Int),(Ybs d.1 d.2.1 (fun _=>true) i,[],()))=Xhc [] true d ([],[],()) (((i+1:Nat):Int),(Ybs d.1 d.2.1 (fun _=>true) (i+1),[],())) from Yar (by
   simp only[Xhc.B,Yxb hlt,Yxd hlt,Yw0,Ywp,Bool.not_true,Bool.false_and,toNat_cast,getD_lt _ hlt,Option.bind_some,Xaw,List.nil_append,decide_eq_true (show d.2.1[i].2.1.length≤2147483648 by have:=hp.2.1;omega),hin,Yvj (by omega:i<4294967296),Ybs,hg,if_true])]
  exact Xqp h k (i+1) (by omega)
theorem Xqs {d:Xd} (h:Xv d):Xgr d [] true=some (Xaj d):=by
 have:=Xqp h d.2.1.length 0 (by omega)
 simp only[Xgr,Xpr h,Option.bind_some];rw[show Xhc [] true d ([],[],()) (0,(d.1,[],d.2.2))=some (Xaj d) from this];rfl
def Xnv (d:Xd) (x:Xu):Xd:=(d.1,d.2.1++[(x.2.1,x.2.2.1,())],())
def Xh8:List Xu→Xd→Option Xd
 |[],d=>some d
 |x::l,d=>cond x.1 (Xh8 l (Xaj d)) (cond ((d.2.1.length:Int) == 200) none (Xh8 l (Xnv d x)))
structure X6 (d:Xd):Prop where
 ok:Xv d
 l:d.1.length=47
theorem X6.flush {d:Xd} (h:X6 d):X6 (Xaj d):=⟨Xon h.ok,by show(Ybs _ _ _ _).length=47;rw[Xci];exact h.l⟩
theorem Xlh {x:Xu} (h:Xbb x=0) (hx:x.1=false):(0≤x.2.1∧x.2.1≤46)∧X8 x.2.2.1=0:=by
 unfold Xbb at h;rw[hx] at h;simp only[Ywp] at h
 cases hr:inR x.2.1 0 46 with
 |false=>rw[hr] at h;cases h
 |true=>rw[hr] at h;exact⟨Xw.1 hr,h⟩
theorem X6.put {d:Xd} (h:X6 d) {x:Xu} (hx:Xbb x=0) (hf:x.1=false) (hl:d.2.1.length≠200):X6 (Xnv d x):=by
 obtain⟨h1,h2⟩:=Xlh hx hf;have h3:=Xes h2;have hl2:=h.ok.l2;have h47:=h.l
 refine⟨⟨h.ok.l1,by show(d.2.1++[_]).length≤200;simp;omega,h.ok.w1,fun p hp=>?_⟩,h47⟩
 rcases List.mem_append.1 hp with hp | hp
 ·exact h.ok.w2 p hp
 ·simp at hp
  subst hp
  exact⟨⟨h1.1,by show x.2.1≤(d.1.length:Int)-1;omega⟩,h3⟩
theorem Xmm:∀ {l:List Xu} {d d':Xd},X6 d→(∀ x∈l,Xbb x=0)→Xh8 l d=some d'→X6 d'
 |[],d,d',h,_,e=>by cases e;exact h
 |x::l,d,d',h,hl,e=>by
  simp only[Xh8] at e
  cases hx:x.1 with
  |true=>rw[hx,Yw0] at e;exact Xmm h.flush (fun y hy=>hl y (List.mem_cons_of_mem _ hy)) e
  |false=>
   rw[hx,Ywp] at e
   cases hn:((d.2.1.length:Int) == 200) with
   |true=>rw[hn] at e;cases e
   |false=>
    rw[hn,Ywp] at e
    exact Xmm (h.put (hl x List.mem_cons_self) hx (fun e'=>by rw[e'] at hn;cases hn)) (fun y hy=>hl y (List.mem_cons_of_mem _ hy)) e
theorem Xr8 {d:Xd} (h:X6 d) {x:Xu} (hx:Xbb x=0) (hf:x.1=false) :
  Xk8 d x.2.1 x.2.2.1=some (cond ((d.2.1.length:Int) == 200) (2,([],[],()),()) (0,Xnv d x,())):=by
 obtain⟨h1,h2⟩:=Xlh hx hf;have h3:=Xes h2;have hl2:=h.ok.l2;have h47:=h.l
 have hin:inR x.2.1 0 ((d.1.length:Int)-1)=true:=Xw.2 (by omega)
 simp only[Xk8,Xo5,h.ok.zero,Option.bind_some,show((0:Int) != 0)=false from rfl,Ywp,Xm7,Xf0,Xcf (by omega : -9223372036854775808≤(d.1.length:Int)-1) (by omega),hin,Bool.not_true,Xoe,h2]
 by_cases e:d.2.1.length=200
 ·rw[show decide ((d.2.1.length:Int)≥200)=true by simp;omega,show((d.2.1.length:Int) == 200)=true by rw[e];rfl];rfl
 ·rw[show decide ((d.2.1.length:Int)≥200)=false by simp;omega,show((d.2.1.length:Int) == 200)=false by rw[beq_eq_false_iff_ne];omega]
  simp only[Ywp,Xpr h.ok,Option.bind_some,Xaw,List.nil_append,decide_eq_true (show x.2.2.1.length≤2147483648 by have:=h3.1;omega),Yw0]
  rw[show decide ((d.2.1++[((x.2.1,x.2.2.1,()):Xo)]).length≤2147483648)=true by simp;omega]
  rfl
theorem Xpg {list:List Xu} (hl:list.length≤120) (hs:∀ x∈list,Xbb x=0) (v:Xp):∀ (k i:Nat) (d:Xd),i+k=list.length→X6 d→
  Xfe list v ((i:Int),(0,d,()))=some (match Xh8 (list.drop i) d with | some d'=>.inr (0,d',()) | none=>.inl (2,([],[],()),()))
 |0,i,d,hi,h=>by
  have e:i=list.length:=by omega
  subst e;rw[List.drop_length]
  exact Y5 (by simp only[Xfe.B,Yw7 (Nat.le_refl _),Ywp,Xh8])
 |k+1,i,d,hi,h=>by
  have hlt:i<list.length:=by omega
  have hx:=hs _ (List.getElem_mem hlt);rw[List.drop_eq_getElem_cons hlt];simp only[Xh8]
  cases hf:list[i].1 with
  |true=>
   rw[show Xfe list v ((i:Int),(0,d,()))=Xfe list v (((i+1:Nat):Int),(0,Xaj d,())) from Yar (by
    simp only[Xfe.B,Yxb hlt,Yxd hlt,Yw0,toNat_cast,getD_lt _ hlt,hf,Xqs h.ok,Option.bind_some,Yvj (by omega:i<4294967296)])]
   exact Xpg hl hs v k (i+1) _ (by omega) h.flush
  |false=>
   have hp:=Xr8 h hx hf
   cases hn:((d.2.1.length:Int) == 200) with
   |true=>
    rw[hn,Yw0] at hp
    exact Y5 (by
     simp only[Xfe.B,Yxb hlt,Yxd hlt,Yw0,Ywp,toNat_cast,getD_lt _ hlt,hf];rw[show Xk8 (d.1,d.2.1,d.2.2) list[i].2.1 list[i].2.2.1=_ from hp]
     rfl)
   |false=>
    rw[hn,Ywp] at hp
    rw[show Xfe list v ((i:Int),(0,d,()))=Xfe list v (((i+1:Nat):Int),(0,Xnv d list[i],())) from Yar (by
     simp only[Xfe.B,Yxb hlt,Yxd hlt,Yw0,Ywp,toNat_cast,getD_lt _ hlt,hf];rw[show Xk8 (d.1,d.2.1,d.2.2) list[i].2.1 list[i].2.2.1=_ from hp]
     simp only[Option.bind_some,Yvj (by omega:i<4294967296)]
     rfl)]
    exact Xpg hl hs v k (i+1) _ (by omega) (h.put hx hf (fun e'=>by rw[e'] at hn;cases hn))
theorem Xpx {list:List Xu} (hl:list.length≤120) (hs:∀ x∈list,Xbb x=0):∀ (k i:Nat) (d:Xd),i+k=list.length→X6 d→
  (match Xh8 (list.drop i) d with | some d'=>Xa0 list (list.length:Int) ((i:Int),d)=some (.inr d') | none=>∃ dx,Xa0 list (list.length:Int) ((i:Int),d)=some (.inl (2,dx)))
 |0,i,d,hi,h=>by
  have e:i=list.length:=by omega
  subst e;rw[List.drop_length]
  exact Y5 (by simp only[Xa0.B,Yw7 (Nat.le_refl _),Ywp])
 |k+1,i,d,hi,h=>by
  have hlt:i<list.length:=by omega
  have hx:=hs _ (List.getElem_mem hlt);rw[List.drop_eq_getElem_cons hlt];simp only[Xh8]
  cases hf:list[i].1 with
  |true=>
   have e1:Xa0 list (list.length:Int) ((i:Int),d)=Xa0 list (list.length:Int) (((i+1:Nat):Int),Xaj d):=Yar (by
    simp only[Xa0.B,Yxb hlt,Yxd hlt,Yw0,toNat_cast,getD_lt _ hlt,hf,Xf7,Xlr h.ok,Option.bind_some,Yvj (by omega:i<4294967296)])
   rw[e1,Yw0]
   exact Xpx hl hs k (i+1) _ (by omega) h.flush
  |false=>
   rw[Ywp]
   cases hn:((d.2.1.length:Int) == 200) with
   |true=>
    rw[Yw0]
    exact⟨d,Y5 (by
     simp only[Xa0.B,Yxb hlt,Yxd hlt,Yw0,Ywp,toNat_cast,getD_lt _ hlt,hf,hn])⟩
   |false=>
    have hl2:=h.ok.l2;have hw:=Xes (Xlh hx hf).2
    have e1:Xa0 list (list.length:Int) ((i:Int),d)=Xa0 list (list.length:Int) (((i+1:Nat):Int),Xnv d list[i]):=Yar (by
     simp only[Xa0.B,Yxb hlt,Yxd hlt,Yw0,Ywp,toNat_cast,getD_lt _ hlt,hf,hn,Xjq,Xan,Yle,decide_eq_true (show list[i].2.2.1.length≤2147483648 by have:=hw.1;omega),Option.bind_some]
     rw[show decide ((d.2.1++[((list[i].2.1,list[i].2.2.1,()):Xo)]).length≤2147483648)=true by simp;omega]
     simp only[Yw0,Option.bind_some,Yvj (by omega:i<4294967296)]
     rfl)
    rw[e1,Ywp]
    exact Xpx hl hs k (i+1) _ (by omega) (h.put hx hf (fun e'=>by rw[e'] at hn;cases hn))
theorem Xp7 {d:Xd} (h:Xv d):wt Xh d≤100000:=by
 have e:∀ w:List Int,(w.map (wt (.int .i64))).sum=w.length:=fun w=>Xh9 .i64 w
 have h1:=Ytg (wt (.sl (.int .i64))) 65 (xs:=d.1) (fun w hw=>by
  have:=(h.w1 w hw).1
  rw[Yud,e];omega)
 have h2:=Xp6 h.l2 (fun p hp=>(h.w2 p hp).2.1);have hl:=h.l1;simp only[Yud] at h2;simp only[Ypv,Yud,Ywy] at h1 ⊢;omega
theorem Xk6 {d:Xd} (hok:Xv d) (at_:Int):∀ x∈Xi d at_,0≤x∧x≤65535:=by
 unfold Xi
 cases h:Yfg d.2.1 at_ d.2.1.length with
 |some j=>
  have hj:j<d.2.1.length:=by
   have:∀ (ps:List (Int×List Int×Unit)) (k j:Nat),Yfg ps at_ k=some j→j<k:=by
    intro ps k
    induction k with
    |zero=>intro j h;cases h
    |succ k ih=>
     intro j h;unfold Yfg at h
     split at h
     ·cases h;omega
     ·have:=ih j h;omega
   exact this _ _ _ h
  show ∀ x∈(d.2.1.getD j (0,[],())).2.1,_;rw[show d.2.1.getD j (0,[],())=d.2.1[j] from getD_lt _ hj]
  exact(hok.w2 _ (List.getElem_mem hj)).2.2
 |none=>
  show ∀ x∈d.1.getD at_.toNat [],_;rw[List.getD_eq_getElem?_getD]
  cases h2:d.1[at_.toNat]? with
  |none=>intro x hx;simp at hx
  |some w=>exact(hok.w1 w (List.mem_of_getElem? h2)).2
theorem Xjp {w:List Int} (h1:w.length≤64) (h2:∀ x∈w,0≤x∧x≤65535):X8 w=0:=by
 unfold X8
 rw[show decide ((w.length:Int)>64)=false by simp;omega,Ywp]
 rw[show(w.any fun x=>!inR x 0 65535)=false from List.any_eq_false.2 (fun x hx=>by
  have:=Xw.2 (h2 x hx);simp[this])]
 rfl
theorem Xm5 {d:Xd} (hok:Xv d) (seq:Int):∀ p∈(X5 d seq).1,Xbb (toStep p)=0:=by
 unfold X5
 dsimp only
 generalize hc:(cond (decide (((Xi d 1).length:Int)<3)) true _)=c
 cases c with
 |true=>intro p hp;cases hp
 |false=>
  intro p hp
  have hb:((Xi d 1).drop 3).any Xcq=false:=by
   revert hc
   repeat' (first | (intro hc;exact hc) | (cases (decide (((Xi d 1).length:Int)<3))<;>simp only[Yw0,Ywp]) | (intro hc;cases hc) | (cases ((Xi d 1).getD 0 0 != 1)<;>simp only[Yw0,Ywp]) | (cases ((Xi d 1).getD 1 0 != seq)<;>simp only[Yw0,Ywp]) | (cases (!inR ((Xi d 1).getD 2 0) 0 10)<;>simp only[Yw0,Ywp]) | (cases (((Xi d 1).length:Int) != 3+(Xi d 1).getD 2 0)<;>simp only[Yw0,Ywp]) | (cases (!(Xi d (2+(Xi d 1).getD 2 0) == [2,seq,(Xi d 1).getD 2 0]))<;>simp only[Yw0,Ywp]))
  obtain⟨j,x,hx,rfl⟩:=Xij hp;have hx:=List.any_eq_false.1 hb x hx;simp only[Xcq,Bool.not_eq_true,Bool.not_eq_false'] at hx
  have hr:=Xw.1 (by simpa using hx)
  unfold Xbb toStep;simp only[Ywp]
  rw[Xw.2 (by omega:(0:Int)≤x∧x≤46)]
  exact Xjp (Xak hok _) (Xk6 hok _)
theorem Xmx {d:Xd} (hok:Xv d) {seq:Int} (hs:1≤seq∧seq≤60000):∀ x∈Xb2 d seq,Xbb x=0:=by
 unfold Xb2
 cases hc:(cond (!(X5 d seq).2) true (seq == 60000)) with
 |true=>intro x hx;cases hx
 |false=>
  have hne:seq≠60000:=fun e=>by
   rw[e] at hc
   cases h:(!(X5 d 60000).2)<;>rw[h] at hc<;>cases hc
  intro x hx;rcases List.mem_append.1 hx with h | h
  ·obtain⟨p,hp,rfl⟩:=List.mem_map.1 h
   exact Xm5 hok seq p hp
  ·simp at h
   have hflush:Xbb (true,0,[],())=0:=by decide
   have hsup:Xbb (false,0,[7,seq+1],())=0:=by
    unfold Xbb;simp only[Ywp]
    rw[Xw.2 (by omega:(0:Int)≤0∧(0:Int)≤46)]
    exact Xjp (w:=[7,seq+1]) (by simp) (fun y hy=>by simp at hy;rcases hy with rfl | rfl<;>omega)
   rcases h with rfl | rfl | rfl
   ·exact hflush
   ·exact hsup
   ·exact hflush
theorem Xn0 {α:Type} {c:α→Int} {l:List α} (h:∀ x∈l,c x=0):Yeo c l=0:=Xas.2 h
theorem Xsr {d:Xd} (h:X6 d) {list:List Xu} (hl:list.length≤120) (hs:∀ x∈list,Xbb x=0) :
  Xll d list=some (match Xh8 list d with | some d'=>(0,d',()) | none=>(2,([],[],()),())):=by
 have h1:((d.1.length:Int) != 47)=false:=by rw[h.l];rfl
 have h2:Xl9 list=0:=by
  unfold Xl9
  rw[show decide ((list.length:Int)>120)=false by simp;omega,Ywp]
  exact Xn0 hs
 have e1:=Xpg hl hs (0,([],[],()),()) list.length 0 d (by omega) h
 rw[List.drop_zero] at e1;simp only[Xll,Xo5,h.ok.zero,Option.bind_some,show((0:Int) != 0)=false from rfl,Ywp,h1,Xs7,h2,Xki,Xpr h.ok];rw[show Xfe list (0,([],[],()),()) (0,(0,(d.1,d.2.1,d.2.2),()))=_ from e1]
 cases Xh8 list d<;>rfl
theorem Xry (d:Xd):Xmk d=some (cond ((Xau d).2 != 0) ((Xau d).2,[],()) (0,Xb2 d (Xau d).1,())):=by
 simp only[Xmk,Xqx,Option.bind_some]
 cases h:((Xau d).2 != 0) with
 |true=>rfl
 |false=>
  have h0:(Xau d).2=0:=by simpa using h
  obtain⟨hok,h47⟩:=Xmj h0;have hr:=Xkv h0;obtain⟨b1,b2⟩:=Xg6 hok (Xau d).1;simp only[Ywp,(Xl0 hok h47 _).1,Option.bind_some]
  have e60:decide ((Xau d).1≥60000)=((Xau d).1 == 60000):=by
   by_cases e:(Xau d).1=60000
   ·rw[e];rfl
   ·rw[beq_eq_false_iff_ne.2 e];simp;omega
  simp only[Xb2,e60]
  cases (cond (!(X5 d (Xau d).1).2) true ((Xau d).1 == 60000)) with
  |true=>rfl
  |false=>
   simp only[Ywp,Xtv (l:=(X5 d (Xau d).1).1) (by omega) (fun p hp=>Nat.le_trans (b2 p hp) (by omega)),Option.bind_some,Xno,Xcf (by omega : -9223372036854775808≤(Xau d).1+1) (by omega)]
   rw[show decide (((X5 d (Xau d).1).1.map toStep++[((true,0,[],()):Xu),(false,0,[7,(Xau d).1+1],()),(true,0,[],())]).length≤2147483648)=true by simp;omega,Yw0]
def Wok (w:List Int):Prop:=w.length≤64∧∀ x∈w,0≤x∧x≤65535
def byt (v:Int):UInt8:=UInt8.ofNat (IntKind.u8.wrap v).toNat
theorem Xss {x:Int} (h1:0≤x) (h2:x≤255):IntKind.u8.wrap x=x:=by
 simp[IntKind.wrap,IntKind.bits,IntKind.signed];omega
theorem Xpu (b:UInt8):byt (b.toNat:Int)=b:=by
 have:=b.toNat_lt
 unfold byt;rw[Xss (by omega) (by omega),Int.toNat_natCast,UInt8.ofNat_toNat]
theorem Xe8 {α β ρ:Type} (p:α→Bool) (g:α→β) (r:ρ) (e:List β→ρ):∀ (l:List α) (i:Nat) (t:List β),Ya9 (fun _ v t=>cond (p v) (.inr r) (.inl (t++[g v]))) e i l t=cond (l.any p) r (e (t++l.map g))
 |[],i,t=>by simp[Ya9]
 |x::l,i,t=>by
  simp only[Ya9,List.any_cons];cases h:p x
  ·simp only[cond_false,sel,Bool.false_or];rw[Xe8 p g r e l (i+1)];simp
  ·rfl
def Xay (v:Int):Bool:=decide (v>255)
theorem Xsl (w1:List Int) (v5:Int) (v7:List Int) (v8 v9:Int) (v10:List Int) (r2 v11:Int) (v4:Bool) (l:List Int) (v3 x:Xb) (a:Int) (hl:l.length≤64) :
  Xc6 w1 v5 v7 v8 v9 v10 r2 v11 v4 l (l.length:Int) v3 x (0,([],a,()))=some (cond (l.any Xay) (.inl (false,Xa)) (.inr (l.map byt,a,()))):=by
 have h:=Ym3 (τ:=List UInt8) l (f:=fun s=>Xc6.B w1 v5 v7 v8 v9 v10 r2 v11 v4 l (l.length:Int) v3 x s.1 s.2) (fun i t=>((i:Int),(t,a,()))) (fun _ v t=>cond (Xay v) (.inr (.inl (false,Xa))) (.inl (t++[byt v])))
  (fun t=>(.inr (t,a,()):(Bool×Xb)⊕Xc)) (fun i t=>t.length=i)
  (fun i hi t ht=>by
   simp only[Xc6.B,Yxb hi,Yxd hi,Yw0,toNat_cast,getD_lt _ hi,Option.bind_some,Yvj (by omega:i<4294967296),List.map_cons,List.map_nil,List.length_cons,List.length_nil]
   rw[show decide (t.length+(0+1)≤2147483648)=true by simp;omega]
   show cond (Xay l[i]) _ _=_
   cases Xay l[i]<;>rfl)
  (fun i hi t t' ht e=>by
   cases h:Xay l[i] with
   |true=>rw[h] at e;cases e
   |false=>rw[h] at e;cases e;simp[ht])
  (fun t ht=>by simp only[Xc6.B,Yw7 (Nat.le_refl _),Ywp]) [] rfl (s:=(0,([],a,()))) rfl
 rw[Xe8] at h;exact h
def rdE:Nat→List Int→List Xc→Option (List Xc)
 |0,_,es=>some es
 |n+1,ws,es=>match ws with
  |[]=>some es
  |[_]=>none
  |a::m::rest=>if m>(rest.length:Int) then none else if (rest.take m.toNat).any Xay=true then none else rdE n (rest.drop m.toNat) (es++[((rest.take m.toNat).map byt,a,())])
theorem Xua (v3:Xb) (a m:Int) (rest:List Int) (x:Xb) (h:Wok (a::m::rest)) (hx:x.2.2.2.2.1.length≤1000) :
  Xbj.B v3 (a::m::rest) x=if m>(rest.length:Int) then some (.inr (.inl (false,Xa))) else if (rest.take m.toNat).any Xay=true then some (.inr (.inl (false,Xa))) else
   some (.inl (rest.drop m.toNat,(x.1,x.2.1,x.2.2.1,x.2.2.2.1,x.2.2.2.2.1++[((rest.take m.toNat).map byt,a,())],x.2.2.2.2.2))):=by
 obtain⟨hl,hv⟩:=h;simp only[List.length_cons] at hl
 have hm:=hv m (by simp)
 have h2:w64 (((rest.length+1+1:Nat):Int)-2)=(rest.length:Int):=by rw[Xcf (by omega) (by omega)];omega
 have h3:w64 (2+m)=2+m:=Xcf (by omega) (by omega)
 simp only[Xbj.B,List.length_cons,Xap,Option.bind_some,h2,h3,List.getD_cons_zero,List.getD_cons_succ,show(1:Int).toNat=1 from rfl,show(0:Int).toNat=0 from rfl]
 rw[show decide (((rest.length+1+1:Nat):Int)>0)=true by simp;omega,show decide (((rest.length+1+1:Nat):Int)<2)=false by simp;omega,
  show inB 1 (rest.length+1+1)=true from Yuo (by omega) (by omega),show inB 0 (rest.length+1+1)=true from Yuo (by omega) (by omega)]
 simp only[Yw0,Ywp]
 by_cases hc:m>(rest.length:Int)
 ·rw[if_pos hc,show decide (m>(rest.length:Int))=true by simp;omega];rfl
 ·rw[if_neg hc,show decide (m>(rest.length:Int))=false by simp;omega]
  have e1:(2+m).toNat=m.toNat+2:=by omega
  have e2:((a::m::rest).take (2+m).toNat).drop ((2:Int).toNat)=rest.take m.toNat:=by rw[e1];rfl
  have e3:((a::m::rest).take (rest.length+1+1)).drop (2+m).toNat=rest.drop m.toNat:=by
   rw[e1,List.take_of_length_le (by simp)];rfl
  rw[e2,e3,Xsl _ _ _ _ _ _ _ _ _ _ _ _ _ (by rw[List.length_take];omega)]
  rw[show(decide ((0:Int)≤2+m)&&decide (2+m≤((rest.length+1+1:Nat):Int))&&(decide ((0:Int)≤2)&&decide ((2:Int)≤2+m)))=true by simp;omega,
   show(decide ((0:Int)≤2+m)&&decide (2+m≤((rest.length+1+1:Nat):Int)))=true by simp;omega]
  simp only[Yw0,Ywp]
  cases ha:(rest.take m.toNat).any Xay with
  |true=>rfl
  |false=>
   simp only[Ywp,Option.bind_some,Ywz]
   rw[Xfd (by simp;omega)]
   simp
theorem Xqw (v3:Xb):∀ (n:Nat) (ws:List Int) (x:Xb),ws.length<n→Wok ws→x.2.2.2.2.1.length+ws.length≤1000→
  Xbj v3 (ws,x)=some (match rdE n ws x.2.2.2.2.1 with | some es=>.inr (x.1,x.2.1,x.2.2.1,x.2.2.2.1,es,()) | none=>.inl (false,Xa))
 |0,ws,x,h,_,_=>by omega
 |n+1,[],x,h,hw,hx=>by
  exact Y5 (f:=fun s=>Xbj.B v3 s.1 s.2) (by rfl)
 |n+1,[a],x,h,hw,hx=>by
  exact Y5 (f:=fun s=>Xbj.B v3 s.1 s.2) (by rfl)
 |n+1,a::m::rest,x,h,hw,hx=>by
  have hB:=Xua v3 a m rest x hw (by omega)
  have hl:=hw.1;simp only[List.length_cons] at h hx hl;simp only[rdE]
  by_cases hc:m>(rest.length:Int)
  ·rw[if_pos hc] at hB ⊢
   exact Y5 (f:=fun s=>Xbj.B v3 s.1 s.2) hB
  ·rw[if_neg hc] at hB ⊢
   cases ha:(rest.take m.toNat).any Xay with
   |true=>
    rw[ha,if_pos rfl] at hB;rw[if_pos rfl]
    exact Y5 (f:=fun s=>Xbj.B v3 s.1 s.2) hB
   |false=>
    rw[ha,if_neg (by simp)] at hB;rw[if_neg (by simp)]
    show Y9 (fun s=>Xbj.B v3 s.1 s.2) (a::m::rest,x)=_;rw[Yar (f:=fun s=>Xbj.B v3 s.1 s.2) hB]
    exact Xqw v3 n _ _ (by rw[List.length_drop];omega) ⟨by rw[List.length_drop];omega,fun y hy=>hw.2 y (by simp[List.mem_of_mem_drop hy])⟩ (by simp;omega)
def X4 (w:List Int):Xb×Bool:=
 if w.length<3 then(Xa,false) else if w.getD 0 0≠2 then((w.getD 0 0,w.getD 1 0,w.getD 2 0,w.drop 3,[],()),true) else
  match w.drop 3 with
  |[]=>(Xa,false)
  |_::ws=>match rdE 64 ws [] with
   |some es=>((w.getD 0 0,w.getD 1 0,w.getD 2 0,[],es,()),true)
   |none=>(Xa,false)
theorem Xro {w:List Int} (h:Wok w):Xcb w=some (X4 w):=by
 obtain⟨hl,hv⟩:=h;unfold X4
 by_cases h3:w.length<3
 ·rw[if_pos h3]
  simp only[Xcb]
  rw[show decide ((w.length:Int)<3)=true by simp;omega];rfl
 ·rw[if_neg h3]
  have i0:inB 0 w.length=true:=Yuo (by omega) (by omega)
  have i1:inB 1 w.length=true:=Yuo (by omega) (by omega)
  have i2:inB 2 w.length=true:=Yuo (by omega) (by omega)
  simp only[Xcb,i0,i1,i2,List.take_length,show(0:Int).toNat=0 from rfl,show(1:Int).toNat=1 from rfl,show(2:Int).toNat=2 from rfl,show(3:Int).toNat=3 from rfl]
  rw[show decide ((w.length:Int)<3)=false by simp;omega,show(decide ((0:Int)≤(3:Int))&&decide ((3:Int)≤(w.length:Int)))=true by simp;omega]
  simp only[Yw0,Ywp]
  by_cases h2:w.getD 0 0=2
  ·rw[if_neg (by simpa using h2),show(w.getD 0 0 != 2)=false by rw[h2];rfl]
   simp only[Ywp,Option.bind_some]
   cases hd:w.drop 3 with
   |nil=>rfl
   |cons a ws=>
    have hws:ws.length+1+3=w.length:=by
     have:=congrArg List.length hd;simp at this;omega
    have hm:∀ y∈ws,y∈w:=fun y hy=>List.mem_of_mem_drop (i:=3) (by rw[hd];exact List.mem_cons_of_mem _ hy)
    rw[show(((a::ws).length:Int) == 0)=false by simp;omega,show(decide ((0:Int)≤(1:Int))&&decide ((1:Int)≤((a::ws).length:Int)))=true by simp;omega]
    simp only[Yw0,Ywp,List.take_length,List.drop_succ_cons,List.drop_zero]
    rw[Xqw _ 64 ws _ (by omega) ⟨by omega,fun y hy=>hv y (hm y hy)⟩ (by simp;omega)]
    simp only[Option.bind_some]
    cases rdE 64 ws []<;>rfl
  ·rw[if_pos h2,show(w.getD 0 0 != 2)=true by simpa using h2]
   simp only[Yw0,Xan]
   rw[Xch (by simp;omega)]
   rfl
theorem Xmw:∀ (l:List Xc) (n:Nat) (es:List Xc),(∀ e∈l,e.1.length≤4)→l.length<n→rdE n (l.flatMap Xag) es=some (es++l)
 |[],n+1,es,_,_=>by simp[rdE]
 |e::l,n+1,es,h,hn=>by
  have h1:=h e (List.mem_cons_self ..);simp only[List.length_cons] at hn
  have e0:(e::l).flatMap Xag=e.2.1::(e.1.length:Int)::((e.1.map fun b=>(b.toNat:Int))++l.flatMap Xag):=by simp[Xag]
  rw[e0];simp only[rdE]
  have hl:(e.1.map fun b=>(b.toNat:Int)).length=e.1.length:=by simp
  have et:((e.1.map fun b=>(b.toNat:Int))++l.flatMap Xag).take e.1.length=e.1.map fun b=>(b.toNat:Int):=by rw[List.take_append_of_le_length (by omega),List.take_of_length_le (by omega)]
  have ed:((e.1.map fun b=>(b.toNat:Int))++l.flatMap Xag).drop e.1.length=l.flatMap Xag:=by rw[List.drop_append_of_le_length (by omega),List.drop_of_length_le (by omega)];rfl
  rw[if_neg (by rw[List.length_append,hl];omega),Int.toNat_natCast,et,ed,if_neg (by
   simp only[List.any_map,Function.comp_def,Xay,List.any_eq_true,decide_eq_true_eq,not_exists,not_and]
   intro b _;have:=b.toNat_lt;omega)]
  have em:(e.1.map fun b=>(b.toNat:Int)).map byt=e.1:=by
   rw[List.map_map];conv=>rhs;rw[←List.map_id e.1]
   exact List.map_congr_left fun b _=>Xpu b
  rw[em,Xmw l n _ (fun x hx=>h x (List.mem_cons_of_mem _ hx)) (by omega)]
  simp
theorem Xpw:∀ (n:Nat) (ws:List Int) (es es':List Xc),rdE n ws es=some es'→ws.length≤64→es'.length≤es.length+ws.length∧∀ e∈es',e∈es∨e.1.length≤64
 |0,ws,es,es',h,_=>by simp only[rdE,Option.some.injEq] at h;subst h;exact⟨by omega,fun e he=>.inl he⟩
 |n+1,[],es,es',h,_=>by simp only[rdE,Option.some.injEq] at h;subst h;exact⟨by omega,fun e he=>.inl he⟩
 |n+1,[a],es,es',h,_=>by simp[rdE] at h
 |n+1,a::m::rest,es,es',h,hl=>by
  simp only[rdE] at h;simp only[List.length_cons] at hl
  split at h
  ·cases h
  ·split at h
   ·cases h
   ·obtain⟨h1,h2⟩:=Xpw n _ _ _ h (by rw[List.length_drop];omega)
    refine⟨by simp only[List.length_append,List.length_drop,List.length_cons,List.length_nil] at h1 ⊢;omega,fun e he=>?_⟩
    rcases h2 e he with h3 | h3
    ·rcases List.mem_append.1 h3 with h3 | h3
     ·exact .inl h3
     ·simp only[List.mem_singleton] at h3;subst h3;right;simp only[List.length_map,List.length_take];omega
    ·exact .inr h3
theorem Xib {a b c:Int} {bs:List Int} {es:List Xc} (h1:bs.length≤64) (h2:es.length≤1000) (h3:∀ e∈es,e.1.length≤64):Bd Xe (a,b,c,bs,es,()):=
 ⟨trivial,trivial,trivial,⟨by show bs.length≤_;omega,fun _ _=>trivial⟩,⟨by show es.length≤_;omega,fun e he=>⟨by show e.1.length≤_;have:=h3 e he;omega,trivial,trivial⟩⟩,trivial⟩
theorem Xo1 {w:List Int} (h:w.length≤64):Bd Xe (X4 w).1:=by
 have hz:Bd Xe Xa:=Xib (by simp) (by simp) (by simp)
 unfold X4
 split
 ·exact hz
 ·split
  ·exact Xib (by simp;omega) (by simp) (by simp)
  ·split
   ·exact hz
   ·rename_i a ws hd
    have hws:ws.length+1+3=w.length:=by have:=congrArg List.length hd;simp at this;omega
    split
    ·rename_i es he
     obtain⟨h1,h2⟩:=Xpw _ _ _ _ he (by omega)
     exact Xib (by simp) (by simp at h1;omega) (fun e hx=>(h2 e hx).resolve_left (by simp))
    ·exact hz
theorem Xmy {y:Xb} (h:Xt y=0) (h2:y.1=2):Xa2 y=2::y.2.1::y.2.2.1::(y.2.2.2.2.1.length:Int)::y.2.2.2.2.1.flatMap Xag∧y.2.2.2.1=[]:=by
 have hb:=(Xar h).2.2.1 (by rw[h2];decide)
 refine⟨?_,hb⟩;unfold Xa2
 rw[show(y.1 != 2)=false by rw[h2];rfl,Ywp,hb,h2];simp
theorem Xl7 {y:Xb} (h:Xt y=0) (h2:y.1≠2):Xa2 y=y.1::y.2.1::y.2.2.1::y.2.2.2.1∧y.2.2.2.2.1=[]:=by
 refine⟨?_,(Xa6 h).2.2.1 h2⟩;unfold Xa2
 rw[show(y.1 != 2)=true by simpa using h2,Yw0];simp
theorem Xns {y:Xb} (h:Xt y=0):X4 (Xa2 y)=(y,true):=by
 obtain⟨k,l,s,bs,es,⟨⟩⟩:=y;have hs:=Xah.of h
 by_cases h2:k=2
 ·subst h2
  obtain⟨e1,e2⟩:=Xmy h rfl;simp only at e1 e2;subst e2;rw[e1];unfold X4
  rw[if_neg (by simp),if_neg (by simp)]
  simp only[List.drop_succ_cons,List.drop_zero,List.getD_cons_zero,List.getD_cons_succ]
  rw[Xmw es 64 [] hs.nam (by have:=hs.ent;simp only at this;omega)]
  rfl
 ·obtain⟨e1,e2⟩:=Xl7 h h2
  simp only at e1 e2;subst e2;rw[e1];unfold X4
  rw[if_neg (by simp),if_pos (by simpa using h2)]
  rfl
theorem Xl2 (w:List Int) (i:Nat):Xhj w (i:Int)=some (w.getD i 0):=by
 unfold Xhj
 by_cases h:i<w.length
 ·rw[Yxb h,Yxd h];simp
 ·rw[Yw7 (by omega)];simp only[Ywp];congr 1;simp[List.getD,List.getElem?_eq_none (by omega:w.length≤i)]
def nmC (w:List Int) (at_:Nat):Nat:=min (w.getD (at_+1) 0).toNat 8
def nmF (w:List Int) (at_:Nat):List UInt8:=(List.range (nmC w at_)).map fun i=>byt ((w.getD (at_+2+i) 0).tmod 256)
theorem Xtf (w:List Int) (k r4:Int) (v4:Int) (v5:List Int) (v6:Bool) (v2 x:Xb) (at_:Nat) (a:Int) (h0:0≤w.getD (at_+1) 0) (ha:at_≤1000) :
  Xhv w k (w.getD (at_+1) 0) v4 v5 r4 v6 v2 x (((at_+2:Nat):Int),0,([],a,()))=some (((at_+2+nmC w at_:Nat):Int),(nmF w at_,a,())):=by
 have hc:nmC w at_≤8:=Nat.min_le_right _ _
 have hr:(List.range (nmC w at_)).length=nmC w at_:=by simp
 have h:=Ym3 (τ:=List UInt8) (List.range (nmC w at_)) (f:=fun s=>Xhv.B w k (w.getD (at_+1) 0) v4 v5 r4 v6 v2 x s.1 s.2.1 s.2.2) (fun i t=>(((at_+2+i:Nat):Int),(i:Int),(t,a,())))
  (fun _ j t=>.inl (t++[byt ((w.getD (at_+2+j) 0).tmod 256)])) (fun t=>(((at_+2+nmC w at_:Nat):Int),((t,a,()):Xc))) (fun i t=>t.length=i)
  (fun i hi t ht=>by
   rw[hr] at hi
   have h1:(i:Int)<w.getD (at_+1) 0:=by unfold nmC at hi;omega
   have h2:(i:Int)<8:=by omega
   simp only[Xhv.B,decide_eq_true h1,decide_eq_true h2,Yw0,Xl2,Option.bind_some,List.map_cons,List.map_nil,List.length_cons,List.length_nil,Yvj (by omega:i<4294967296),Yvj (by omega:at_+2+i<4294967296),List.getElem_range]
   rw[show decide (t.length+(0+1)≤2147483648)=true by simp;omega]
   rfl) (fun i hi t t' ht e=>by cases e;simp[ht]) (fun t ht=>by
   rw[hr]
   have h1:(cond (decide (((nmC w at_:Nat):Int)<w.getD (at_+1) 0)) (decide (((nmC w at_:Nat):Int)<8)) false)=false:=by
    unfold nmC
    by_cases h1:((min (w.getD (at_+1) 0).toNat 8:Nat):Int)<w.getD (at_+1) 0
    ·rw[decide_eq_false (by omega:¬ ((min (w.getD (at_+1) 0).toNat 8:Nat):Int)<8)];cases decide (((min (w.getD (at_+1) 0).toNat 8:Nat):Int)<w.getD (at_+1) 0)<;>rfl
    ·rw[decide_eq_false h1];rfl
   simp only[Xhv.B,h1,Option.bind_some,Ywp]) [] rfl (s:=(((at_+2:Nat):Int),0,([],a,()))) rfl
 rw[Ypz] at h;exact h
def spE (w:List Int) (kd n:Int):Nat→Nat→Nat→List Xc→List Xc
 |0,_,_,es=>es
 |f+1,at_,k,es=>if kd=2∧(k:Int)<n∧at_<w.length then spE w kd n f (at_+2+nmC w at_) (k+1) (es++[(nmF w at_,w.getD at_ 0,())]) else es
theorem Xrg (w:List Int) (at_:Nat):(nmF w at_).length≤8:=by simp only[nmF,List.length_map,List.length_range];exact Nat.min_le_right _ _
theorem Xq8 {w:List Int} (h:Wok w) (i:Nat):0≤w.getD i 0:=by
 by_cases hi:i<w.length
 ·rw[getD_lt _ hi];exact(h.2 _ (List.getElem_mem hi)).1
 ·simp[List.getD,List.getElem?_eq_none (by omega:w.length≤i)]
theorem Xq0 {w:List Int} (v2:Xb) (hw:Wok w):∀ (f at_ k:Nat) (x:Xb),w.length<at_+f→at_≤200→k≤at_→x.2.2.2.2.1.length≤at_→
  Xds w v2 ((at_:Int),(k:Int),x)=some (x.1,x.2.1,x.2.2.1,x.2.2.2.1,spE w x.1 (w.getD 3 0) f at_ k x.2.2.2.2.1,())
 |0,at_,k,x,h1,h2,h3,h4=>by
  refine Y5 (f:=fun s=>Xds.B w v2 s.1 s.2.1 s.2.2) ?_;simp only[Xds.B,show(3:Int)=((3:Nat):Int) from rfl,Xl2,Option.bind_some,spE]
  rw[Yw7 (by omega:w.length≤at_)]
  cases (x.1 == 2)<;>cases decide ((k:Int)<w.getD 3 0)<;>rfl
 |f+1,at_,k,x,h1,h2,h3,h4=>by
  have hl:=hw.1;simp only[spE]
  by_cases hc:x.1=2∧(k:Int)<w.getD 3 0∧at_<w.length
  ·obtain⟨c1,c2,c3⟩:=hc
   rw[if_pos ⟨c1,c2,c3⟩]
   have hB:Xds.B w v2 (at_:Int) (k:Int) x=some (.inl (((at_+2+nmC w at_:Nat):Int),((k+1:Nat):Int),(x.1,x.2.1,x.2.2.1,x.2.2.2.1,x.2.2.2.2.1++[(nmF w at_,w.getD at_ 0,())],x.2.2.2.2.2))):=by
    simp only[Xds.B,show(3:Int)=((3:Nat):Int) from rfl,Xl2,Option.bind_some]
    rw[show(x.1 == 2)=true by rw[c1];rfl,decide_eq_true c2,Yxb c3,Yvj (by omega:at_<4294967296),Yvj (by omega:k<4294967296),show w64 ((at_:Int)+2)=((at_+2:Nat):Int) by rw[Xcf (by omega) (by omega)];omega]
    simp only[Yw0,Xl2,Option.bind_some]
    rw[Xtf w _ _ _ _ _ _ _ _ _ (Xq8 hw _) (by omega)]
    simp only[Option.bind_some]
    rw[Xfd (by simp;omega)];rfl
   show Y9 (fun s=>Xds.B w v2 s.1 s.2.1 s.2.2) _=_;rw[Yar (f:=fun s=>Xds.B w v2 s.1 s.2.1 s.2.2) hB];have hc:nmC w at_≤8:=Nat.min_le_right _ _
   exact Xq0 v2 hw f _ _ _ (by omega) (by omega) (by omega) (by simp;omega)
  ·rw[if_neg hc]
   refine Y5 (f:=fun s=>Xds.B w v2 s.1 s.2.1 s.2.2) ?_;simp only[Xds.B,show(3:Int)=((3:Nat):Int) from rfl,Xl2,Option.bind_some]
   by_cases c1:x.1=2
   ·by_cases c2:(k:Int)<w.getD 3 0
    ·rw[Yw7 (by omega:w.length≤at_),show(x.1 == 2)=true by rw[c1];rfl,decide_eq_true c2];rfl
    ·rw[decide_eq_false c2,show(x.1 == 2)=true by rw[c1];rfl];rfl
   ·rw[show(x.1 == 2)=false by simpa using c1];rfl
theorem Xn1 {w:List Int} (v2:Xb) (hw:Wok w) (x:Xb) (hx:x.2.2.2.2.1=[]):Xds w v2 (4,0,x)=some (x.1,x.2.1,x.2.2.1,x.2.2.2.1,spE w x.1 (w.getD 3 0) 64 4 0 [],()):=by
 have h:=Xq0 v2 hw 64 4 0 x (by have:=hw.1;omega) (by omega) (by omega) (by rw[hx];simp)
 rw[hx] at h;exact h
theorem Xmt {w:List Int}:∀ (l:List Xc) (f k:Nat) (pre:List Int) (es:List Xc),w=pre++l.flatMap Xag→(∀ e∈l,e.1.length≤4)→l.length<f→spE w 2 ((k+l.length:Nat):Int) f pre.length k es=es++l
 |[],f+1,k,pre,es,hw,_,_=>by simp[spE]
 |e::l,f+1,k,pre,es,hw,h,hn=>by
  have h1:=h e (List.mem_cons_self ..);simp only[List.length_cons] at hn
  have e0:(e::l).flatMap Xag=e.2.1::(e.1.length:Int)::((e.1.map fun b=>(b.toNat:Int))++l.flatMap Xag):=by simp[Xag]
  have hlen:pre.length<w.length:=by rw[hw,e0];simp
  have g0:w.getD pre.length 0=e.2.1:=by rw[hw,e0];simp[List.getD]
  have g1:w.getD (pre.length+1) 0=(e.1.length:Int):=by rw[hw,e0];simp[List.getD]
  have g2:∀ i (hi:i<e.1.length),w.getD (pre.length+2+i) 0=((e.1[i]).toNat:Int):=fun i hi=>by
   rw[hw,e0];simp only[List.getD]
   rw[List.getElem?_append_right (by omega),show pre.length+2+i-pre.length=i+1+1 by omega,List.getElem?_cons_succ,List.getElem?_cons_succ,List.getElem?_append_left (by simpa using hi),List.getElem?_map,List.getElem?_eq_getElem hi];rfl
  have hc:nmC w pre.length=e.1.length:=by unfold nmC;rw[g1];omega
  have hn2:nmF w pre.length=e.1:=by
   unfold nmF;rw[hc]
   refine List.ext_getElem (by simp) fun i hi hi'=>?_
   simp only[List.getElem_map,List.getElem_range];have:=(e.1[i]).toNat_lt
   rw[g2 i hi',Int.tmod_eq_of_lt (by omega) (by omega),Xpu]
  simp only[spE]
  rw[if_pos (by refine⟨trivial,?_,hlen⟩;simp only[List.length_cons];omega),hn2,g0,hc]
  have:=Xmt (w:=w) l f (k+1) (pre++Xag e) (es++[(e.1,e.2.1,())]) (by rw[hw];simp) (fun x hx=>h x (List.mem_cons_of_mem _ hx)) (by omega)
  rw[show(pre++Xag e).length=pre.length+2+e.1.length by simp[Xag];omega,show k+1+l.length=k+(e::l).length by simp;omega] at this
  rw[this];simp
theorem Xq9 (w:List Int) (kd n:Int) (h:kd≠2):∀ (f a k:Nat) (es:List Xc),spE w kd n f a k es=es
 |0,_,_,_=>rfl
 |f+1,_,_,_=>if_neg fun c=>h c.1
theorem Xpc (w:List Int) (kd n:Int):∀ (f at_ k:Nat) (es:List Xc),(spE w kd n f at_ k es).length≤es.length+f∧∀ e∈spE w kd n f at_ k es,e∈es∨e.1.length≤64
 |0,at_,k,es=>⟨by simp[spE],fun e he=>.inl he⟩
 |f+1,at_,k,es=>by
  simp only[spE]
  split
  ·obtain⟨h1,h2⟩:=Xpc w kd n f (at_+2+nmC w at_) (k+1) (es++[(nmF w at_,w.getD at_ 0,())])
   refine⟨by simp only[List.length_append,List.length_cons,List.length_nil] at h1;omega,fun e he=>?_⟩
   rcases h2 e he with h3 | h3
   ·rcases List.mem_append.1 h3 with h3 | h3
    ·exact .inl h3
    ·simp only[List.mem_singleton] at h3;subst h3;right;have:=Xrg w at_;simp only;omega
   ·exact .inr h3
  ·exact⟨by omega,fun e he=>.inl he⟩
def Xaf (w:List Int):Xb:=(w.getD 0 0,w.getD 1 0,w.getD 2 0,(if w.getD 0 0=1∧3<w.length then w.drop 3 else[]),spE w (w.getD 0 0) (w.getD 3 0) 64 4 0 [],())
theorem Xo6 {w:List Int} (h:w.length≤64):Bd Xe (Xaf w):=by
 obtain⟨h1,h2⟩:=Xpc w (w.getD 0 0) (w.getD 3 0) 64 4 0 []
 refine Xib ?_ (by simp only[List.length_nil] at h1;omega) (fun e he=>(h2 e he).resolve_left (by simp))
 split
 ·simp;omega
 ·simp
theorem Xle {y:Xb} (h:Xt y=0):Xaf (Xa2 y)=y:=by
 obtain⟨k,l,s,bs,es,⟨⟩⟩:=y;have hs:=Xah.of h
 by_cases h2:k=2
 ·subst h2
  obtain⟨e1,e2⟩:=Xmy h rfl;simp only at e1 e2;subst e2;rw[e1];unfold Xaf;simp only[List.getD_cons_zero,List.getD_cons_succ]
  rw[if_neg (by simp)]
  have:=Xmt (w:=2::l::s::(es.length:Int)::es.flatMap Xag) es 64 0 [2,l,s,(es.length:Int)] [] (by simp) hs.nam (by have:=hs.ent;simp only at this;omega)
  simp only[Nat.zero_add,List.length_cons,List.length_nil,List.nil_append] at this;rw[this]
 ·obtain⟨e1,e2⟩:=Xl7 h h2
  simp only at e1 e2;subst e2;rw[e1];unfold Xaf;simp only[List.getD_cons_zero,List.getD_cons_succ,List.drop_succ_cons,List.drop_zero,List.length_cons];have hsp:∀ n,spE (k::l::s::bs) k n 64 4 0 []=[]:=fun n=>Xq9 _ _ _ h2 _ _ _ _;rw[hsp];have hb:=(Xar h).2.2.1;simp only at hb
  by_cases h1:k=1
  ·by_cases h3:bs=[]
   ·subst h3;simp
   ·have:0<bs.length:=List.length_pos_iff.2 h3
    rw[if_pos ⟨h1,by omega⟩]
  ·rw[if_neg (by simp[h1]),hb h1]
noncomputable def Xbi (w:List Int):Option Xb:=open Classical in if w=[] then some Xa else if Xt (X4 w).1=0∧Xa2 (X4 w).1=w∧(X4 w).2=true then some (X4 w).1 else none
theorem Xf8 {w:List Int} (hw:w≠[]) {y:Xb}:Xbi w=some y↔Xt y=0∧Xa2 y=w:=by
 unfold Xbi;rw[if_neg hw]
 constructor
 ·intro h
  split at h
  ·rename_i hc;cases h;exact⟨hc.1,hc.2.1⟩
  ·cases h
 ·rintro⟨h1,rfl⟩
  rw[Xns h1,if_pos ⟨h1,rfl,rfl⟩]
theorem Xto {w:List Int} (h:Wok w):Xh3 w=some (match Xbi w with | some y=>(y,0) | none=>(Xa,5)):=by
 have hwf:X8 w=0:=by
  unfold X8
  rw[show decide ((w.length:Int)>64)=false by have:=h.1;simp;omega,show(w.any fun x=>!inR x 0 65535)=false by
   rw[List.any_eq_false];intro x hx;have:=h.2 x hx;simp[Xw.2 this]];rfl
 simp only[Xh3,Xpl,Option.bind_some,hwf]
 by_cases hw:w=[]
 ·subst hw;simp[Xbi];rfl
 ·have hlen:0<w.length:=List.length_pos_iff.2 hw
  rw[show(cond ((0:Int) != 0) true ((w.length:Int) == 0))=false by simp;omega,Ywp,Xro h]
  simp only[Option.bind_some];have hbd:=Xo1 h.1;have hno:∀ {b:Bool},(b=true→False)→Xbi w=none→True:=fun _ _=>trivial
  cases hr:(X4 w).2 with
  |false=>
   have:Xbi w=none:=by unfold Xbi;rw[if_neg hw,if_neg (by rw[hr];simp)]
   rw[this];rfl
  |true=>
   simp only[Bool.not_true,Ywp];rw[show Xd8 ((X4 w).1.1,(X4 w).1.2.1,(X4 w).1.2.2.1,(X4 w).1.2.2.2.1,(X4 w).1.2.2.2.2.1,(X4 w).1.2.2.2.2.2)=some (Xt (X4 w).1) from Xq1 _ hbd];simp only[Option.bind_some]
   by_cases hf:Xt (X4 w).1=0
   ·rw[hf]
    simp only[Yv5,Ywp];rw[show Xb7 ((X4 w).1.1,(X4 w).1.2.1,(X4 w).1.2.2.1,(X4 w).1.2.2.2.1,(X4 w).1.2.2.2.2.1,(X4 w).1.2.2.2.2.2)=some (Xa2 (X4 w).1) from Xsw _ (Xah.of hf)];simp only[Option.bind_some]
    rw[Xqo _ _ (by have:=Xlo (Xah.of hf);omega)]
    simp only[Option.bind_some]
    by_cases hp:Xa2 (X4 w).1=w
    ·rw[show Xbi w=some (X4 w).1 from(Xf8 hw).2 ⟨hf,hp⟩,show(Xa2 (X4 w).1 == w)=true by simpa using hp];rfl
    ·rw[show Xbi w=none by unfold Xbi;rw[if_neg hw,if_neg (by simp[hp])],show(Xa2 (X4 w).1 == w)=false by simpa using hp];rfl
   ·rw[show(Xt (X4 w).1 != 0)=true by simpa using hf,show Xbi w=none by unfold Xbi;rw[if_neg hw,if_neg (by simp[hf])]];rfl
theorem Xsj {w:List Int} (h:Wok w):∃ z,Xgt w=some (match Xbi w with | some y=>(y,true) | none=>(z,false)):=by
 by_cases hw:w=[]
 ·subst hw;exact⟨Xa,by simp[Xbi];rfl⟩
 ·have hlen:0<w.length:=List.length_pos_iff.2 hw
  have hl:=h.1;refine⟨Xaf w,?_⟩
  have fin:(Xg9 (Xaf w)).bind (fun r=>cond (r == 0) ((Xkd (Xaf w)).bind fun q=>(Xhb q w).bind fun b=>some (Xaf w,b)) (some (Xaf w,false)))=some (match Xbi w with | some y=>(y,true) | none=>(Xaf w,false)):=by
   rw[Xq4 _ (Xo6 hl)];simp only[Option.bind_some]
   by_cases hf:Xt (Xaf w)=0
   ·rw[hf,show((0:Int) == 0)=true from rfl,Yw0,Xtd _ (Xah.of hf)]
    simp only[Option.bind_some]
    rw[Xql _ _ (by have:=Xlo (Xah.of hf);omega)]
    simp only[Option.bind_some]
    by_cases hp:Xa2 (Xaf w)=w
    ·rw[show Xbi w=some (Xaf w) from(Xf8 hw).2 ⟨hf,hp⟩,show(Xa2 (Xaf w) == w)=true by simpa using hp]
    ·have:Xbi w=none:=by
      cases hu:Xbi w with
      |none=>rfl
      |some y=>
       obtain⟨h1,h2⟩:=(Xf8 hw).1 hu;subst h2;rw[Xle h1] at hp;exact absurd rfl hp
     rw[this,show(Xa2 (Xaf w) == w)=false by simpa using hp]
   ·have:Xbi w=none:=by
     cases hu:Xbi w with
     |none=>rfl
     |some y=>
      obtain⟨h1,h2⟩:=(Xf8 hw).1 hu;subst h2;rw[Xle h1] at hf;exact absurd h1 hf
    rw[this,show(Xt (Xaf w) == 0)=false by simpa using hf,Ywp]
  have hz:Xgt w=(Xg9 (Xaf w)).bind (fun r=>cond (r == 0) ((Xkd (Xaf w)).bind fun q=>(Xhb q w).bind fun b=>some (Xaf w,b)) (some (Xaf w,false))):=by
   simp only[Xgt,show(1:Int)=((1:Nat):Int) from rfl,show(2:Int)=((2:Nat):Int) from rfl,Xl2,Option.bind_some,List.take_length,show(0:Int).toNat=0 from rfl,show(3:Int).toNat=3 from rfl]
   rw[show((w.length:Int) == 0)=false by simp;omega,Ywp,Yuo (Int.le_refl 0) (by omega:(0:Int)<w.length),Yw0]
   by_cases hk:w.getD 0 0=1
   ·by_cases h3:3<w.length
    ·rw[show(cond (w.getD 0 0 == ((1:Nat):Int)) (decide ((w.length:Int)>3)) false)=true by rw[hk];simp;omega,Yw0,show(decide ((0:Int)≤(3:Int))&&decide ((3:Int)≤(w.length:Int)))=true by simp;omega,Yw0]
     simp only[Xaw,List.nil_append]
     rw[Xfd (by simp;omega)]
     simp only[Yw0,Option.bind_some];rw[Xn1 _ h _ rfl];simp only[Option.bind_some]
     rw[show(w.getD 0 0,w.getD 1 0,w.getD 2 0,w.drop 3,spE w (w.getD 0 0) (w.getD 3 0) 64 4 0 [],())=Xaf w by unfold Xaf;rw[if_pos ⟨hk,h3⟩]]
    ·rw[show(cond (w.getD 0 0 == ((1:Nat):Int)) (decide ((w.length:Int)>3)) false)=false by rw[hk];simp;omega,Ywp]
     rw[Xn1 _ h _ rfl];simp only[Option.bind_some]
     rw[show(w.getD 0 0,w.getD 1 0,w.getD 2 0,[],spE w (w.getD 0 0) (w.getD 3 0) 64 4 0 [],())=Xaf w by unfold Xaf;rw[if_neg (by omega)]]
   ·rw[show(cond (w.getD 0 0 == ((1:Nat):Int)) (decide ((w.length:Int)>3)) false)=false by rw[show(w.getD 0 0 == ((1:Nat):Int))=false by simpa using hk];rfl,Ywp]
    rw[Xn1 _ h _ rfl];simp only[Option.bind_some]
    rw[show(w.getD 0 0,w.getD 1 0,w.getD 2 0,[],spE w (w.getD 0 0) (w.getD 3 0) 64 4 0 [],())=Xaf w by unfold Xaf;rw[if_neg fun c=>hk c.1]]
  rw[hz,fin]
def Xk0 (d:Xd):Prop:=∃ s:Int,(1≤s∧s≤60000)∧Xi d 0=[7,s]
theorem Xpe {d:Xd} (h:X6 d) (hs:Xk0 d):(Xau d).2=0:=by
 obtain⟨s,hr,hb⟩:=hs;unfold Xau;rw[h.ok.zero,hb,h.l,show inR (([7,s]:List Int).getD 1 0) 1 60000=true from Xw.2 hr];rfl
theorem Xrd {d:Xd} (h:(Xau d).2=0):Xk0 d:=by
 obtain⟨hok,h47⟩:=Xmj h;have hr:=Xkv h;unfold Xau at h hr;rw[hok.zero,h47] at h hr;simp only[show((0:Int) != 0)=false from rfl,show((47:Int) != 47)=false from rfl,Ywp] at h hr;generalize hbb:Xi d 0=b at h hr
 cases h3:cond ((b.length:Int) != 2) true (b.getD 0 0 != 7) with
 |true=>rw[h3] at h;cases h
 |false=>
  rw[h3] at h hr;simp only[Ywp] at h hr
  cases h4:inR (b.getD 1 0) 1 60000 with
  |false=>rw[h4] at h;cases h
  |true=>
   cases h2:((b.length:Int) != 2) with
   |true=>rw[h2] at h3;cases h3
   |false=>
    rw[h2] at h3
    have h7:b.getD 0 0=7:=by simpa using h3
    have hl:b.length=2:=by
      have:(b.length:Int)=2:=by simpa using h2
      omega
    obtain⟨x,y,rfl⟩:∃ x y,b=[x,y]:=by
     match b,hl with
     |[x,y],_=>exact⟨x,y,rfl⟩
    have:x=7:=h7;subst this;exact⟨y,Xw.1 h4,hbb⟩
theorem Xky (ps qs:List Xo) (a:Int):∀ k,k≤ps.length→Yfg (ps++qs) a k=Yfg ps a k
 |0,_=>rfl
 |k+1,h=>by
  have e:(ps++qs).getD k (0,[],())=ps.getD k (0,[],()):=by
   simp only[List.getD];rw[List.getElem?_append_left (by omega)]
  simp only[Yfg,e]
  rw[Xky ps qs a k (by omega)]
theorem Xk4 {ps:List Xo} {a:Int}:∀ {k j:Nat},Yfg ps a k=some j→j<k
 |0,j,h=>by cases h
 |k+1,j,h=>by
  unfold Yfg at h
  split at h
  ·cases h;omega
  ·have:=Xk4 h;omega
theorem Xlf {bs:List (List Int)} {ps:List Xo} (hb:0<bs.length) (hp:∀ p∈ps,0≤p.1):∀ k,k≤ps.length→(Ybs bs ps (fun _=>true) k).getD 0 []=match Yfg ps 0 k with | some j=>(ps.getD j (0,[],())).2.1 | none=>bs.getD 0 []
 |0,_=>rfl
 |k+1,hk=>by
  have hg:ps.getD k (0,[],())=ps[k]:=by simp[List.getD,show k<ps.length by omega]
  have h0:=hp _ (List.getElem_mem (show k<ps.length by omega))
  simp only[Ybs,if_true,Yfg,hg]
  by_cases e:ps[k].1=0
  ·rw[if_pos e,e]
   have:0<(Ybs bs ps (fun _=>true) k).length:=by rw[Xci];exact hb
   simp only[List.getD,hg,Int.toNat_zero];rw[List.getElem?_set_self this]
   simp[show k<ps.length by omega]
  ·rw[if_neg e,←Xlf hb hp k (by omega)]
   simp only[List.getD]
   rw[List.getElem?_set_ne (by omega)]
theorem X6.Xlv {d:Xd} (h:X6 d) (hs:Xk0 d):Xk0 (Xaj d):=by
 obtain⟨s,hr,hb⟩:=hs;refine⟨s,hr,?_⟩;rw[←hb]
 have:=Xlf (bs:=d.1) (ps:=d.2.1) (by have:=h.l;omega) (fun p hp=>(h.ok.w2 p hp).1.1) d.2.1.length (Nat.le_refl _)
 show(Ybs d.1 d.2.1 (fun _=>true) d.2.1.length).getD 0 []=Xi d 0;rw[this];rfl
def Xoc (x:Xu):Prop:=x.1=true∨x.2.1≠0∨∃ s:Int,(1≤s∧s≤60000)∧x.2.2.1=[7,s]
theorem Xg7 (d:Xd) (x:Xu):Xi (Xnv d x) 0=if x.2.1=0 then x.2.2.1 else Xi d 0:=by
 unfold Xi Xnv
 have hl:(d.2.1++[((x.2.1,x.2.2.1,()):Xo)]).length=d.2.1.length+1:=by simp
 have hg:(d.2.1++[((x.2.1,x.2.2.1,()):Xo)]).getD d.2.1.length (0,[],())=(x.2.1,x.2.2.1,()):=by simp[List.getD]
 simp only[hl,Yfg,hg]
 by_cases e:x.2.1=0
 ·rw[if_pos e,if_pos e];simp only[hg]
 ·rw[if_neg e,if_neg e,Xky _ _ _ _ (Nat.le_refl _)]
  cases h:Yfg d.2.1 0 d.2.1.length with
  |none=>rfl
  |some j=>
   have:=Xk4 h;simp only[List.getD];rw[List.getElem?_append_left this]
theorem Xli:∀ {l:List Xu} {d d':Xd},X6 d→(∀ x∈l,Xbb x=0)→(∀ x∈l,Xoc x)→Xk0 d→Xh8 l d=some d'→Xk0 d'
 |[],d,d',h,_,_,hs,e=>by cases e;exact hs
 |x::l,d,d',h,hl,hq,hs,e=>by
  simp only[Xh8] at e;have hl':=fun y hy=>hl y (List.mem_cons_of_mem x hy);have hq':=fun y hy=>hq y (List.mem_cons_of_mem x hy)
  cases hx:x.1 with
  |true=>rw[hx,Yw0] at e;exact Xli h.flush hl' hq' (h.Xlv hs) e
  |false=>
   rw[hx,Ywp] at e
   cases hn:((d.2.1.length:Int) == 200) with
   |true=>rw[hn] at e;cases e
   |false=>
    rw[hn,Ywp] at e
    refine Xli (h.put (hl x List.mem_cons_self) hx (fun e'=>by rw[e'] at hn;cases hn)) hl' hq' ?_ e
    obtain⟨s,hr,hb⟩:=hs;rcases hq x List.mem_cons_self with h1 | h1 | ⟨s',hr',h1⟩
    ·rw[hx] at h1;cases h1
    ·exact⟨s,hr,by rw[Xg7,if_neg h1,hb]⟩
    ·by_cases e0:x.2.1=0
     ·exact⟨s',hr',by rw[Xg7,if_pos e0,h1]⟩
     ·exact⟨s,hr,by rw[Xg7,if_neg e0,hb]⟩
theorem Xph {d:Xd} (seq:Int):∀ p∈(X5 d seq).1,p.1≠0:=by
 unfold X5
 dsimp only
 generalize hc:(cond (decide (((Xi d 1).length:Int)<3)) true _)=c
 cases c with
 |true=>intro p hp;cases hp
 |false=>
  intro p hp
  have hb:((Xi d 1).drop 3).any Xcq=false:=by
   revert hc
   repeat' (first | (intro hc;exact hc) | (cases (decide (((Xi d 1).length:Int)<3))<;>simp only[Yw0,Ywp]) | (intro hc;cases hc) | (cases ((Xi d 1).getD 0 0 != 1)<;>simp only[Yw0,Ywp]) | (cases ((Xi d 1).getD 1 0 != seq)<;>simp only[Yw0,Ywp]) | (cases (!inR ((Xi d 1).getD 2 0) 0 10)<;>simp only[Yw0,Ywp]) | (cases (((Xi d 1).length:Int) != 3+(Xi d 1).getD 2 0)<;>simp only[Yw0,Ywp]) | (cases (!(Xi d (2+(Xi d 1).getD 2 0) == [2,seq,(Xi d 1).getD 2 0]))<;>simp only[Yw0,Ywp]))
  obtain⟨j,x,hx,rfl⟩:=Xij hp;have hx:=List.any_eq_false.1 hb x hx;simp only[Xcq,Bool.not_eq_true,Bool.not_eq_false'] at hx
  have hr:=Xw.1 (by simpa using hx)
  show x≠0;omega
theorem Xou {d:Xd} {seq:Int} (hs:1≤seq∧seq≤60000):∀ x∈Xb2 d seq,Xoc x:=by
 unfold Xb2
 cases hc:(cond (!(X5 d seq).2) true (seq == 60000)) with
 |true=>intro x hx;cases hx
 |false=>
  have hne:seq≠60000:=fun e=>by
   rw[e] at hc
   cases h:(!(X5 d 60000).2)<;>rw[h] at hc<;>cases hc
  intro x hx;rcases List.mem_append.1 hx with h | h
  ·obtain⟨p,hp,rfl⟩:=List.mem_map.1 h
   exact .inr (.inl (Xph seq p hp))
  ·simp at h
   rcases h with rfl | rfl | rfl
   ·exact .inl rfl
   ·exact .inr (.inr ⟨seq+1,by omega,rfl⟩)
   ·exact .inl rfl
def Xl1 {α τ:Type} (g:α→τ→Option τ):List α→τ→Option τ
 |[],t=>some t
 |x::l,t=>match g x t with
  |none=>none
  |some t'=>Xl1 g l t'
def Xre {τ ρ:Type} (bad:ρ):Option τ→τ⊕ρ
 |none=>.inr bad
 |some t=>.inl t
def Xqg {τ ρ:Type} (bad:ρ) (e:τ→ρ):Option τ→ρ
 |none=>bad
 |some t=>e t
theorem Xjo {α τ ρ:Type} (g:α→τ→Option τ) (bad:ρ) (e:τ→ρ):∀ (l:List α) (k:Nat) (t:τ),Ya9 (fun _ x t=>Xre bad (g x t)) e k l t=Xqg bad e (Xl1 g l t)
 |[],k,t=>rfl
 |x::l,k,t=>by
  simp only[Ya9,Xl1]
  cases g x t with
  |none=>rfl
  |some t'=>exact Xjo g bad e l (k+1) t'
noncomputable def Xme (d:Xd) (i:Nat) (t:List Xb×Int):Option (List Xb×Int):=match Xbi (Xi d ((17+i:Nat):Int)) with
 |none=>none
 |some y=>some (t.1++[y],cond (decide (((Xi d ((17+i:Nat):Int)).length:Int)>0)) ((i+1:Nat):Int) t.2)
noncomputable def Xqi (d:Xd):Option (List Xb×Int):=Xl1 (Xme d) (List.range 10) ([],0)
theorem Xp9 {w:List Int} {y:Xb} (h:Xbi w=some y):Xt y=0:=by
 by_cases hw:w=[]
 ·subst hw
  have:Xa=y:=by simpa [Xbi] using h
  subst this;rfl
 ·exact((Xf8 hw).1 h).1
theorem Xls {d:Xd}:∀ (n k:Nat) (t t':List Xb×Int),Xl1 (Xme d) (List.range' k n) t=some t'→t.1.length=k→(0≤t.2∧t.2≤(k:Int))→(∀ y∈t.1,Xt y=0)→
  t'.1.length=k+n∧(0≤t'.2∧t'.2≤((k+n:Nat):Int))∧∀ y∈t'.1,Xt y=0
 |0,k,t,t',h,h1,h2,h3=>by cases h;exact⟨h1,h2,h3⟩
 |n+1,k,t,t',h,h1,h2,h3=>by
  rw[List.range'_succ] at h;simp only[Xl1,Xme] at h
  cases hu:Xbi (Xi d ((17+k:Nat):Int)) with
  |none=>rw[hu] at h;cases h
  |some y=>
   rw[hu] at h
   obtain⟨g1,g2,g3⟩:=Xls n (k+1) _ t' h (by simp[h1]) (by
    show 0≤cond _ _ _∧cond _ _ _≤_;cases decide (((Xi d ((17+k:Nat):Int)).length:Int)>0)
    ·simp only[Ywp];omega
    ·simp only[Yw0];omega) (fun z hz=>by
    rcases List.mem_append.1 hz with hz | hz
    ·exact h3 z hz
    ·simp only[List.mem_singleton] at hz;subst hz;exact Xp9 hu)
   exact⟨by omega,by omega,g3⟩
theorem Xqd {d:Xd} {t:List Xb×Int} (h:Xqi d=some t):t.1.length=10∧(0≤t.2∧t.2≤10)∧∀ y∈t.1,Xt y=0:=by
 have:=Xls 10 0 ([],0) t (by rw[←List.range_eq_range'];exact h) rfl (by simp) (by simp)
 simpa using this
def Xcg:Fs_:=([],[],())
def Dz:List (List Int):=List.replicate 20 []
theorem Xk1 {d:Xd} (hok:Xv d) (a:Int):Wok (Xi d a):=⟨Xak hok a,Xk6 hok a⟩
theorem Xtn {d:Xd} (h:X6 d) (D:List (List Int)):Xc7 d Xcg (0,0,([],D,()))=some (Xqg (.inl (5,Xcg)) (fun t=>.inr (t.2,(t.1,D,()))) (Xqi d)):=by
 have h47:=h.l
 have hh:=Ym3 (τ:=List Xb×Int) (List.range 10) (f:=fun s=>Xc7.B d Xcg s.1 s.2.1 s.2.2) (fun i t=>(t.2,((i:Int),(t.1,D,()))))
  (fun _ i t=>Xre (.inl (5,Xcg)) (Xme d i t)) (fun t=>(.inr (t.2,(t.1,D,())):(Int×Fs_)⊕(Int×Fs_))) (fun i t=>t.1.length=i)
  (fun i hi t ht=>by
   have hi:i<10:=by simpa using hi
   rw[List.getElem_range]
   have e17:w64 ((17:Int)+(i:Int))=((17+i:Nat):Int):=by rw[Xcf (by omega) (by omega)];omega
   simp only[Xc7.B,show decide ((i:Int)<10)=true by simp;omega,Yw0,e17,Xlq h.ok.l2 (at_:=((17+i:Nat):Int)) (by omega) (by omega),Option.bind_some,Xto (Xk1 h.ok _),Xme,Yvj (by omega:i<4294967296)]
   cases hu:Xbi (Xi d ((17+i:Nat):Int)) with
   |none=>rfl
   |some y=>
    simp only[bne_self_eq_false,Ywp]
    rw[show decide ((t.1++[(y.1,y.2.1,y.2.2.1,y.2.2.2.1,y.2.2.2.2.1,y.2.2.2.2.2)]).length≤2147483648)=true by simp;omega]
    cases decide (((Xi d ((17+i:Nat):Int)).length:Int)>0)<;>rfl)
  (fun i hi t t' ht e=>by
   rw[List.getElem_range] at e;simp only[Xme] at e
   cases hu:Xbi (Xi d ((17+i:Nat):Int)) with
   |none=>rw[hu] at e;cases e
   |some y=>rw[hu] at e;cases e;simp[ht]) (fun t ht=>by
   rw[List.length_range];rfl) ([],0) rfl (s:=(0,0,([],D,()))) rfl
 rw[Xjo] at hh;rw[show Xc7 d Xcg (0,0,([],D,()))=_ from hh];rfl
theorem Xso {d:Xd} (h:X6 d) (D:List (List Int)):Xiq d (0,Xcg,()) (0,0,([],D,()))=some (Xqg (.inl (5,Xcg,())) (fun t=>.inr (t.2,(t.1,D,()))) (Xqi d)):=by
 have h47:=h.l
 have hh:=Ym3 (τ:=List Xb×Int) (List.range 10) (f:=fun s=>Xiq.B d (0,Xcg,()) s.1 s.2.1 s.2.2) (fun i t=>(t.2,((i:Int),(t.1,D,()))))
  (fun _ i t=>Xre (.inl (5,Xcg,())) (Xme d i t)) (fun t=>(.inr (t.2,(t.1,D,())):Xba⊕(Int×Fs_))) (fun i t=>t.1.length=i)
  (fun i hi t ht=>by
   have hi:i<10:=by simpa using hi
   rw[List.getElem_range]
   have e17:w64 ((17:Int)+(i:Int))=((17+i:Nat):Int):=by rw[Xcf (by omega) (by omega)];omega
   obtain⟨z,hz⟩:=Xsj (Xk1 h.ok ((17+i:Nat):Int))
   simp only[Xiq.B,show decide ((i:Int)<10)=true by simp;omega,Yw0,e17,Xl5 h.ok.l2 (at_:=((17+i:Nat):Int)) (by omega) (by omega),Option.bind_some,hz,Xme,Yvj (by omega:i<4294967296)]
   cases hu:Xbi (Xi d ((17+i:Nat):Int)) with
   |none=>rfl
   |some y=>
    simp only[Bool.not_true,Ywp]
    rw[show decide ((t.1++[(y.1,y.2.1,y.2.2.1,y.2.2.2.1,y.2.2.2.2.1,y.2.2.2.2.2)]).length≤2147483648)=true by simp;omega]
    cases decide (((Xi d ((17+i:Nat):Int)).length:Int)>0)<;>rfl)
  (fun i hi t t' ht e=>by
   rw[List.getElem_range] at e;simp only[Xme] at e
   cases hu:Xbi (Xi d ((17+i:Nat):Int)) with
   |none=>rw[hu] at e;cases e
   |some y=>rw[hu] at e;cases e;simp[ht]) (fun t ht=>by
   rw[List.length_range];rfl) ([],0) rfl (s:=(0,0,([],D,()))) rfl
 rw[Xjo] at hh;rw[show Xiq d (0,Xcg,()) (0,0,([],D,()))=_ from hh];rfl
def Xdf (d:Xd) (v n:Int):Bool:=cond (decide (((Xi d (27+v)).length:Int)<n)) true (((Xi d (27+v)).take n.toNat).any Xay)
def Xhg (d:Xd) (v n:Int):List Int:=((Xi d (27+v)).take n.toNat).map IntKind.u8.wrap
def nF (x:Xb) (k:Nat):Int:=Xby 8 (w64 (x.2.2.1-w64 ((k:Int)*8)))
def Xe0 (x:Xb):Nat→List Int→List (Int×Int)
 |_,[]=>[]
 |k,b::bs=>(b,nF x k)::Xe0 x (k+1) bs
def Xdb:List Xb→List (Int×Int)
 |[]=>[]
 |x::l=>Xe0 x 0 x.2.2.2.1++Xdb l
def Xb4:List (Int×Int)→List Int→List Int
 |[],w=>w
 |p::ps,w=>Xb4 ps (w.set p.1.toNat p.2)
def goP (d:Xd):List (Int×Int)→List (List Int)→List (List Int)⊕List (List Int)
 |[],D=>.inr D
 |p::ps,D=>cond (Xdf d p.1 p.2) (.inl D) (goP d ps (D.set p.1.toNat (Xhg d p.1 p.2)))
theorem Xlt:∀ (a b:List (Int×Int)) (w:List Int),Xb4 (a++b) w=Xb4 b (Xb4 a w)
 |[],b,w=>rfl
 |p::a,b,w=>Xlt a b _
theorem Xn4 (d:Xd):∀ (a b:List (Int×Int)) (D:List (List Int)),goP d (a++b) D=sel (goP d a D) (fun D'=>.inl D') (fun D'=>goP d b D')
 |[],b,D=>rfl
 |p::a,b,D=>by
  simp only[List.cons_append,goP]
  cases Xdf d p.1 p.2 with
  |true=>rfl
  |false=>exact Xn4 d a b _
theorem Xod (x:Xb):∀ (bs:List Int) (k:Nat) (w:List Int),Xbv x k bs w=Xb4 (Xe0 x k bs) w
 |[],k,w=>rfl
 |b::bs,k,w=>Xod x bs (k+1) _
theorem Xmf:∀ (l:List Xb) (w:List Int),Xgx l w=Xb4 (Xdb l) w
 |[],w=>rfl
 |x::l,w=>by
  simp only[Xgx,Xdb,Xlt,←Xod];exact Xmf l _
theorem Xlu (x:Xb):∀ (bs:List Int) (k:Nat),(Xe0 x k bs).map (·.1)=bs
 |[],k=>rfl
 |b::bs,k=>by simp only[Xe0,List.map_cons,Xlu x bs]
theorem Xi1:∀ (l:List Xb),(Xdb l).map (·.1)=Xaq l
 |[]=>rfl
 |x::l=>by simp only[Xdb,List.map_append,Xlu,Xi1 l,Xaq,List.flatMap_cons]
theorem Xoa {d:Xd}:∀ {ps:List (Int×Int)} {D D':List (List Int)},goP d ps D=.inr D'→D'.length=D.length
 |[],D,D',h=>by cases h;rfl
 |p::ps,D,D',h=>by
  simp only[goP] at h
  cases hb:Xdf d p.1 p.2 with
  |true=>rw[hb] at h;cases h
  |false=>rw[hb] at h;rw[Xoa h];simp
theorem Xor:∀ (ps:List (Int×Int)) (w:List Int),(Xb4 ps w).length=w.length
 |[],w=>rfl
 |p::ps,w=>by simp only[Xb4];rw[Xor ps];simp
theorem Xk9 {w:List Int} {i j:Nat} {n:Int}:(w.set i n).getD j 0=if i=j∧i<w.length then n else w.getD j 0:=by
 simp only[List.getD,List.getElem?_set]
 by_cases h:i=j
 ·subst h
  by_cases h2:i<w.length
  ·simp[h2]
  ·simp[h2,List.getElem?_eq_none (by omega:w.length≤i)]
 ·simp[h]
theorem Xl6:∀ (ps:List (Int×Int)) (w:List Int) (v:Nat),(∀ p∈ps,p.1.toNat≠v)→(Xb4 ps w).getD v 0=w.getD v 0
 |[],w,v,_=>rfl
 |p::ps,w,v,h=>by
  simp only[Xb4];rw[Xl6 ps _ v (fun q hq=>h q (List.mem_cons_of_mem _ hq)),Xk9,if_neg (fun c=>h p List.mem_cons_self c.1)]
theorem Xm0:∀ (ps:List (Int×Int)) (w:List Int),(∀ p∈ps,0≤p.2∧p.2≤8)→(∀ v,0≤w.getD v 0∧w.getD v 0≤8)→∀ v,0≤(Xb4 ps w).getD v 0∧(Xb4 ps w).getD v 0≤8
 |[],w,_,h=>h
 |p::ps,w,h,hw=>Xm0 ps _ (fun q hq=>h q (List.mem_cons_of_mem _ hq)) (fun v=>by
  rw[Xk9];split
  ·exact h p List.mem_cons_self
  ·exact hw v)
def Xnj (d:Xd) (w:List Int):Bool:=(List.range 20).any fun(v:Nat)=>Xdf d (v:Int) (w.getD v 0)
def Xcl (d:Xd) (w:List Int):List (List Int):=(List.range 20).map fun(v:Nat)=>Xhg d (v:Int) (w.getD v 0)
theorem Xn3 (d:Xd):∀ (ps:List (Int×Int)) (w:List Int),w.length=20→(∀ p∈ps,0≤p.1∧p.1≤19)→(ps.map (·.1)).Nodup→Xnj d w=false→
  (Xnj d (Xb4 ps w)=false∧goP d ps (Xcl d w)=.inr (Xcl d (Xb4 ps w)))∨(Xnj d (Xb4 ps w)=true∧∃ D',goP d ps (Xcl d w)=.inl D')
 |[],w,hw,hp,hn,hb=>.inl ⟨hb,rfl⟩
 |p::ps,w,hw,hp,hn,hb=>by
  have h1:=hp p List.mem_cons_self;have hp':=fun q hq=>hp q (List.mem_cons_of_mem p hq);simp only[List.map_cons,List.nodup_cons] at hn;simp only[goP,Xb4]
  have ec:((p.1.toNat:Nat):Int)=p.1:=by omega
  cases hbad:Xdf d p.1 p.2 with
  |true=>
   refine .inr ⟨?_,_,rfl⟩
   refine List.any_eq_true.2 ⟨p.1.toNat,List.mem_range.2 (by omega),?_⟩
   rw[Xl6 ps _ _ (fun q hq e=>hn.1 (List.mem_map.2 ⟨q,hq,by have:=hp' q hq;omega⟩)),Xk9,if_pos ⟨rfl,by omega⟩,ec]
   exact hbad
  |false=>
   simp only[Ywp]
   have hb':Xnj d (w.set p.1.toNat p.2)=false:=by
    refine List.any_eq_false.2 fun v hv=>?_;have h0:=List.any_eq_false.1 hb v hv;rw[Xk9]
    split
    ·rename_i c;rw[←c.1,ec,hbad];simp
    ·exact h0
   have hd:(Xcl d w).set p.1.toNat (Xhg d p.1 p.2)=Xcl d (w.set p.1.toNat p.2):=by
    refine List.ext_getElem (by simp[Xcl]) fun i hi hi'=>?_
    have hi2:i<20:=by simpa [Xcl] using hi'
    simp only[Xcl,List.getElem_set,List.getElem_map,List.getElem_range,Xk9]
    by_cases e:p.1.toNat=i
    ·rw[if_pos e,if_pos ⟨e,by omega⟩,←e,ec]
    ·rw[if_neg e,if_neg (fun c=>e c.1)]
   rw[hd]
   exact Xn3 d ps _ (by simpa using hw) hp' hn.2 hb'
theorem Xrk (d:Xd) (i:Int) (x:Nat) (k:Int) (r2:List Int) (f:Fs_) {n:Int} (hn:0≤n∧n≤8) (h:¬ (r2.length:Int)<n) :
  Xhe d i x k n r2 f (0,[])=some (cond ((r2.take n.toNat).any Xay) (.inl false) (.inr ((r2.take n.toNat).map IntKind.u8.wrap))):=by
 have hl:(r2.take n.toNat).length=n.toNat:=by rw[List.length_take];omega
 have hh:=Ym3 (τ:=List Int) (r2.take n.toNat) (f:=fun s=>Xhe.B d i x k n r2 f s.1 s.2) (fun j t=>((j:Int),t)) (fun _ v t=>cond (Xay v) (.inr (.inl false)) (.inl (t++[IntKind.u8.wrap v])))
  (fun t=>(.inr t:Bool⊕List Int)) (fun j t=>t.length=j)
  (fun j hj t ht=>by
   rw[hl] at hj
   have hj':j<r2.length:=by omega
   simp only[Xhe.B,show decide ((j:Int)<n)=true by simp;omega,Yxd hj',Yw0,toNat_cast,getD_lt _ hj',Option.bind_some,Yvj (by omega:j<4294967296),List.getElem_take]
   rw[show decide ((t++[IntKind.u8.wrap r2[j]]).length≤2147483648)=true by simp;omega]
   show cond (Xay r2[j]) _ _=_
   cases Xay r2[j]<;>rfl)
  (fun j hj t t' ht e=>by
   cases hb:Xay (r2.take n.toNat)[j] with
   |true=>rw[hb] at e;cases e
   |false=>rw[hb] at e;cases e;simp[ht])
  (fun t ht=>by
   rw[hl]
   simp only[Xhe.B,show decide (((n.toNat:Nat):Int)<n)=false by simp;omega,Ywp]) [] rfl (s:=(0,[])) rfl
 rw[Xe8] at hh;exact hh
structure Xip (x:Xb):Prop where
 len:x.2.2.2.1.length≤4
 rng:∀ b∈x.2.2.2.1,0≤b∧b≤19
 n:∀ k,k<x.2.2.2.1.length→0≤nF x k∧nF x k≤8
theorem Xip.of {x:Xb} (h:Xt x=0):Xip x:=by
 obtain⟨h1,h2,h3,h4⟩:=Xar h;refine⟨h1,h2,fun k hk=>?_⟩
 have hx:x.1=1:=by
  by_cases e:x.1=1
  ·exact e
  ·rw[h3 e] at hk;simp at hk
 have hf:=h4 hx;unfold Xh6 at hf
 cases c1:inR x.2.1 1 60 with
 |false=>rw[c1] at hf;cases hf
 |true=>
  rw[c1] at hf
  cases c2:inR x.2.2.1 0 32 with
  |false=>rw[c2] at hf;cases hf
  |true=>
   rw[c2] at hf;have r:=Xw.1 c2
   cases c3:((x.2.2.2.1.length:Int) != Xha x.2.2.1) with
   |true=>rw[c3] at hf;cases hf
   |false=>
    have e:(x.2.2.2.1.length:Int)=Xha x.2.2.1:=by simpa using c3
    unfold Xha at e
    rw[Xcf (n:=x.2.2.1+8) (by omega) (by omega),Xcf (n:=x.2.2.1+8-1) (by omega) (by omega),Int.tdiv_eq_ediv_of_nonneg (by omega),Xcf (by omega) (by omega)] at e
    unfold nF Xby
    rw[Xcf (n:=(k:Int)*8) (by omega) (by omega),Xcf (by omega) (by omega)]
    by_cases c:(8:Int)<x.2.2.1-(k:Int)*8
    ·rw[decide_eq_true c];simp
    ·rw[decide_eq_false c];simp only[Ywp];omega
def Xp5 (l:List Xb):List (List Int)⊕List (List Int)→(Bool×Fs_)⊕Fs_
 |.inl D=>.inl (false,(l,D,()))
 |.inr D=>.inr (l,D,())
theorem Xlw (d:Xd) (l:List Xb) (x:Xb):∀ (bs:List Int) (k:Nat) (D:List (List Int)),
  Ya9 (fun k b D=>cond (Xdf d b (nF x k)) (.inr (.inl (false,(l,D,())))) (.inl (D.set b.toNat (Xhg d b (nF x k))))) (fun D=>(.inr (l,D,()):(Bool×Fs_)⊕Fs_)) k bs D=Xp5 l (goP d (Xe0 x k bs) D)
 |[],k,D=>rfl
 |b::bs,k,D=>by
  simp only[Ya9,Xe0,goP]
  cases Xdf d b (nF x k) with
  |true=>rfl
  |false=>exact Xlw d l x bs (k+1) _
theorem Xsh {d:Xd} (h:X6 d) (l:List Xb) (i:Nat) (hi:i<l.length) (hx:Xip l[i]) (D:List (List Int)) (hD:D.length=20) :
  Xhs d (i:Int) i (0,(l,D,()))=some (Xp5 l (goP d (Xe0 l[i] 0 l[i].2.2.2.1) D)):=by
 have h47:=h.l;have h4:=hx.len
 have hh:=Ym3 (τ:=List (List Int)) l[i].2.2.2.1 (f:=fun s=>Xhs.B d (i:Int) i s.1 s.2) (fun k D=>((k:Int),(l,D,())))
  (fun k b D=>cond (Xdf d b (nF l[i] k)) (.inr (.inl (false,(l,D,())))) (.inl (D.set b.toNat (Xhg d b (nF l[i] k))))) (fun D=>(.inr (l,D,()):(Bool×Fs_)⊕Fs_)) (fun k D=>D.length=20)
  (fun k hk D hD=>by
   have hb:=hx.rng _ (List.getElem_mem hk);have hn:=hx.n k hk
   have e27:w64 ((27:Int)+l[i].2.2.2.1[k])=27+l[i].2.2.2.1[k]:=Xcf (by omega) (by omega)
   simp only[Xhs.B,getD_lt _ hi,Option.bind_some,Yxb hk,Yxd hk,Yw0,toNat_cast,getD_lt _ hk,Xn7,e27,Xl5 h.ok.l2 (at_:=27+l[i].2.2.2.1[k]) (by omega) (by omega),Yvj (by omega:k<4294967296)]
   rw[show Xby 8 (w64 (l[i].2.2.1-w64 ((k:Int)*8)))=nF l[i] k from rfl];unfold Xdf Xhg;generalize Xi d (27+l[i].2.2.2.1[k])=r2
   by_cases c:(r2.length:Int)<nF l[i] k
   ·rw[decide_eq_true c];rfl
   ·rw[decide_eq_false c,Xrk d _ _ _ r2 _ hn c]
    simp only[Ywp,Option.bind_some]
    cases (r2.take (nF l[i] k).toNat).any Xay with
    |true=>rfl
    |false=>
     simp only[Ywp,Ywz]
     rw[show inB l[i].2.2.2.1[k] D.length=true from Yuo hb.1 (by omega)]
     rfl)
  (fun k hk D D' hD e=>by
   cases hb:Xdf d l[i].2.2.2.1[k] (nF l[i] k) with
   |true=>rw[hb] at e;cases e
   |false=>rw[hb] at e;cases e;simpa using hD)
  (fun D hD=>by
   simp only[Xhs.B,getD_lt _ hi,Option.bind_some,Yw7 (Nat.le_refl _),Ywp]) D hD (s:=(0,(l,D,()))) rfl
 rw[Xlw] at hh;exact hh
def Xm3 (d:Xd) (L:List Xb) (x:Xb) (D:List (List Int)):List (List Int)⊕((Bool×Fs_)⊕Fs_):=sel (goP d (Xe0 x 0 x.2.2.2.1) D) (fun D'=>.inr (.inl (false,(L,D',())))) (fun D'=>.inl D')
theorem Xlp (d:Xd) (L:List Xb):∀ (l:List Xb) (k:Nat) (D:List (List Int)),Ya9 (fun _ x D=>Xm3 d L x D) (fun D=>(.inr (L,D,()):(Bool×Fs_)⊕Fs_)) k l D=Xp5 L (goP d (Xdb l) D)
 |[],k,D=>rfl
 |x::l,k,D=>by
  simp only[Ya9,Xdb,Xn4,Xm3]
  cases goP d (Xe0 x 0 x.2.2.2.1) D with
  |inl D'=>rfl
  |inr D'=>exact Xlp d L l (k+1) D'
theorem Xpq {d:Xd} (h:X6 d) (l:List Xb) (hl:l.length≤10) (hx:∀ x∈l,Xip x) (D:List (List Int)) (hD:D.length=20) :
  Xgc d (l,D,())=some (match goP d (Xdb l) D with | .inl D'=>(false,(l,D',())) | .inr D'=>(true,(l,D',()))):=by
 have hh:=Ym3 (τ:=List (List Int)) l (f:=fun s=>Xji.B d s.1 s.2) (fun k D=>((k:Int),(l,D,()))) (fun _ x D=>Xm3 d l x D) (fun D=>(.inr (l,D,()):(Bool×Fs_)⊕Fs_)) (fun k D=>D.length=20)
  (fun i hi D hD=>by
   simp only[Xji.B,Yxb hi,Yxd hi,Yw0,toNat_cast,Xsh h l i hi (hx _ (List.getElem_mem hi)) D hD,Option.bind_some,Yvj (by omega:i<4294967296),Xm3]
   cases goP d (Xe0 l[i] 0 l[i].2.2.2.1) D<;>rfl)
  (fun i hi D D' hD e=>by
   simp only[Xm3] at e
   cases hg:goP d (Xe0 l[i] 0 l[i].2.2.2.1) D with
   |inl Dx=>rw[hg] at e;cases e
   |inr Dx=>rw[hg] at e;cases e;rw[Xoa hg];exact hD)
  (fun D hD=>by simp only[Xji.B,Yw7 (Nat.le_refl _),Ywp]) D hD (s:=(0,(l,D,()))) rfl
 rw[Xlp] at hh;have hh':Xji d (0,(l,D,()))=some (Xp5 l (goP d (Xdb l) D)):=hh;simp only[Xgc,hh',Option.bind_some]
 cases goP d (Xdb l) D<;>rfl
theorem Xrb (l:List Int) (hl:l.length≤2147483648):Xh1 l ()=some (l.any Xay):=by
 have h:Xdj l () (l.length:Int) ((0:Nat):Int)=_:=Yvr l (f:=fun s=>Xdj.B l () (l.length:Int) s) Xay (fun i hi=>by
  simp only[Xdj.B,Xj8,Yxb hi,Yxd hi,Yw0,toNat_cast,getD_lt _ hi,Option.bind_some,Xay,Yvj (by omega:i<4294967296)]) (by
  simp only[Xdj.B,Yw7 (Nat.le_refl _),Ywp]) 0 (Nat.zero_le _)
 rw[List.drop_zero] at h;simp only[Xh1,Xfn];rw[show Xdj l () (l.length:Int) 0=_ from h];exact Xcd Xay l
theorem Xt0 (d:Xd) (w r5:List Int) (n:Int) (r7:Bool) (l:List Xb) (D:List (List Int)) (v:Nat) (hv:v<D.length) (list:List Int) (hl:list.length≤1000) (h0:D.getD v []=[]) :
  Xdi d (v:Int) w (v:Int) r5 n list r7 list (list.length:Int) Xcg (0,(l,D,()))=some (l,D.set v (list.map IntKind.u8.wrap),()):=by
 have hh:=Ym3 (τ:=List Int) list (f:=fun s=>Xdi.B d (v:Int) w (v:Int) r5 n list r7 list (list.length:Int) Xcg s.1 s.2) (fun i t=>((i:Int),(l,D.set v t,()))) (fun _ x t=>.inl (t++[IntKind.u8.wrap x])) (fun t=>((l,D.set v t,()):Fs_)) (fun i t=>t.length=i)
  (fun i hi t ht=>by
   have hv':v<(D.set v t).length:=by simpa using hv
   have hg:(D.set v t).getD v []=t:=by simp only[List.getD];rw[List.getElem?_set_self hv];rfl
   simp only[Xdi.B,Yxb hi,Yxd hi,Yxd hv',Yw0,toNat_cast,getD_lt _ hi,hg,Option.bind_some,Yvj (by omega:i<4294967296),Nat.beq_refl,Bool.and_true,List.set_set]
   rw[show decide ((t++[IntKind.u8.wrap list[i]]).length≤2147483648)=true by simp;omega]
   rfl)
  (fun i hi t t' ht e=>by cases e;simp[ht]) (fun t ht=>by simp only[Xdi.B,Yw7 (Nat.le_refl _),Ywp]) [] rfl (s:=(0,(l,D,()))) (by
   have:D.set v []=D:=by
    refine List.ext_getElem (by simp) fun i hi hi'=>?_
    rw[List.getElem_set]
    split
    ·rename_i e;subst e;rw[←h0,getD_lt _ hv]
    ·rfl
   show _=(((0:Nat):Int),((l,D.set v [],()):Fs_))
   rw[this];rfl)
 rw[Ypz] at hh;exact hh
theorem Xsz {d:Xd} (h:X6 d) (l:List Xb) (w:List Int) (hw:w.length=20) (hn:∀ v,0≤w.getD v 0∧w.getD v 0≤8) :
  Xdy d w Xcg (0,(l,Dz,()))=some (cond (Xnj d w) (.inl (5,Xcg)) (.inr (l,Xcl d w,()))):=by
 have h47:=h.l
 have hh:=Ym3 (τ:=List (List Int)) (List.range 20) (f:=fun s=>Xdy.B d w Xcg s.1 s.2) (fun i t=>((i:Int),(l,t++List.replicate (20-i) [],())))
  (fun _ v t=>cond (Xdf d (v:Int) (w.getD v 0)) (.inr (.inl (5,Xcg))) (.inl (t++[Xhg d (v:Int) (w.getD v 0)]))) (fun t=>(.inr (l,t,()):(Int×Fs_)⊕Fs_)) (fun i t=>t.length=i)
  (fun i hi t ht=>by
   have hi:i<20:=by simpa using hi
   rw[List.getElem_range]
   have e27:w64 ((27:Int)+(i:Int))=27+(i:Int):=Xcf (by omega) (by omega)
   have hni:=hn i
   simp only[Xdy.B,show decide ((i:Int)<20)=true by simp;omega,Yxd hi,Yw0,toNat_cast,e27,Xlq h.ok.l2 (at_:=27+(i:Int)) (by omega) (by omega),Option.bind_some,Xap,List.drop_zero,Yvj (by omega:i<4294967296)]
   have hbl:=Xak h.ok (27+(i:Int));unfold Xdf Xhg;generalize Xi d (27+(i:Int))=r5 at hbl ⊢;generalize w.getD i 0=n at hni ⊢
   by_cases c:(r5.length:Int)<n
   ·rw[decide_eq_true c];rfl
   ·rw[decide_eq_false c,show(decide ((0:Int)≤n)&&decide (n≤(r5.length:Int)))=true by simp;omega,Xrb _ (by rw[List.length_take];omega)]
    simp only[Ywp,Yw0,Option.bind_some]
    cases (r5.take n.toNat).any Xay with
    |true=>rfl
    |false=>
     have hg:(t++List.replicate (20-i) ([]:List Int)).getD i []=[]:=by
      simp only[List.getD];rw[List.getElem?_append_right (by omega),ht,Nat.sub_self,List.getElem?_replicate];simp[show 0<20-i by omega]
     have hs:∀ y:List Int,(t++List.replicate (20-i) ([]:List Int)).set i y=(t++[y])++List.replicate (20-(i+1)) []:=fun y=>by
      rw[show 20-i=(20-(i+1))+1 by omega,List.replicate_succ,List.set_append_right _ _ (by omega),ht,Nat.sub_self];simp
     simp only[Ywp]
     rw[Xt0 d w r5 n false l _ i (by simp;omega) _ (by rw[List.length_take];omega) hg,hs]
     rfl)
  (fun i hi t t' ht e=>by
   cases hb:Xdf d (((List.range 20)[i]:Nat):Int) (w.getD (List.range 20)[i] 0) with
   |true=>rw[hb] at e;cases e
   |false=>rw[hb] at e;cases e;simp[ht])
  (fun t ht=>by
   rw[List.length_range];show some (Sum.inr (Sum.inr (l,t++List.replicate (20-20) [],())))=_
   simp) [] rfl (s:=(0,(l,Dz,()))) rfl
 rw[Xe8] at hh;exact hh
structure FsB (f:Fs_):Prop where
 l:f.1.length≤10
 s:∀ x∈f.1,Xah x
 d:f.2.1.length=20
 dl:∀ b∈f.2.1,b.length≤64
theorem FsB.bd {f:Fs_} (h:FsB f):Bd Xj f:=by
 refine⟨⟨?_,fun x hx=>?_⟩,⟨?_,fun b hb=>⟨?_,fun _ _=>trivial⟩⟩,trivial⟩
 ·have:=h.l;show f.1.length≤_;omega
 ·have hs:=h.s x hx
  refine⟨trivial,trivial,trivial,⟨?_,fun _ _=>trivial⟩,⟨?_,fun e he=>⟨?_,trivial,trivial⟩⟩,trivial⟩
  ·have:=hs.blk;show x.2.2.2.1.length≤_;omega
  ·have:=hs.ent;show x.2.2.2.2.1.length≤_;omega
  ·have:=hs.nam e he;show e.1.length≤_;omega
 ·have:=h.d;show f.2.1.length≤_;omega
 ·have:=h.dl b hb;show b.length≤_;omega
theorem FsB.wt {f:Fs_} (h:FsB f):wt Xj f≤100000:=by
 have e1:∀ w:List Int,(w.map (Mf.wt (.int .i64))).sum=w.length:=fun w=>Xh9 .i64 w;have e2:∀ w:List Int,(w.map (Mf.wt (.int .u8))).sum=w.length:=fun w=>Xh9 .u8 w
 have h1:=Ytg (Mf.wt Xe) 100 (xs:=f.1) (fun x hx=>by
  have hs:=h.s x hx;have hb:=hs.blk;have he:=hs.ent
  have h2:=Ytg (Mf.wt Xm) 6 (xs:=x.2.2.2.2.1) (fun e hee=>by
   have:=hs.nam e hee
   simp only[Ypv,Ysj,Yxh,Ywy];omega)
  have e:Mf.wt Xe x=1+(1+(1+((x.2.2.2.1.map (Mf.wt (.int .i64))).sum+1+((x.2.2.2.2.1.map (Mf.wt Xm)).sum+1+0)))):=rfl;rw[e,e1]
  omega)
 have h2:=Ytg (Mf.wt (.sl (.int .u8))) 65 (xs:=f.2.1) (fun b hb=>by
  have:=h.dl b hb
  rw[Yud,e2];omega)
 have hl:=h.l;have hd:=h.d;rw[Ypv,Ypv,Ywy,Yud,Yud];rw[hd] at h2;have:f.1.length*100≤10*100:=Nat.mul_le_mul_right _ hl;omega
theorem Xqv {x:Xb} (h:Xah x):Xhi x=some x:=by
 have h1:=h.blk;have h2:=h.ent;simp only[Xhi,Xaw,List.nil_append]
 rw[decide_eq_true (by omega:x.2.2.2.1.length≤2147483648)]
 simp only[Yw0,Option.bind_some]
 rw[decide_eq_true (by omega:x.2.2.2.2.1.length≤2147483648)]
 rfl
theorem Xs9 {f:Fs_} (h:FsB f):Xa1 f=some f:=by
 obtain⟨bs,ps,⟨⟩⟩:=f;have hl1:bs.length≤10:=h.l;have hl2:ps.length=20:=h.d
 have h0:Xb0 (bs,ps,()) ([],[],()) (0,([],[],()))=some (bs.foldl (fun(t:Fs_) x=>(t.1++[x],t.2)) ([],[],())):=
  Yjp bs (f:=fun s=>Xb0.B (bs,ps,()) ([],[],()) s.1 s.2) _ (fun t=>t) (fun i t=>t.1.length≤i) (fun i hi t ht=>by
   have hw:=Xqv (h.s _ (List.getElem_mem hi))
   constructor
   ·simp only[Xb0.B,Yxb hi,Yxd hi,Yw0,toNat_cast,getD_lt _ hi,hw,Option.bind_some,Yvj (by omega:i<4294967296)]
    rw[show decide ((t.1++[(bs[i].1,bs[i].2.1,bs[i].2.2.1,bs[i].2.2.2.1,bs[i].2.2.2.2.1,bs[i].2.2.2.2.2)]).length≤2147483648)=true by simp;omega];rfl
   ·simp;omega) (fun t ht=>by simp only[Xb0.B,Yw7 (Nat.le_refl _),Ywp]) _ (Nat.le_refl _)
 have h1:Xbw (bs,ps,()) ([],[],()) (0,(bs,[],()))=some (ps.foldl (fun(t:Fs_) x=>(t.1,t.2.1++[x],t.2.2)) (bs,[],())):=
  Yjp ps (f:=fun s=>Xbw.B (bs,ps,()) ([],[],()) s.1 s.2) _ (fun t=>t) (fun i t=>t.2.1.length≤i) (fun i hi t ht=>by
   have hw:ps[i].length≤64:=h.dl _ (List.getElem_mem hi)
   constructor
   ·simp only[Xbw.B,Yxb hi,Yxd hi,Yw0,toNat_cast,getD_lt _ hi,List.nil_append,decide_eq_true (show ps[i].length≤2147483648 by omega),Option.bind_some,Yvj (by omega:i<4294967296)]
    rw[show decide ((t.2.1++[ps[i]]).length≤2147483648)=true by simp;omega];rfl
   ·simp;omega) (fun t ht=>by simp only[Xbw.B,Yw7 (Nat.le_refl _),Ywp]) _ (Nat.le_refl _)
 rw[Xnk] at h0;rw[Xn6] at h1;simp only[List.nil_append] at h0 h1;simp only[Xa1,h0,Option.bind_some,h1]
theorem Xot (d:Xd):Xcl d (List.replicate 20 0)=Dz:=by
 refine List.ext_getElem (by simp[Xcl,Dz]) fun i hi hi'=>?_
 have hi2:i<20:=by simpa [Xcl] using hi
 simp only[Xcl,Dz,List.getElem_map,List.getElem_range,List.getElem_replicate]
 have:(List.replicate 20 (0:Int)).getD i 0=0:=by simp only[List.getD,List.getElem?_replicate];split<;>rfl
 rw[this];rfl
theorem Xoo (d:Xd):Xnj d (List.replicate 20 0)=false:=by
 refine List.any_eq_false.2 fun v hv=>?_;have hv:=List.mem_range.1 hv
 have:(List.replicate 20 (0:Int)).getD v 0=0:=by simp only[List.getD,List.getElem?_replicate];split<;>rfl
 rw[this];unfold Xdf
 rw[show decide (((Xi d (27+(v:Int))).length:Int)<0)=false by simp];simp
theorem Xok (x:Xb) (h:Xip x):∀ (bs:List Int) (k:Nat),k+bs.length≤x.2.2.2.1.length→∀ p∈Xe0 x k bs,0≤p.2∧p.2≤8
 |[],k,_,p,hp=>by cases hp
 |b::bs,k,hk,p,hp=>by
  simp only[List.length_cons] at hk;rcases List.mem_cons.1 hp with rfl | hp
  ·exact h.n k (by omega)
  ·exact Xok x h bs (k+1) (by omega) p hp
theorem Xn2:∀ (l:List Xb),(∀ x∈l,Xip x)→∀ p∈Xdb l,0≤p.2∧p.2≤8
 |[],_,p,hp=>by cases hp
 |x::l,h,p,hp=>by
  rcases List.mem_append.1 hp with hp | hp
  ·exact Xok x (h x List.mem_cons_self) _ 0 (by omega) p hp
  ·exact Xn2 l (fun y hy=>h y (List.mem_cons_of_mem _ hy)) p hp
theorem Xoz {l:List Xb} (h:∀ x∈l,Xip x):∀ v,0≤(X0 l).getD v 0∧(X0 l).getD v 0≤8:=by
 unfold X0;rw[Xmf]
 exact Xm0 _ _ (Xn2 l h) (fun v=>by
  simp only[List.getD,List.getElem?_replicate];split<;>simp)
theorem Xr2 (d:Xd) {l:List Xb} (hok:Xcw l) (ho:Xgw l=true) :
  (Xnj d (X0 l)=false∧goP d (Xdb l) Dz=.inr (Xcl d (X0 l)))∨(Xnj d (X0 l)=true∧∃ D',goP d (Xdb l) Dz=.inl D'):=by
 have:=Xn3 d (Xdb l) (List.replicate 20 0) (by simp) (fun p hp=>hok.all.2 _ (by rw[←Xi1];exact List.mem_map.2 ⟨p,hp,rfl⟩)) (by rw[Xi1];exact of_decide_eq_true ho) (Xoo d)
 rw[Xot] at this;unfold X0;rw[Xmf];exact this
theorem Xov {d:Xd} (h:X6 d) (hs:Xk0 d):∃ c f g,Xil d=some (c,f,())∧Xbo d=some (g,c)∧(c=0→g=f∧FsB f∧fsF f=0)∧(c≠0→f=Xcg):=by
 have hsq:=Xpe h hs;have hi:=Xtn h Dz;have hp:=Xso h Dz;have e20:(decide ((0:Int)≤(20:Int))&&(decide ((20:Int)≤(20:Int))&&decide ((20:Int)≤2147483648)))=true:=rfl;simp only[Xil,Xbo,Xqx,hsq,Option.bind_some,show((0:Int) != 0)=false from rfl,Ywp,e20,Yw0]
 rw[show Xiq d (0,([],[],()),()) (0,0,([],List.replicate (20:Int).toNat ([]:List Int),()))=_ from hp,
  show Xc7 d ([],[],()) (0,0,([],List.replicate (20:Int).toNat ([]:List Int),()))=_ from hi]
 cases ht:Xqi d with
 |none=>exact⟨5,Xcg,Xcg,rfl,rfl,(fun e=>by cases e),fun _=>rfl⟩
 |some t=>
  obtain⟨t1,t2,t3⟩:=Xqd ht;simp only[Option.bind_some,Xqg,Ywz,List.drop_zero,Nat.sub_zero]
  rw[show(decide ((0:Int)≤t.2)&&decide (t.2≤(t.1.length:Int)))=true by simp;omega]
  simp only[Yw0]
  have hl:(t.1.take t.2.toNat).length≤10:=by rw[List.length_take];omega
  have hin:∀ y∈t.1.take t.2.toNat,Xt y=0:=fun y hy=>t3 y (List.mem_of_mem_take hy);generalize t.1.take t.2.toNat=l at hl hin ⊢
  have hb0:FsB (l,Dz,()):=⟨hl,fun x hx=>Xah.of (hin x hx),by simp[Dz],fun b hb=>by have:=List.eq_of_mem_replicate hb;subst this;simp⟩
  rw[Xqr (l,Dz,()) hb0.bd,Xq7 (l,Dz,()) hb0.bd];simp only[Option.bind_some]
  cases htr:(Xbc (l,Dz,()) != 0) with
  |true=>exact⟨Xbc (l,Dz,()),Xcg,Xcg,rfl,rfl,(fun e=>by rw[e] at htr;cases htr),fun _=>rfl⟩
  |false=>
   have htree:=Xcp.of (show Xbc (l,Dz,())=0 by simpa using htr)
   have hok:Xcw l:=Xcw.of htree.inod;have hbk:∀ x∈l,Xip x:=fun x hx=>Xip.of (hin x hx);simp only[Ywp,Xoh l hok,Option.bind_some]
   rw[show Xdy d (X0 l) ([],[],()) (0,(l,Dz,()))=_ from Xsz h l (X0 l) (Xeo l) (Xoz hbk),Xpq h l hl hbk Dz (by simp[Dz])]
   simp only[Option.bind_some];rcases Xr2 d hok htree.once with ⟨h1,h2⟩ | ⟨h1,D',h2⟩
   ·rw[h1,h2]
    simp only[Ywp,Ywz,Bool.not_true]
    have hb1:FsB (l,Xcl d (X0 l),()):=⟨hl,fun x hx=>Xah.of (hin x hx),by simp[Xcl],fun b hb=>by
     simp only[Xcl,List.mem_map,List.mem_range] at hb;obtain⟨v,hv,rfl⟩:=hb;have:=Xak h.ok (27+(v:Int))
     simp only[Xhg,List.length_map,List.length_take];omega⟩
    rw[Xr5 _ hb1.bd,Xr3 _ hb1.bd];simp only[Option.bind_some]
    cases hc:(fsF (l,Xcl d (X0 l),()) != 0) with
    |true=>exact⟨fsF (l,Xcl d (X0 l),()),Xcg,(l,Xcl d (X0 l),()),rfl,rfl,(fun e=>by rw[e] at hc;cases hc),fun _=>rfl⟩
    |false=>
     have hc0:fsF (l,Xcl d (X0 l),())=0:=by simpa using hc
     exact⟨0,(l,Xcl d (X0 l),()),(l,Xcl d (X0 l),()),rfl,by rw[hc0],(fun _=>⟨rfl,hb1,hc0⟩),fun h=>absurd rfl h⟩
   ·rw[h1,h2]
    exact⟨5,Xcg,Xcg,rfl,rfl,(fun e=>by cases e),fun _=>rfl⟩
theorem Xnu (d:Xd):∃ r,Xii d=some r∧Xid d=some r∧wt Xal r≤2147483648∧(r.1=0→FsB r.2.2.1.2.1∧fsF r.2.2.1.2.1=0):=by
 have small:∀ c:Int,wt Xal (c,(0,0,0,[],[],([],[],()),()),(([],[],()),([],[],()),([],[],()),()),())≤2147483648:=fun c=>by simp[wt]
 simp only[Xii,Xid,Xry,Xr7,Option.bind_some]
 cases h:((Xau d).2 != 0) with
 |true=>
  simp only[h,Yw0,Option.bind_some]
  exact⟨_,rfl,rfl,small _,fun e=>by rw[show(Xau d).2=0 from e] at h;cases h⟩
 |false=>
  have h0:(Xau d).2=0:=by simpa using h
  obtain⟨hok,h47⟩:=Xmj h0;have hr:=Xkv h0
  have hd:X6 d:=⟨hok,by omega⟩
  have hsup:=hd.Xlv (Xrd h0);have hfl:=hd.flush;simp only[Ywp];obtain⟨b1,b2⟩:=Xnw hok (Xau d).1;have hst:=Xmx hok hr;have hsp:=Xou (d:=d) hr;have hpm:=Xts hok h47 hr;generalize Xb2 d (Xau d).1=list at b1 hst hsp hpm ⊢;simp only[show((0:Int) != 0)=false from rfl,Ywp,hpm,Option.bind_some,Xqs hok,Xrw hok,Xf7,Xlr hok]
  rw[show Xll ((Xaj d).1,(Xaj d).2.1,(Xaj d).2.2) list=_ from Xsr hfl (by omega) hst]
  have e2:=Xpx (by omega) hst list.length 0 (Xaj d) (by omega) hfl
  rw[List.drop_zero] at e2;simp only[Xfv,Option.bind_some]
  cases hrun:Xh8 list (Xaj d) with
  |some d'=>
   rw[hrun] at e2;rw[show Xa0 list (list.length:Int) (0,Xaj d)=_ from e2];have h':=Xmm hfl hst hrun;obtain⟨c,f,g,l1,l2,l3,_⟩:=Xov h' (Xli hfl hst hsp hsup hrun);simp only[Option.bind_some,sel,show((0:Int) != 0)=false from rfl,Ywp];rw[show Xil (d'.1,d'.2.1,d'.2.2)=_ from l1,show Xbo (d'.1,d'.2.1,d'.2.2)=_ from l2];simp only[Option.bind_some]
   cases hc:(c != 0) with
   |true=>exact⟨_,rfl,rfl,small _,fun e=>by rw[show c=0 from e] at hc;cases hc⟩
   |false=>
    have hc0:c=0:=by simpa using hc
    obtain⟨rfl,hfb,hfs⟩:=l3 hc0;simp only[Ywp];rw[show Xa1 (g.1,g.2.1,g.2.2)=_ from Xs9 hfb,show Xbz (g.1,g.2.1,g.2.2)=_ from Xq6 g hfb.bd];refine⟨_,rfl,rfl,?_,fun _=>⟨hfb,hfs⟩⟩;have w1:=Xp7 h'.ok;have w2:=hfb.wt
    have w3:wt Xbf (0,0,0,[],[],([],[],()),())≤100:=by simp[wt]
    show 1+(wt Xbf (0,0,0,[],[],([],[],()),())+(wt Xh d'+(wt Xj g+(wt Xj g+0))+0))≤_
    omega
  |none=>
   rw[hrun] at e2;obtain⟨dx,e2⟩:=e2;rw[show Xa0 list (list.length:Int) (0,Xaj d)=_ from e2]
   exact⟨_,rfl,rfl,small 2,fun e=>by cases e⟩
def Xx (l:List Xb) (a:Int):Int:=(l.getD a.toNat Xa).1
def X9 (l:List Xb) (met:List Bool) (e:Xc):Bool:=
 cond (cond (decide (e.2.1≥(l.length:Int))) true (e.2.1 == 0)) false (cond (Xx l e.2.1 == 0) false (cond (Xx l e.2.1 == 2) (!(met.getD e.2.1.toNat false)) true))
abbrev Xgz:=List Bool×List Int×List Xc×Int
def Xac (l:List Xb) (t:Xgz) (e:Xc):Xgz:=
 cond (X9 l t.1 e) (t.1.set e.2.1.toNat true,t.2.1++cond (Xx l e.2.1 == 2) [e.2.1] [],t.2.2.1++[e],t.2.2.2) (t.1,t.2.1,t.2.2.1,t.2.2.2+1)
structure Xj4 (l:List Xb) (wr:Int) (i:Nat) (t:Xgz):Prop where
 len:t.1.length=l.length
 m0:t.1.getD 0 false=true
 p:t.2.1.length≤i
 q:t.2.2.1.length≤i
 w0:0≤t.2.2.2
 w1:t.2.2.2≤wr+i
theorem Xmz {b:List Bool} {j:Nat} (k:Nat) (h:b.getD k false=true):(b.set j true).getD k false=true:=by
 simp only[List.getD,List.getElem?_set] at h ⊢
 split
 ·rename_i e
  split
  ·rfl
  ·rename_i hl
   rw[List.getElem?_eq_none (by omega)] at h;cases h
 ·exact h
theorem Xj4.step {l:List Xb} {wr:Int} {i:Nat} {t:Xgz} (h:Xj4 l wr i t) (e:Xc):Xj4 l wr (i+1) (Xac l t e):=by
 unfold Xac
 cases X9 l t.1 e with
 |false=>exact⟨h.len,h.m0,by have:=h.p;simp only[Ywp];omega,by have:=h.q;simp only[Ywp];omega,by have:=h.w0;simp only[Ywp];omega,by have:=h.w1;simp only[Ywp];omega⟩
 |true=>
  refine⟨by simp only[Yw0,List.length_set];exact h.len,Xmz 0 h.m0,?_,?_,h.w0,by have:=h.w1;simp only[Yw0];omega⟩
  ·have:=h.p
   simp only[Yw0,List.length_append]
   cases Xx l e.2.1 == 2<;>simp<;>omega
  ·have:=h.q;simp;omega
theorem Xs2 (f:Fs_) (hn:f.1.length≤1000) (a:Int) (h0:0≤a):Xik f a=some (decide (a<(f.1.length:Int))):=by
 simp only[Xik,Xf0,Option.bind_some,Yry (show -9223372036854775808≤(f.1.length:Int)-1 by omega) (by omega)]
 congr 1
 rw[Bool.eq_iff_iff,Xw];simp;omega
theorem Xs0 (f:Fs_) (hn:f.1.length≤10) (h2:Xx f.1 0=2) (d:Int) (es:List Xc) (hl:es.length≤6) (he:∀ e∈es,0≤e.2.1∧e.2.1≤9) (v out:Fs_) (q:List Int) (hq:q.length≤1000) (wr:Int) (met:List Bool)
  (hw0:0≤wr) (hw1:wr≤1000) (hm:met.length=f.1.length) (hm0:met.getD 0 false=true) :
  Xc8 f d es v out (wr,0,met,q,[])=some ((es.foldl (Xac f.1) (met,[],[],wr)).2.2.2,(es.foldl (Xac f.1) (met,[],[],wr)).1,q++(es.foldl (Xac f.1) (met,[],[],wr)).2.1,(es.foldl (Xac f.1) (met,[],[],wr)).2.2.1):=by
 have h:=Ym3 (τ:=Xgz) (f:=fun s=>Xc8.B f d es v out s.1 s.2.1 s.2.2.1 s.2.2.2.1 s.2.2.2.2) es (fun i t=>(t.2.2.2,(i:Int),t.1,q++t.2.1,t.2.2.1)) (fun _ e t=>.inl (Xac f.1 t e))
  (fun t=>(t.2.2.2,t.1,q++t.2.1,t.2.2.1)) (fun i t=>Xj4 f.1 wr i t) (fun i hi t ht=>by
   have hee:=he _ (List.getElem_mem hi);simp only[Xc8.B,Yxb hi,Yxd hi,Yw0,toNat_cast,getD_lt _ hi];generalize es[i]=e at hee;have hp:=ht.p;have hqq:=ht.q;have hw:=ht.w1;have hw':=ht.w0
   rw[Xs2 f (by omega) _ hee.1]
   simp only[Option.bind_some,Yvj (by omega:i<4294967296),sel]
   by_cases hlt:e.2.1<(f.1.length:Int)
   ·have hb:inB e.2.1 f.1.length=true:=Yuo hee.1 hlt
    have hb2:inB e.2.1 t.1.length=true:=by rw[ht.len];exact hb
    have hge:decide (e.2.1≥(f.1.length:Int))=false:=by simp;omega
    have ek:(f.1.getD e.2.1.toNat Xa).1=Xx f.1 e.2.1:=rfl;simp only[decide_eq_true hlt,hb,hb2,Bool.not_true,Bool.not_false,Yw0,Ywp,Yu9,ek]
    have hl1:decide ((q++(t.2.1++[e.2.1])).length≤2147483648)=true:=by simp;omega
    have hl2:decide ((t.2.2.1++[e]).length≤2147483648)=true:=by simp;omega
    by_cases h0:e.2.1=0
    ·have e2:Xx f.1 e.2.1=2:=by rw[h0];exact h2
     have em:t.1.getD e.2.1.toNat false=true:=by rw[h0];exact ht.m0
     have hr:X9 f.1 t.1 e=false:=by unfold X9;simp[h0]
     simp only[Xac,hr,e2,em,Ywp]
     simp only[show((2:Int) == 0)=false from rfl,show((2:Int) == 2)=true from rfl,Yw0,Ywp,Bool.not_false,Bool.and_self,Option.bind_some,Yxo (show 0≤t.2.2.2+1 by omega) (by omega)]
    ·have h0':(e.2.1 == 0)=false:=by simpa using h0
     cases hk0:Xx f.1 e.2.1 == 0 with
     |true=>
      have hr:X9 f.1 t.1 e=false:=by unfold X9;simp only[hge,h0',hk0,Ywp,Yw0]
      simp only[Xac,hr,Ywp,Yw0,Bool.not_true,Bool.false_and,Option.bind_some,Yxo (show 0≤t.2.2.2+1 by omega) (by omega)]
     |false=>
      cases hk2:Xx f.1 e.2.1 == 2 with
      |true=>
       cases hm:t.1.getD e.2.1.toNat false with
       |true=>
        have hr:X9 f.1 t.1 e=false:=by unfold X9;simp only[hge,h0',hk0,hk2,hm,Ywp,Yw0,Bool.not_true]
        simp only[Xac,hr,Ywp,Yw0,Bool.not_false,Bool.and_self,Option.bind_some,hk2,hm,Yxo (show 0≤t.2.2.2+1 by omega) (by omega)]
       |false=>
        have hr:X9 f.1 t.1 e=true:=by unfold X9;simp only[hge,h0',hk0,hk2,hm,Ywp,Yw0,Bool.not_false]
        simp only[Xac,hr,Ywp,Yw0,Bool.not_false,Bool.and_self,Option.bind_some,hk2,hm,hl1,hl2,List.append_assoc]
      |false=>
       have hr:X9 f.1 t.1 e=true:=by unfold X9;simp only[hge,h0',hk0,hk2,Ywp,Yw0]
       simp only[Xac,hr,Ywp,Yw0,Bool.not_false,Bool.and_false,Option.bind_some,hk2,hl2,List.append_nil]
   ·have hge:decide (e.2.1≥(f.1.length:Int))=true:=by simp;omega
    have hr:X9 f.1 t.1 e=false:=by unfold X9;simp only[hge,Yw0]
    simp only[Xac,hr,decide_eq_false hlt,Bool.not_false,Bool.not_true,Yw0,Ywp,Option.bind_some,Bool.false_and,Yxo (show 0≤t.2.2.2+1 by omega) (by omega)])
  (fun i hi t t' ht e=>by cases e;exact ht.step _)
  (fun t ht=>by simp only[Xc8.B,Yw7 (Nat.le_refl _),Ywp]) (met,[],[],wr) ⟨hm,hm0,Nat.le_refl _,Nat.le_refl _,hw0,by simp⟩ (s:=(wr,0,met,q,[])) (by simp)
 rw[Ye8] at h;exact h
def Xgo (k:List Int) (es:List Xc):List Int:=es.foldl (fun k e=>k.set e.2.1.toNat (w64 (k.getD e.2.1.toNat 0+1))) k
theorem Xmu (es:List Xc):∀ k:List Int,(Xgo k es).length=k.length:=by
 induction es with
 |nil=>intro k;rfl
 |cons e es ih=>intro k;show(Xgo _ es).length=_;rw[ih];simp
theorem Xox (k:List Int) (es:List Xc) (e:Xc):Xgo k (es++[e])=(Xgo k es).set e.2.1.toNat (w64 ((Xgo k es).getD e.2.1.toNat 0+1)):=by simp[Xgo]
theorem Xsk (l:List Xb) (hn:l.length≤10) (f:Fs_) (hf:f.1=l) (met:List Bool) (hm:met.length=l.length) (r:List (List Xc)×Int×(List Int)×(List Int)×Unit) (e:Xc) (h0:0≤e.2.1):Xia (f,met,r) e=some (X9 l met e):=by
 subst hf;unfold Xia Xfo X9;simp only[Option.bind_some]
 cases h1:cond (decide (e.2.1≥(f.1.length:Int))) true (e.2.1 == 0) with
 |true=>rfl
 |false=>
  have hlt:e.2.1<(f.1.length:Int):=by
   cases h2:decide (e.2.1≥(f.1.length:Int)) with
   |true=>rw[h2] at h1;cases h1
   |false=>simp at h2;omega
  have hb:inB e.2.1 f.1.length=true:=Yuo h0 hlt
  have hb2:inB e.2.1 met.length=true:=by rw[hm];exact hb
  have ek:(f.1.getD e.2.1.toNat Xa).1=Xx f.1 e.2.1:=rfl;simp only[hb,hb2,Ywp,Yw0,ek]
  cases Xx f.1 e.2.1 == 0<;>cases Xx f.1 e.2.1 == 2<;>rfl
theorem Xt3 (f:Fs_) (hn:f.1.length≤10) (a:Int) (ha:0≤a∧a<(f.1.length:Int)) (es:List Xc) (hl:es.length≤6) (he:∀ e∈es,0≤e.2.1∧e.2.1≤9) (q:List Int) (hq:q.length≤1000) (wr:Int) (met:List Bool)
  (E:List (List Xc)) (hE:E.length=f.1.length) (hEa:E.getD a.toNat []=[]) (K B:List Int) (hK:K.length=f.1.length) (hw0:0≤wr) (hw1:wr≤1000) (hm:met.length=f.1.length) (hm0:met.getD 0 false=true) :
  Xcy f a es (es.length:Int) f (0,q,(met,E,wr,K,B,()))=some (q++(es.foldl (Xac f.1) (met,[],[],wr)).2.1,((es.foldl (Xac f.1) (met,[],[],wr)).1,E.set a.toNat (es.foldl (Xac f.1) (met,[],[],wr)).2.2.1,(es.foldl (Xac f.1) (met,[],[],wr)).2.2.2,Xgo K (es.foldl (Xac f.1) (met,[],[],wr)).2.2.1,B,())):=by
 have hat:a.toNat<f.1.length:=by omega
 have hE0:E.set a.toNat []=E:=by
  rw[←hEa]
  refine List.ext_getElem (by simp) fun i h1 h2=>?_
  rw[List.getElem_set]
  split
  ·rename_i e;subst e;exact getD_lt _ h2
  ·rfl
 have h:=Ym3 (τ:=Xgz) (f:=fun s=>Xcy.B f a es (es.length:Int) f s.1 s.2.1 s.2.2) es (fun i t=>((i:Int),q++t.2.1,(t.1,E.set a.toNat t.2.2.1,t.2.2.2,Xgo K t.2.2.1,B,()))) (fun _ e t=>.inl (Xac f.1 t e))
  (fun t=>(q++t.2.1,(t.1,E.set a.toNat t.2.2.1,t.2.2.2,Xgo K t.2.2.1,B,()))) (fun i t=>Xj4 f.1 wr i t) (fun i hi t ht=>by
   have hee:=he _ (List.getElem_mem hi);simp only[Xcy.B,Yxb hi,Yxd hi,Yw0,toNat_cast,getD_lt _ hi];generalize es[i]=e at hee;have hp:=ht.p;have hqq:=ht.q;have hw:=ht.w1;have hw':=ht.w0;rw[Xsk f.1 hn f rfl t.1 ht.len _ _ hee.1]
   simp only[Option.bind_some,Yvj (by omega:i<4294967296),sel]
   cases hr:X9 f.1 t.1 e with
   |false=>simp only[Xac,hr,Ywp,Yw0,Bool.not_false,Yxo (show 0≤t.2.2.2+1 by omega) (by omega)]
   |true=>
    have hlt:e.2.1<(f.1.length:Int):=by
     cases h2:decide (e.2.1≥(f.1.length:Int)) with
     |true=>unfold X9 at hr;rw[h2] at hr;simp only[Yw0] at hr;cases hr
     |false=>simp at h2;omega
    have hb:inB e.2.1 f.1.length=true:=Yuo hee.1 hlt
    have hb2:inB e.2.1 t.1.length=true:=by rw[ht.len];exact hb
    have hb3:inB e.2.1 (Xgo K t.2.2.1).length=true:=by rw[Xmu,hK];exact hb
    have hb4:inB a (E.set a.toNat t.2.2.1).length=true:=by rw[List.length_set,hE];exact Yuo ha.1 ha.2
    have hl1:decide ((q++(t.2.1++[e.2.1])).length≤2147483648)=true:=by simp;omega
    have hl2:decide ((t.2.2.1++[e]).length≤2147483648)=true:=by simp;omega
    have ek:(f.1.getD e.2.1.toNat Xa).1=Xx f.1 e.2.1:=rfl
    have hEe:(E.set a.toNat t.2.2.1).getD a.toNat []=t.2.2.1:=Ywg _ _ (by omega)
    have hnb:Nat.beq a.toNat a.toNat=true:=Nat.beq_refl _
    have hmk:(cond (!(t.1.getD e.2.1.toNat false)) (Xx f.1 e.2.1 == 2) false)=(Xx f.1 e.2.1 == 2):=by
     cases hk2:Xx f.1 e.2.1 == 2 with
     |false=>exact Yu9 _ _
     |true=>
      unfold X9 at hr;simp only[hk2,Yw0] at hr
      cases hm':t.1.getD e.2.1.toNat false with
      |false=>rfl
      |true=>
       rw[hm'] at hr
       revert hr
       cases cond (decide (e.2.1≥(f.1.length:Int))) true (e.2.1 == 0)<;>cases Xx f.1 e.2.1 == 0<;>simp
    simp only[Bool.not_true,Ywp,Yw0,hb,hb2,hb3,hb4,hEe,hl1,hl2,hnb,Bool.and_self,Option.bind_some,Yu9,ek,hmk,Xac,hr,Xox,List.set_set]
    cases hk2:Xx f.1 e.2.1 == 2 with
    |true=>simp only[Yw0,List.append_assoc,hl1]
    |false=>simp only[Ywp,List.append_nil])
  (fun i hi t t' ht e=>by cases e;exact ht.step _)
  (fun t ht=>by simp only[Xcy.B,Yw7 (Nat.le_refl _),Ywp]) (met,[],[],wr) ⟨hm,hm0,Nat.le_refl _,Nat.le_refl _,hw0,by simp⟩ (s:=(0,q,(met,E,wr,K,B,()))) (by simp[hE0,Xgo])
 rw[Ye8] at h;exact h
theorem Xpo {l:List Xb} {met:List Bool} {e:Xc} (h:X9 l met e=true):e.2.1<(l.length:Int)∧e.2.1≠0∧Xx l e.2.1≠0∧(Xx l e.2.1=2→met.getD e.2.1.toNat false=false):=by
 unfold X9 at h
 by_cases h1:e.2.1≥(l.length:Int)
 ·simp[h1] at h
 ·by_cases h2:e.2.1=0
  ·simp[h2] at h
  ·by_cases h3:Xx l e.2.1=0
   ·simp[h3] at h
   ·refine⟨by omega,h2,h3,fun h4=>?_⟩
    have a1:decide (e.2.1≥(l.length:Int))=false:=by simpa using h1
    have a2:(e.2.1 == 0)=false:=by simpa using h2
    have a4:(Xx l e.2.1 == 2)=true:=by simpa using h4
    rw[a1,a2,h4] at h
    simpa using h
structure Xly (l:List Xb) (met0:List Bool) (es:List Xc) (t:Xgz):Prop where
 len:t.1.length=l.length
 mono:∀ j,on met0 j→on t.1 j
 ps:∀ p∈t.2.1,0≤p∧p<(l.length:Int)∧Xx l p=2∧¬ on met0 p.toNat∧on t.1 p.toNat
 nd:t.2.1.Nodup
 all:∀ j:Nat,on t.1 j→¬ on met0 j→Xx l j=2→(j:Int)∈t.2.1
 nz:∀ j:Nat,on t.1 j→¬ on met0 j→Xx l j≠0
 lf:∀ e∈t.2.2.1,e∈es∧0≤e.2.1∧e.2.1<(l.length:Int)∧on t.1 e.2.1.toNat
theorem Xly.step {l:List Xb} {met0:List Bool} {es:List Xc} {t:Xgz} (h:Xly l met0 es t) {e:Xc} (he:e∈es) (h0:0≤e.2.1):Xly l met0 es (Xac l t e):=by
 unfold Xac
 cases hr:X9 l t.1 e with
 |false=>exact⟨h.len,h.mono,h.ps,h.nd,h.all,h.nz,h.lf⟩
 |true=>
  obtain⟨r1,r2,r3,r4⟩:=Xpo hr
  have hlt:e.2.1.toNat<t.1.length:=by rw[h.len];omega
  have hcast:((e.2.1.toNat:Nat):Int)=e.2.1:=by omega
  have hup:∀ j,on t.1 j→on (t.1.set e.2.1.toNat true) j:=fun j hj=>Xa7.2 (.inl hj)
  refine⟨by simp only[Yw0,List.length_set];exact h.len,fun j hj=>hup j (h.mono j hj),?_,?_,?_,?_,?_⟩
  ·intro p hp
   simp only[Yw0] at hp;rcases List.mem_append.1 hp with hp | hp
   ·obtain⟨q1,q2,q3,q4,q5⟩:=h.ps p hp
    exact⟨q1,q2,q3,q4,hup _ q5⟩
   ·cases hk:Xx l e.2.1 == 2 with
    |false=>rw[hk] at hp;cases hp
    |true=>
     rw[hk] at hp;simp only[Yw0,List.mem_singleton] at hp;subst hp
     have hk2:Xx l e.2.1=2:=by simpa using hk
     exact⟨h0,r1,hk2,(fun hm=>by have:=h.mono _ hm;unfold on at this;rw[r4 hk2] at this;cases this),Xa7.2 (.inr ⟨rfl,hlt⟩)⟩
  ·simp only[Yw0]
   cases hk:Xx l e.2.1 == 2 with
   |false=>simpa using h.nd
   |true=>
    have hk2:Xx l e.2.1=2:=by simpa using hk
    simp only[Yw0]
    refine List.nodup_append.2 ⟨h.nd,by simp,fun a ha b hb=>?_⟩
    simp only[List.mem_singleton] at hb;subst hb;intro e';subst e';have:=(h.ps _ ha).2.2.2.2;unfold on at this;rw[r4 hk2] at this;cases this
  ·intro j hj hn hk
   simp only[Yw0] at hj ⊢;rcases Xa7.1 hj with hj | ⟨rfl,_⟩
   ·exact List.mem_append.2 (.inl (h.all j hj hn hk))
   ·rw[hcast] at hk ⊢
    rw[hk];simp
  ·intro j hj hn
   simp only[Yw0] at hj;rcases Xa7.1 hj with hj | ⟨rfl,_⟩
   ·exact h.nz j hj hn
   ·rw[hcast];exact r3
  ·intro x hx
   simp only[Yw0] at hx ⊢;rcases List.mem_append.1 hx with hx | hx
   ·obtain⟨q1,q2,q3,q4⟩:=h.lf x hx
    exact⟨q1,q2,q3,hup _ q4⟩
   ·simp only[List.mem_singleton] at hx
    subst hx;exact⟨he,h0,r1,Xa7.2 (.inr ⟨rfl,hlt⟩)⟩
theorem Xo0 {l:List Xb} {met0:List Bool} {es0:List Xc} (hd:∀ e∈es0,0≤e.2.1):∀ (es:List Xc) (t:Xgz),(∀ e∈es,e∈es0)→Xly l met0 es0 t→Xly l met0 es0 (es.foldl (Xac l) t)
 |[],t,_,h=>h
 |e::es,t,hs,h=>Xo0 hd es _ (fun x hx=>hs x (List.mem_cons_of_mem _ hx)) (h.step (hs e List.mem_cons_self) (hd e (hs e List.mem_cons_self)))
theorem Xpk {l:List Xb} {wr:Int}:∀ (es:List Xc) (i:Nat) (t:Xgz),Xj4 l wr i t→Xj4 l wr (i+es.length) (es.foldl (Xac l) t)
 |[],i,t,h=>h
 |e::es,i,t,h=>by
  have:=Xpk es (i+1) _ (h.step e)
  rwa [show i+(e::es).length=i+1+es.length by simp;omega]
theorem Xnl:∀ (es:List Xc) (K:List Int) (M:Int),(∀ j,0≤K.getD j 0∧K.getD j 0≤M)→M+es.length≤1000000→(∀ e∈es,0≤e.2.1∧e.2.1.toNat<K.length)→
  ∀ j,(Xgo K es).getD j 0=K.getD j 0+(((es.map fun e=>e.2.1).count (j:Int):Nat):Int)
 |[],K,M,_,_,_,j=>by simp[Xgo]
 |e::es,K,M,hK,hM,he,j=>by
  obtain⟨h0,hlt⟩:=he e List.mem_cons_self;have hKe:=hK e.2.1.toNat
  have hlen:((e::es).length:Int)=es.length+1:=by simp
  have hw:w64 (K.getD e.2.1.toNat 0+1)=K.getD e.2.1.toNat 0+1:=Yry (by omega) (by omega)
  have hg:∀ j,(K.set e.2.1.toNat (K.getD e.2.1.toNat 0+1)).getD j 0=K.getD j 0+(if e.2.1=(j:Int) then 1 else 0):=by
   intro j
   by_cases hj:e.2.1.toNat=j
   ·subst hj
    rw[Ywg _ _ hlt,if_pos (by omega)]
   ·rw[if_neg (by omega)]
    simp only[List.getD,List.getElem?_set,hj,if_false];omega
  show(Xgo (K.set e.2.1.toNat (w64 (K.getD e.2.1.toNat 0+1))) es).getD j 0=_
  rw[hw,Xnl es _ (M+1) (fun j=>by rw[hg];have:=hK j;split<;>omega) (by omega) (fun x hx=>by rw[List.length_set];exact he x (List.mem_cons_of_mem _ hx)) j,hg,List.map_cons,List.count_cons]
  by_cases hj:e.2.1=(j:Int)
  ·rw[if_pos hj,if_pos (by simpa using hj)];omega
  ·rw[if_neg hj,if_neg (by simpa using hj)];omega
def Xmq (T:List (List Xc)) (j:Int):Nat:=(T.flatMap fun es=>es.map fun e=>e.2.1).count j
theorem Xmr:∀ (T:List (List Xc)) (a:Nat) (left:List Xc) (j:Int),a<T.length→T.getD a []=[]→Xmq (T.set a left) j=Xmq T j+(left.map fun e=>e.2.1).count j
 |[],a,left,j,h,_=>by simp at h
 |t::T,0,left,j,h,he=>by
  have:t=[]:=he;subst this
  simp[Xmq,List.count_append];omega
 |t::T,a+1,left,j,h,he=>by
  have:=Xmr T a left j (by simpa using h) (by simpa using he)
  simp only[Xmq,List.set_cons_succ,List.flatMap_cons,List.count_append] at this ⊢;omega
theorem Xgl:∀ (n:Nat) (P:List Nat),P.Nodup→(∀ x∈P,x<n)→P.length≤n
 |0,P,_,h=>by
  cases P with
  |nil=>simp
  |cons x P=>have:=h x List.mem_cons_self;omega
 |n+1,P,hn,h=>by
  by_cases hm:n∈P
  ·have h1:=Xgl n (P.erase n) (hn.erase _) (fun x hx=>by
    have h2:=(List.Nodup.mem_erase_iff hn).1 hx;have h3:=h x h2.2
    omega)
   rw[List.length_erase_of_mem hm] at h1;omega
  ·have:=Xgl n P hn (fun x hx=>by
    have h3:=h x hx;have:x≠n:=fun e=>hm (e▸hx)
    omega)
   omega
def Xy {α β:Type} (h:Nat→α→β) (d:α) (l:List α):List β:=(List.range l.length).map fun i=>h i (l.getD i d)
theorem Xat {α β:Type} (h:Nat→α→β) (d:α) (l:List α):(Xy h d l).length=l.length:=by simp[Xy]
theorem Xco {α β:Type} (h:Nat→α→β) (d:α) (l:List α) (i:Nat) (hi:i<(Xy h d l).length):(Xy h d l)[i]=h i (l.getD i d):=by simp[Xy]
theorem Xex {α β:Type} (h:Nat→α→β) (d:α) (l:List α) (i:Nat) (hi:i<l.length) (d':β):(Xy h d l).getD i d'=h i (l.getD i d):=by
 rw[getD_lt _ (by rw[Xat];exact hi),Xco]
theorem Xks {α:Type} (d:α) (l:List α):Xy (fun _ x=>x) d l=l:=by
 refine List.ext_getElem (Xat _ _ _) fun i h1 h2=>?_;rw[Xco,getD_lt _ h2]
theorem Xm8 {α β:Type} (h:Nat→α→β) (d:α) (l:List α) (i:Nat) (v:β) (hi:i<l.length):(Xy h d l).set i v=Xy (fun j x=>if j=i then v else h j x) d l:=by
 refine List.ext_getElem (by simp[Xat]) fun j h1 h2=>?_
 rw[List.getElem_set];simp only[Xco]
 by_cases e:i=j
 ·rw[if_pos e,if_pos e.symm]
 ·rw[if_neg e,if_neg (fun h=>e h.symm)]
theorem Xbq {α β:Type} {h g:Nat→α→β} {d:α} {l:List α} (e:∀ i,i<l.length→h i (l.getD i d)=g i (l.getD i d)):Xy h d l=Xy g d l:=by
 refine List.ext_getElem (by simp[Xat]) fun j h1 h2=>?_
 rw[Xco,Xco]
 exact e j (by simpa [Xat] using h1)
def Xhq (x:Xb) (es:List Xc):Xb:=(x.1,x.2.1,x.2.2.1,x.2.2.2.1,es,x.2.2.2.2.2)
def Xga (l:List Xb) (P:List Nat) (T:List (List Xc)):List Xb:=Xy (fun i x=>if i∈P then Xhq x (T.getD i []) else x) Xa l
structure Xpp (l:List Xb) (q:List Int) (met:List Bool) (T:List (List Xc)) (wr:Int) (K:List Int) (P:List Nat):Prop where
 len:met.length=l.length
 tl:T.length=l.length
 kl:K.length=l.length
 m0:on met 0
 nd:(P++q.map Int.toNat).Nodup
 qp:∀ a∈q,0≤a∧a<(l.length:Int)
 qk:∀ j∈P++q.map Int.toNat,j<l.length∧Xx l j=2∧on met j
 al:∀ j:Nat,on met j→Xx l j=2→j∈P++q.map Int.toNat
 nz:∀ j:Nat,on met j→Xx l j≠0
 te:∀ j,j∉P→T.getD j []=[]
 tb:∀ j,(T.getD j []).length≤6∧∀ e∈T.getD j [],e∈Xr l j∧0≤e.2.1∧e.2.1<(l.length:Int)
 kc:∀ j:Nat,K.getD j 0=((Xmq T j:Nat):Int)
 kb:∀ j:Nat,K.getD j 0≤6*P.length
 w0:0≤wr
 w1:wr≤6*P.length
theorem Xo3 (x:Xb) (es:List Xc):(x.1,x.2.1,x.2.2.1,x.2.2.2.1,es,x.2.2.2.2.2)=Xhq x es:=rfl
theorem Xni (f:Fs_) (hn:f.1.length≤10) (h2:Xx f.1 0=2) (hent:∀ j,(Xr f.1 j).length≤6∧∀ e∈Xr f.1 j,0≤e.2.1∧e.2.1≤9) (v:Fs_) (B:List Int) (D:List (List Int)) :
  ∀ (k:Nat) (q:List Int) (met:List Bool) (T:List (List Xc)) (wr:Int) (K:List Int) (P:List Nat),Xpp f.1 q met T wr K P→f.1.length≤k+P.length→
  ∃ met' T' wr' K' P',Xpp f.1 [] met' T' wr' K' P'∧Xfz f f (q,(met,T,wr,K,B,()))=some (met',T',wr',K',B,())∧
   Xdo f v (wr,(Xga f.1 P T,D,()),met,q)=some (wr',(Xga f.1 P' T',D,()),met')
 |k,[],met,T,wr,K,P,I,hk=>⟨met,T,wr,K,P,I,Y5 (by simp[Xfz.B]),Y5 (by simp[Xdo.B])⟩
 |0,a::q,met,T,wr,K,P,I,hk=>by
  have h1:=Xgl _ _ I.nd (fun x hx=>(I.qk x hx).1)
  simp at h1;omega
 |k+1,a::q,met,T,wr,K,P,I,hk=>by
  have ha:=I.qp a List.mem_cons_self
  have hcast:((a.toNat:Nat):Int)=a:=by omega
  have hat:a.toNat<f.1.length:=by omega
  have hPn:=Xgl _ _ I.nd (fun x hx=>(I.qk x hx).1);simp only[List.length_append,List.map_cons,List.length_cons,List.length_map] at hPn;have hnd:=I.nd;rw[List.map_cons] at hnd
  have haP:a.toNat∉P:=fun h=>by
   have:=(List.nodup_append.1 hnd).2.2 _ h _ List.mem_cons_self;exact this rfl
  have hTa:=I.te _ haP;obtain⟨hel,heb⟩:=hent a.toNat
  let r:=(Xr f.1 a.toNat).foldl (Xac f.1) (met,[],[],wr)
  have hr:(Xr f.1 a.toNat).foldl (Xac f.1) (met,[],[],wr)=r:=rfl;have hw1:=I.w1
  have S:Xly f.1 met (Xr f.1 a.toNat) r:=Xo0 (fun e he=>(heb e he).1) _ _ (fun _ h=>h) ⟨I.len,fun _ h=>h,(fun _ h=>by cases h),List.nodup_nil,(fun j h1 h2=>absurd h1 h2),(fun j h1 h2=>absurd h1 h2),(fun _ h=>by cases h)⟩
  have L:Xj4 f.1 wr (0+(Xr f.1 a.toNat).length) r:=Xpk _ 0 _ ⟨I.len,I.m0,Nat.le_refl _,Nat.le_refl _,I.w0,by simp⟩
  have Lq:=L.q;have Lw:=L.w1
  have hleft:r.2.2.1.length≤6:=by omega
  have e1:=Xt3 f hn a ha (Xr f.1 a.toNat) hel heb (a::q) (by simp;omega) wr met T I.tl hTa K B I.kl I.w0 (by omega) I.len I.m0
  have e2:=Xs0 f hn h2 a (Xr f.1 a.toNat) hel heb v (Xga f.1 P T,D,()) q (by omega) wr met I.w0 (by omega) I.len I.m0
  rw[hr] at e1 e2
  have hTset:∀ j,(T.set a.toNat r.2.2.1).getD j []=if j=a.toNat then r.2.2.1 else T.getD j []:=by
   intro j
   by_cases hj:j=a.toNat
   ·subst hj;rw[if_pos rfl,Ywg _ _ (by rw[I.tl];exact hat)]
   ·rw[if_neg hj];simp only[List.getD,List.getElem?_set];rw[if_neg (fun h=>hj h.symm)]
  have hKn:∀ j:Nat,0≤K.getD j 0∧K.getD j 0≤60:=fun j=>⟨by rw[I.kc];omega,by have:=I.kb j;omega⟩
  have hK':=Xnl r.2.2.1 K 60 hKn (by omega) (fun e he=>by have:=S.lf e he;rw[I.kl];omega)
  have hout:(Xga f.1 P T).set a.toNat (Xhq ((Xga f.1 P T).getD a.toNat Xa) r.2.2.1)=Xga f.1 (P++[a.toNat]) (T.set a.toNat r.2.2.1):=by
   unfold Xga;rw[Xm8 _ _ _ _ _ hat];refine Xbq fun i hi=>?_
   by_cases e:i=a.toNat
   ·subst e
    rw[if_pos rfl,if_pos (by simp),Xex _ _ _ _ hat,if_neg haP,hTset,if_pos rfl]
   ·rw[if_neg e,hTset,if_neg e]
    have:(i∈P++[a.toNat])↔i∈P:=by simp[e]
    by_cases hiP:i∈P
    ·rw[if_pos hiP,if_pos (this.2 hiP)]
    ·rw[if_neg hiP,if_neg (fun h=>hiP (this.1 h))]
  have I':Xpp f.1 (q++r.2.1) r.1 (T.set a.toNat r.2.2.1) r.2.2.2 (Xgo K r.2.2.1) (P++[a.toNat]):=by
   have hmem:∀ j,j∈(P++[a.toNat])++(q++r.2.1).map Int.toNat↔(j∈P++(a::q).map Int.toNat)∨j∈r.2.1.map Int.toNat:=by
    intro j;simp only[List.map_append,List.map_cons,List.mem_append,List.mem_cons,List.not_mem_nil,or_false]
    constructor
    ·rintro((h | h) | (h | h))
     ·exact .inl (.inl h)
     ·exact .inl (.inr (.inl h))
     ·exact .inl (.inr (.inr h))
     ·exact .inr h
    ·rintro((h | (h | h)) | h)
     ·exact .inl (.inl h)
     ·exact .inl (.inr h)
     ·exact .inr (.inl h)
     ·exact .inr (.inr h)
   have hpush:∀ j∈r.2.1.map Int.toNat,j<f.1.length∧Xx f.1 j=2∧¬ on met j∧on r.1 j:=by
    intro j hj;obtain⟨p,hp,rfl⟩:=List.mem_map.1 hj;obtain⟨q1,q2,q3,q4,q5⟩:=S.ps p hp
    have hc:((p.toNat:Nat):Int)=p:=by omega
    exact⟨by omega,by rw[hc];exact q3,q4,q5⟩
   have hpl:((P++[a.toNat]).length:Int)=P.length+1:=by simp
   refine⟨S.len,by rw[List.length_set];exact I.tl,by rw[Xmu];exact I.kl,S.mono _ I.m0,?_,?_,?_,?_,?_,?_,?_,?_,?_,L.w0,by omega⟩
   ·have h1:(P++[a.toNat])++(q++r.2.1).map Int.toNat=(P++(a::q).map Int.toNat)++r.2.1.map Int.toNat:=by simp
    rw[h1];refine List.nodup_append.2 ⟨I.nd,?_,fun x hx y hy e=>?_⟩
    ·have:∀ (l:List Int),(∀ p∈l,0≤p)→l.Nodup→(l.map Int.toNat).Nodup:=by
      intro l
      induction l with
      |nil=>intro _ _;simp
      |cons p l ih=>
       intro h1 h2;rw[List.nodup_cons] at h2;rw[List.map_cons,List.nodup_cons];refine⟨fun hm=>?_,ih (fun x hx=>h1 x (List.mem_cons_of_mem _ hx)) h2.2⟩;obtain⟨p',hp',e⟩:=List.mem_map.1 hm;have a1:=h1 p List.mem_cons_self;have a2:=h1 p' (List.mem_cons_of_mem _ hp')
       have:p'=p:=by omega
       subst this;exact h2.1 hp'
     exact this _ (fun p hp=>(S.ps p hp).1) S.nd
    ·subst e
     exact(hpush x hy).2.2.1 (I.qk x hx).2.2
   ·intro x hx
    rcases List.mem_append.1 hx with hx | hx
    ·exact I.qp x (List.mem_cons_of_mem _ hx)
    ·exact⟨(S.ps x hx).1,(S.ps x hx).2.1⟩
   ·intro j hj
    rcases(hmem j).1 hj with hj | hj
    ·obtain⟨q1,q2,q3⟩:=I.qk j hj
     exact⟨q1,q2,S.mono _ q3⟩
    ·obtain⟨q1,q2,q3,q4⟩:=hpush j hj
     exact⟨q1,q2,q4⟩
   ·intro j hj hk2
    refine(hmem j).2 ?_
    by_cases hm:on met j
    ·exact .inl (I.al j hm hk2)
    ·exact .inr (List.mem_map.2 ⟨(j:Int),S.all j hj hm hk2,by simp⟩)
   ·intro j hj
    by_cases hm:on met j
    ·exact I.nz j hm
    ·exact S.nz j hj hm
   ·intro j hj
    have hj1:j∉P:=fun h=>hj (List.mem_append.2 (.inl h))
    have hj2:j≠a.toNat:=fun h=>hj (by simp[h])
    rw[hTset,if_neg hj2];exact I.te j hj1
   ·intro j
    rw[hTset]
    split
    ·rename_i e;subst e
     exact⟨hleft,fun e he=>⟨(S.lf e he).1,(S.lf e he).2.1,(S.lf e he).2.2.1⟩⟩
    ·exact I.tb j
   ·intro j
    rw[hK',I.kc,Xmr T a.toNat r.2.2.1 j (by rw[I.tl];exact hat) hTa];omega
   ·intro j
    rw[hK'];have h3:=I.kb j;have h4:=List.count_le_length (a:=(j:Int)) (l:=r.2.2.1.map fun e=>e.2.1);rw[List.length_map] at h4;omega
  obtain⟨met',T',wr',K',P',J,j1,j2⟩:=Xni f hn h2 hent v B D k (q++r.2.1) r.1 (T.set a.toNat r.2.2.1) r.2.2.2 (Xgo K r.2.2.1) (P++[a.toNat]) I' (by simp;omega)
  refine⟨met',T',wr',K',P',J,?_,?_⟩
  ·rw[←j1]
   refine Yar ?_;have g0:(a::q).getD ((0:Int).toNat) 0=a:=rfl
   have g1:decide (((a::q).length:Int)>0)=true:=by simp
   have g2:inB 0 (a::q).length=true:=Yuo (by omega) (by simp)
   have g3:inB a f.1.length=true:=Yuo ha.1 ha.2;simp only[Xfz.B,g0,g1,g2,g3,Yw0,Option.bind_some];rw[show(((((f.1.getD a.toNat Xa).2).2).2).2).1=Xr f.1 a.toNat from rfl,e1];have g4:(a::q++r.2.1).drop ((1:Int).toNat)=q++r.2.1:=rfl
   have g5:(decide ((0:Int)≤(1:Int))&&decide ((1:Int)≤((a::q++r.2.1).length:Int)))=true:=by simp;omega
   simp only[Option.bind_some,g5,Yw0,g4]
   rw[List.take_of_length_le (by simp)]
  ·rw[←j2]
   refine Yar ?_;have g0:(a::q).getD ((0:Int).toNat) 0=a:=rfl
   have g1:decide (((a::q).length:Int)>0)=true:=by simp
   have g2:inB 0 (a::q).length=true:=Yuo (by omega) (by simp)
   have g3:inB a f.1.length=true:=Yuo ha.1 ha.2;have g4:(a::q).drop ((1:Int).toNat)=q:=rfl
   have g5:(decide ((0:Int)≤(1:Int))&&decide ((1:Int)≤((a::q).length:Int)))=true:=by simp;omega
   have g6:inB a (Xga f.1 P T).length=true:=by rw[show(Xga f.1 P T).length=f.1.length from Xat _ _ _];exact g3
   simp only[Xdo.B,g0,g1,g2,g3,g4,g5,g6,Yw0,Option.bind_some]
   rw[List.take_of_length_le (by simp),show(((((f.1.getD a.toNat Xa).2).2).2).2).1=Xr f.1 a.toNat from rfl,e2]
   simp only[Option.bind_some];rw[Xo3,hout]
def upN {α β:Type} (N O:Nat→α→β) (d:α) (l:List α) (i:Nat):List β:=Xy (fun j x=>if j<i then N j x else O j x) d l
theorem Xa3 {α:Type} {β:Type} {N:Nat→α→β} {O:Nat→α→β} {d:α} {l:List α} (i:Nat):(upN N O d l i).length=l.length:=Xat _ _ _
theorem Xe5 {α:Type} {β:Type} {N:Nat→α→β} {O:Nat→α→β} {d:α} {l:List α}:upN N O d l 0=Xy O d l:=Xbq fun i _=>by simp
theorem Xgn {α:Type} {β:Type} {N:Nat→α→β} {O:Nat→α→β} {d:α} {l:List α}:upN N O d l l.length=Xy N d l:=Xbq fun i hi=>by rw[if_pos hi]
theorem Xcr {α:Type} {β:Type} {N:Nat→α→β} {O:Nat→α→β} {d:α} {l:List α} {i:Nat} (hi:i<l.length) (d':β):(upN N O d l i).getD i d'=O i (l.getD i d):=by
 unfold upN;rw[Xex _ _ _ _ hi,if_neg (Nat.lt_irrefl _)]
theorem Xce {α:Type} {β:Type} {N:Nat→α→β} {O:Nat→α→β} {d:α} {l:List α} {i:Nat} (hi:i<l.length) {v:β} (hv:v=N i (l.getD i d)):(upN N O d l i).set i v=upN N O d l (i+1):=by
 unfold upN;rw[Xm8 _ _ _ _ _ hi];refine Xbq fun j hj=>?_
 by_cases e:j=i
 ·subst e;rw[if_pos rfl,if_pos (Nat.lt_succ_self _),hv]
 ·rw[if_neg e]
  by_cases h:j<i
  ·rw[if_pos h,if_pos (by omega)]
  ·rw[if_neg h,if_neg (by omega)]
theorem Xf4 {α:Type} {β:Type} {N:Nat→α→β} {O:Nat→α→β} {d:α} {l:List α} {i:Nat} (hi:i<l.length) (h:N i (l.getD i d)=O i (l.getD i d)):upN N O d l i=upN N O d l (i+1):=
 Xbq fun j hj=>by
  by_cases e:j=i
  ·subst e;rw[if_neg (Nat.lt_irrefl _),if_pos (Nat.lt_succ_self _),h]
  ·by_cases h:j<i
   ·rw[if_pos h,if_pos (by omega)]
   ·rw[if_neg h,if_neg (by omega)]
def Xq (l:List Xb) (i:Nat):List Int:=(l.getD i Xa).2.2.2.1
def tkF (met:List Bool) (l:List Xb):Nat→List Int
 |0=>[]
 |i+1=>tkF met l i++cond (met.getD i false) ((Xq l i).takeWhile fun b=>!(tkF met l i).contains b) []
def kbF (met:List Bool) (l:List Xb) (i:Nat):List Int:=cond (met.getD i false) ((Xq l i).takeWhile fun b=>!(tkF met l i).contains b) []
theorem Xhp (met:List Bool) (l:List Xb) (i:Nat):tkF met l (i+1)=tkF met l i++kbF met l i:=rfl
theorem Xih {α:Type} (p:α→Bool):∀ l:List α,(l.takeWhile p).length≤l.length
 |[]=>by simp
 |x::l=>by
  rw[List.takeWhile_cons]
  split
  ·have:=Xih p l;simp;omega
  ·simp
theorem take_takeWhile {α:Type} (p:α→Bool):∀ l:List α,l.take (l.takeWhile p).length=l.takeWhile p
 |[]=>by simp
 |x::l=>by
  rw[List.takeWhile_cons]
  split
  ·simp[take_takeWhile p l]
  ·simp
theorem Xg4 {α:Type} {p:α→Bool} {x:α}:∀ {l:List α},x∈l.takeWhile p→x∈l
 |y::l,h=>by
  rw[List.takeWhile_cons] at h
  split at h
  ·rcases List.mem_cons.1 h with rfl | h
   ·exact List.mem_cons_self
   ·exact List.mem_cons_of_mem _ (Xg4 h)
  ·cases h
theorem Xk2:∀ (l a:List Int),Xi3 a l=false→l.Nodup∧∀ x∈l,x∉a
 |[],a,_=>⟨List.nodup_nil,fun _ h=>by cases h⟩
 |x::l,a,h=>by
  simp only[Xi3,Bool.or_eq_false_iff] at h;obtain⟨h1,h2⟩:=Xk2 l _ h.2
  have hx:x∉a:=by have:=h.1;simpa using this
  refine⟨List.nodup_cons.2 ⟨fun hm=>h2 x hm (by simp),h1⟩,fun y hy=>?_⟩
  rcases List.mem_cons.1 hy with rfl | hy
  ·exact hx
  ·exact fun hm=>h2 y hy (by simp[hm])
structure InD (x:Xb):Prop where
 nd:x.2.2.2.1.Nodup
 bl:x.2.2.2.1.length≤4∧∀ b∈x.2.2.2.1,0≤b∧b≤19
 fre:x.1=0→x=Xa
 ent:x.1≠2→x.2.2.2.2.1=[]
 dir:x.1≠1→x.2.2.2.1=[]
 knd:0≤x.1∧x.1≤2
 sz:0≤x.2.2.1∧x.2.2.1≤32
 fil:x.1=1→(x.2.2.2.1.length:Int)=Xha x.2.2.1
 el:x.2.2.2.2.1.length≤6
theorem InD.of {x:Xb} (h:Xt x=0):InD x:=by
 obtain⟨h1,h2,h3,h4⟩:=Xar h;obtain⟨g1,g2,g3,g4,g5,g6⟩:=Xa6 h
 have hf:x.1=1→inR x.2.2.1 0 32=true∧(x.2.2.2.1.length:Int)=Xha x.2.2.1∧Xi3 [] x.2.2.2.1=false:=by
  intro e;have:=h4 e;unfold Xh6 at this
  cases a1:inR x.2.1 1 60 with
  |false=>rw[a1] at this;cases this
  |true=>
   cases a2:inR x.2.2.1 0 32 with
   |false=>rw[a1,a2] at this;cases this
   |true=>
    cases a3:((x.2.2.2.1.length:Int) != Xha x.2.2.1) with
    |true=>rw[a1,a2,a3] at this;cases this
    |false=>
     cases a4:(x.2.2.2.1.any fun b=>!inR b 0 19) with
     |true=>rw[a1,a2,a3,a4] at this;cases this
     |false=>
      cases a5:Xi3 [] x.2.2.2.1 with
      |true=>rw[a1,a2,a3,a4,a5] at this;cases this
      |false=>exact⟨rfl,by simpa using a3,rfl⟩
 refine⟨?_,⟨h1,h2⟩,fun e=>?_,g3,h3,g1,?_,fun e=>(hf e).2.1,g2⟩
 ·by_cases e:x.1=1
  ·exact(Xk2 _ _ (hf e).2.2).1
  ·rw[h3 e];exact List.nodup_nil
 ·obtain⟨a,b,c,d,es,⟨⟩⟩:=x
  have e':a=0:=e;subst e'
  have b1:b=0∧c=0:=g5 (by show(0:Int)≠1;decide)
  have b2:d=[]:=h3 (by show(0:Int)≠1;decide)
  have b3:es=[]:=g3 (by show(0:Int)≠2;decide)
  rw[b1.1,b1.2,b2,b3];rfl
 ·by_cases e:x.1=1
  ·exact Xw.1 (hf e).1
  ·rw[(g5 e).2];decide
structure Xny (l:List Xb):Prop where
 len:l.length≤10
 all:∀ j,InD (l.getD j Xa)
theorem Xny.of {l:List Xb} (h:X7 l=0):Xny l:=by
 refine⟨(Xai h).1,fun j=>?_⟩
 by_cases hj:j<l.length
 ·rw[getD_lt _ hj];exact InD.of ((Xai h).2 _ (List.getElem_mem hj))
 ·have:l.getD j Xa=Xa:=by simp only[List.getD,List.getElem?_eq_none (by omega:l.length≤j)];rfl
  rw[this]
  exact⟨List.nodup_nil,⟨by simp[Xa],fun b hb=>by cases hb⟩,fun _=>rfl,fun _=>rfl,fun _=>rfl,by decide,by decide,(fun e=>by cases e),by simp[Xa]⟩
theorem Xqh {met:List Bool} {l:List Xb} {i:Nat} {b:Int} (h:b∈kbF met l i):b∈Xq l i:=by
 unfold kbF at h
 cases hm:met.getD i false with
 |false=>rw[hm] at h;cases h
 |true=>rw[hm] at h;exact Xg4 h
theorem Xc0 (met:List Bool) (l:List Xb) (i:Nat):(kbF met l i).length≤(Xq l i).length:=by
 unfold kbF
 cases met.getD i false with
 |false=>simp
 |true=>exact Xih _ _
theorem Xnn (met:List Bool) (l:List Xb) (i:Nat):(Xq l i).take (kbF met l i).length=kbF met l i:=by
 unfold kbF
 cases met.getD i false with
 |false=>simp
 |true=>exact take_takeWhile _ _
theorem Xoi {met:List Bool} {l:List Xb} (h:Xny l):∀ i,(tkF met l i).length≤4*i
 |0=>by simp[tkF]
 |i+1=>by
  have h1:=Xoi (met:=met) h i;have h2:=Xc0 met l i;have h3:(Xq l i).length≤4:=(h.all i).bl.1;rw[Xhp,List.length_append];omega
theorem Xtb {f:Fs_} (at_ v17 v21:Int) (l:List Xb) (bs:List Int) (hb:bs.length≤4) (hnd:bs.Nodup) (tk:List Int) (ht:tk.length≤100) (n:Nat) (hn:at_=(n:Int)) (met:List Bool) (T:List (List Xc)) (wr:Int) (K B:List Int) (hB:n<B.length) (hB0:B.getD n 0=0) :
  Xdd at_ l v17 v21 bs (bs.length:Int) f (0,tk,(met,T,wr,K,B,()))=some (tk++bs.takeWhile (fun b=>!tk.contains b),(met,T,wr,K,B.set n ((bs.takeWhile fun b=>!tk.contains b).length:Int),())):=by
 subst hn
 have hset:B.set n ((0:Nat):Int)=B:=by
  rw[show((0:Nat):Int)=B.getD n 0 from hB0.symm]
  refine List.ext_getElem (by simp) fun i h1 h2=>?_
  rw[List.getElem_set]
  split
  ·rename_i e;subst e;exact getD_lt _ h2
  ·rfl
 have h:=Ym3 (τ:=List Int) bs (f:=fun s=>Xdd.B (n:Int) l v17 v21 bs (bs.length:Int) f s.1 s.2.1 s.2.2) (fun i t=>((i:Int),tk++t,(met,T,wr,K,B.set n (t.length:Int),())))
  (fun i b t=>cond ((tk++t).contains b) (.inr (tk++t,(met,T,wr,K,B.set n (t.length:Int),()))) (.inl (t++[b])))
  (fun t=>(tk++t,(met,T,wr,K,B.set n (t.length:Int),()))) (fun i t=>t.length≤i) (fun i hi t ht2=>by
   have hc:Xb6 (tk++t) bs[i]=some ((tk++t).contains bs[i]):=Xps _ _ (by simp;omega)
   have hb1:inB (n:Int) (B.set n (t.length:Int)).length=true:=Yxd (by simpa using hB)
   have hg:(B.set n (t.length:Int)).getD n 0=(t.length:Int):=Ywg _ _ hB
   simp only[Xdd.B,Yxb hi,Yxd hi,Yw0,toNat_cast,getD_lt _ hi,hc,Option.bind_some,hb1,hg,Yvj (by omega:i<4294967296),Yvj (by omega:t.length<4294967296),List.set_set]
   cases (tk++t).contains bs[i] with
   |true=>rfl
   |false=>
    simp only[Ywp,sel]
    rw[show decide ((tk++t++[bs[i]]).length≤2147483648)=true by simp;omega]
    simp[List.append_assoc])
  (fun i hi t t' ht2 e=>by
   cases hc:(tk++t).contains bs[i] with
   |true=>rw[hc] at e;cases e
   |false=>rw[hc] at e;cases e;simp;omega)
  (fun t ht2=>by simp only[Xdd.B,Yw7 (Nat.le_refl _),Ywp]) [] (Nat.le_refl _) (s:=(0,tk,(met,T,wr,K,B,()))) (by simp only[List.append_nil,List.length_nil,hset];rfl)
 refine Eq.trans h ?_
 have key:∀ (bs:List Int) (i:Nat) (t:List Int),bs.Nodup→(∀ b∈bs,b∉t)→Ya9 (fun i b t=>cond ((tk++t).contains b) (.inr (tk++t,(met,T,wr,K,B.set n (t.length:Int),()))) (.inl (t++[b])))
  (fun t=>(tk++t,(met,T,wr,K,B.set n (t.length:Int),()))) i bs t=(tk++(t++bs.takeWhile (fun b=>!tk.contains b)),(met,T,wr,K,B.set n ((t++bs.takeWhile (fun b=>!tk.contains b)).length:Int),())):=by
  intro bs
  induction bs with
  |nil=>intro i t _ _;simp[Ya9]
  |cons b bs ih=>
   intro i t h1 h2;rw[List.nodup_cons] at h1
   have hbt:(tk++t).contains b=tk.contains b:=by
    have:=h2 b List.mem_cons_self;rw[Bool.eq_iff_iff];simp[this]
   simp only[Ya9,hbt];rw[List.takeWhile_cons]
   cases hc:tk.contains b with
   |true=>simp only[Yw0,Ywz,Bool.not_true,Bool.false_eq_true,if_false,List.append_nil]
   |false=>
    simp only[Ywp,sel,Bool.not_false,if_true]
    rw[ih (i+1) (t++[b]) h1.2 (fun x hx hm=>by
     rcases List.mem_append.1 hm with hm | hm
     ·exact h2 x (List.mem_cons_of_mem _ hx) hm
     ·simp only[List.mem_singleton] at hm;subst hm;exact h1.1 hx)]
    simp[List.append_assoc]
 rw[key bs 0 [] hnd (fun _ _ h=>by cases h)]
 simp
theorem Xrx {f:Fs_} (hi:Xny f.1) {met:List Bool} (hm:met.length=f.1.length) (T:List (List Xc)) (wr:Int) (K:List Int) :
  Xej f.1 (f.1.length:Int) f (0,[],(met,T,wr,K,List.replicate f.1.length 0,()))=some (met,T,wr,K,Xy (fun j _=>((kbF met f.1 j).length:Int)) Xa f.1,()):=by
 have hn:=hi.len
 have hrep:List.replicate f.1.length (0:Int)=upN (fun j _=>((kbF met f.1 j).length:Int)) (fun _ _=>0) Xa f.1 0:=by
  rw[Xe5]
  refine List.ext_getElem (by simp[Xat]) fun i h1 h2=>?_
  rw[Xco];simp
 have h:=Ytp (f:=fun s=>Xej.B f.1 (f.1.length:Int) f s.1 s.2.1 s.2.2) (fun i=>((i:Int),tkF met f.1 i,(met,T,wr,K,upN (fun j _=>((kbF met f.1 j).length:Int)) (fun _ _=>0) Xa f.1 i,()))) (n:=f.1.length)
  (r:=(met,T,wr,K,Xy (fun j _=>((kbF met f.1 j).length:Int)) Xa f.1,())) (fun i hi'=>by
   have hm1:inB (i:Int) met.length=true:=Yxd (by omega)
   have hup:∀ {v:Int},v=((kbF met f.1 i).length:Int)→(upN (fun j _=>((kbF met f.1 j).length:Int)) (fun _ _=>0) Xa f.1 i).set i v=upN (fun j _=>((kbF met f.1 j).length:Int)) (fun _ _=>0) Xa f.1 (i+1):=fun hv=>Xce hi' hv
   simp only[Xej.B,Yxb hi',Yxd hi',hm1,Yw0,toNat_cast,Yvj (by omega:i<4294967296)]
   cases hmi:met.getD i false with
   |false=>
    have hk:kbF met f.1 i=[]:=by unfold kbF;rw[hmi];rfl
    simp only[Bool.not_false,Yw0]
    rw[Xhp,hk,List.append_nil,Xf4 hi' (by simp[hk])]
   |true=>
    have hk:kbF met f.1 i=(Xq f.1 i).takeWhile fun b=>!(tkF met f.1 i).contains b:=by unfold kbF;rw[hmi];rfl
    simp only[Bool.not_true,Ywp,Option.bind_some];have ht:=Xoi (met:=met) hi i
    have e3:=Xtb (f:=f) (i:Int) (f.1.length:Int) (i:Int) f.1 (Xq f.1 i) (hi.all i).bl.1 (hi.all i).nd (tkF met f.1 i) (by omega) i rfl met T wr K (upN (fun j _=>((kbF met f.1 j).length:Int)) (fun _ _=>0) Xa f.1 i) (by rw[Xa3];exact hi') (Xcr hi' 0)
    unfold Xq at e3 hk
    rw[e3,←hk,hup rfl,Xhp];rfl) (by
   simp only[Xej.B,Yw7 (Nat.le_refl _),Ywp,Xgn]) f.1.length 0 (by omega)
 rw[hrep];exact h
def Xn (g:Nat→Int):Nat→Int
 |0=>0
 |n+1=>Xn g n+g n
theorem Xbd {g:Nat→Int} (h:∀ i,0≤g i∧g i≤4):∀ n,0≤Xn g n∧Xn g n≤4*n
 |0=>by simp[Xn]
 |n+1=>by have:=Xbd h n;have:=h n;simp only[Xn];omega
structure Seen (l:List Xb) (met:List Bool) (T:List (List Xc)) (wr:Int) (K:List Int) (P:List Nat):Prop where
 I:Xpp l [] met T wr K P
 D:Xny l
theorem Seen.mem {l:List Xb} {met:List Bool} {T:List (List Xc)} {wr:Int} {K:List Int} {P:List Nat} (h:Seen l met T wr K P) (i:Nat):i∈P↔met.getD i false=true∧(l.getD i Xa).1=2:=by
 have hk:Xx l (i:Int)=(l.getD i Xa).1:=by unfold Xx;rw[toNat_cast]
 constructor
 ·intro hi
  have:=h.I.qk i (by simpa using hi)
  exact⟨this.2.2,hk▸this.2.1⟩
 ·rintro⟨h1,h2⟩
  have:=h.I.al i h1 (by rw[hk];exact h2)
  simpa using this
theorem Seen.nz {l:List Xb} {met:List Bool} {T:List (List Xc)} {wr:Int} {K:List Int} {P:List Nat} (h:Seen l met T wr K P) {i:Nat} (hm:met.getD i false=true):(l.getD i Xa).1≠0:=by
 have:=h.I.nz i hm;unfold Xx at this;rwa [toNat_cast] at this
theorem Seen.tE {l:List Xb} {met:List Bool} {T:List (List Xc)} {wr:Int} {K:List Int} {P:List Nat} (h:Seen l met T wr K P) {i:Nat} (hi:¬ (met.getD i false=true∧(l.getD i Xa).1=2)):T.getD i []=[]:=h.I.te i (fun hp=>hi ((h.mem i).1 hp))
def Xa9 (met:List Bool) (T:List (List Xc)) (i:Nat) (x:Xb):Xb:=cond (met.getD i false) (cond (x.1 == 2) (Xhq x (T.getD i [])) x) Xa
def Xaa (l:List Xb) (met:List Bool) (T:List (List Xc)) (K:List Int) (i:Nat) (x:Xb):Xb:=
 cond (met.getD i false) (cond (x.1 == 2) (Xhq x (T.getD i [])) (x.1,K.getD i 0,Xby (w64 (((kbF met l i).length:Int)*8)) x.2.2.1,kbF met l i,x.2.2.2.2)) Xa
def gL (l:List Xb) (met:List Bool) (i:Nat):Int:=cond (!(met.getD i false)) (cond ((l.getD i Xa).1 != 0) 1 0) 0
def gT (l:List Xb) (met:List Bool) (i:Nat):Int:=cond (met.getD i false) (cond ((l.getD i Xa).1 == 1) (((Xq l i).length:Int)-((kbF met l i).length:Int)) 0) 0
def gK (l:List Xb) (met:List Bool) (K:List Int) (i:Nat):Int:=cond (met.getD i false) (cond ((l.getD i Xa).1 == 1) (cond ((l.getD i Xa).2.1 != K.getD i 0) 1 0) 0) 0
theorem Xo4 {l:List Xb} {met:List Bool} (i:Nat):0≤gL l met i∧gL l met i≤4:=by
 unfold gL
 cases met.getD i false<;>cases ((l.getD i Xa).1 != 0)<;>decide
theorem Xoy {l:List Xb} {met:List Bool} {K:List Int} (i:Nat):0≤gK l met K i∧gK l met K i≤4:=by
 unfold gK
 cases met.getD i false<;>cases ((l.getD i Xa).1 == 1)<;>cases ((l.getD i Xa).2.1 != K.getD i 0)<;>decide
theorem Xpb {l:List Xb} {met:List Bool} (h:Xny l) (i:Nat):0≤gT l met i∧gT l met i≤4:=by
 have h1:=Xc0 met l i;have h2:(Xq l i).length≤4:=(h.all i).bl.1;unfold gT
 cases met.getD i false with
 |false=>simp only[Ywp];omega
 |true=>
  cases ((l.getD i Xa).1 == 1) with
  |false=>simp only[Yw0,Ywp];omega
  |true=>simp only[Yw0];omega
theorem Xs3 {l:List Xb} {met:List Bool} {T:List (List Xc)} {wr:Int} {K:List Int} {P:List Nat} (h:Seen l met T wr K P) (Da:List (List Int)) :
  Xem met 0 0 (0,0,(Xga l P T,Da,()))=some (Xn (gL l met) l.length,(Xy (Xa9 met T) Xa l,Da,())):=by
 have hn:=h.D.len
 have h0:Xga l P T=upN (Xa9 met T) (fun i x=>if i∈P then Xhq x (T.getD i []) else x) Xa l 0:=Xe5.symm
 have hs:=Ytp (f:=fun s=>Xem.B met 0 0 s.1 s.2.1 s.2.2) (fun i=>(Xn (gL l met) i,(i:Int),(upN (Xa9 met T) (fun i x=>if i∈P then Xhq x (T.getD i []) else x) Xa l i,Da,()))) (n:=l.length)
  (r:=(Xn (gL l met) l.length,(Xy (Xa9 met T) Xa l,Da,()))) (fun i hi=>by
   have hm1:inB (i:Int) met.length=true:=Yxd (by rw[h.I.len];exact hi)
   have hb:=Xbd (g:=gL l met) Xo4 i
   have hO:(upN (Xa9 met T) (fun i x=>if i∈P then Xhq x (T.getD i []) else x) Xa l i).getD i Xa=if i∈P then Xhq (l.getD i Xa) (T.getD i []) else l.getD i Xa:=Xcr hi _
   simp only[Xem.B,Xa3,Yxb hi,Yxd hi,hm1,Yw0,toNat_cast,Yu9,hO,Yvj (by omega:i<4294967296)]
   cases hm:met.getD i false with
   |true=>
    simp only[Bool.not_true,Ywp,Option.bind_some]
    rw[show Xn (gL l met) (i+1)=Xn (gL l met) i by simp only[Xn,gL,hm,Bool.not_true,Ywp,Int.add_zero],Xf4 hi]
    unfold Xa9;rw[hm]
    by_cases e:(l.getD i Xa).1=2
    ·rw[if_pos ((h.mem i).2 ⟨hm,e⟩),e];rfl
    ·rw[if_neg (fun hp=>e ((h.mem i).1 hp).2),show((l.getD i Xa).1 == 2)=false by simpa using e];rfl
   |false=>
    have hP:i∉P:=fun hp=>by have:=((h.mem i).1 hp).1;rw[hm] at this;cases this
    simp only[Bool.not_false,Yw0,if_neg hP,Option.bind_some]
    cases hk:((l.getD i Xa).1 != 0) with
    |true=>
     simp only[Yw0]
     rw[Yxo (by omega) (by omega),show Xn (gL l met) (i+1)=Xn (gL l met) i+1 by simp only[Xn,gL,hm,hk,Bool.not_false,Yw0]]
     rw[Xce hi (by unfold Xa9;rw[hm];rfl)]
    |false=>
     have hz:l.getD i Xa=Xa:=(h.D.all i).fre (by simpa using hk)
     simp only[Ywp]
     rw[show Xn (gL l met) (i+1)=Xn (gL l met) i by simp only[Xn,gL,hm,hk,Bool.not_false,Yw0,Ywp];omega]
     rw[Xf4 hi (by rw[if_neg hP,hz];unfold Xa9;rw[hm];rfl)]) (by
   simp only[Xem.B,Xa3,Yw7 (Nat.le_refl _),Ywp];rw[Xgn]) l.length 0 (by omega)
 rw[h0];exact hs
theorem Xqk {l:List Xb} {met:List Bool} {T:List (List Xc)} {wr:Int} {K:List Int} {P:List Nat} (h:Seen l met T wr K P) (i:Nat):(Xaa l met T K i (l.getD i Xa)).2.2.2.2.1=T.getD i []:=by
 unfold Xaa
 cases hm:met.getD i false with
 |false=>rw[h.tE (fun hh=>by rw[hm] at hh;cases hh.1)];rfl
 |true=>
  by_cases e:(l.getD i Xa).1=2
  ·rw[e];rfl
  ·rw[show((l.getD i Xa).1 == 2)=false by simpa using e,h.tE (fun hh=>e hh.2)]
   exact(h.D.all i).ent e
theorem Xo2 {l:List Xb} {met:List Bool} {T:List (List Xc)} {wr:Int} {K:List Int} {P:List Nat} (h:Seen l met T wr K P) (i:Nat):(Xa9 met T i (l.getD i Xa)).2.2.2.2.1=T.getD i []:=by
 unfold Xa9
 cases hm:met.getD i false with
 |false=>rw[h.tE (fun hh=>by rw[hm] at hh;cases hh.1)];rfl
 |true=>
  by_cases e:(l.getD i Xa).1=2
  ·rw[e];rfl
  ·rw[show((l.getD i Xa).1 == 2)=false by simpa using e,h.tE (fun hh=>e hh.2)]
   exact(h.D.all i).ent e
theorem Xmp {l:List Xb} {met:List Bool} {T:List (List Xc)} {wr:Int} {K:List Int} {P:List Nat} (h:Seen l met T wr K P) (i:Nat):(Xaa l met T K i (l.getD i Xa)).2.2.2.1=kbF met l i:=by
 unfold Xaa
 cases hm:met.getD i false with
 |false=>simp only[Ywp,kbF,hm];rfl
 |true=>
  by_cases e:(l.getD i Xa).1=2
  ·have hb:Xq l i=[]:=(h.D.all i).dir (by rw[e];decide)
   have hk:kbF met l i=[]:=by have:=Xc0 met l i;rw[hb] at this;exact List.eq_nil_of_length_eq_zero (by simpa using this)
   rw[e,hk];exact hb
  ·rw[show((l.getD i Xa).1 == 2)=false by simpa using e];rfl
theorem Xqf {L:List Xb} {T:List (List Xc)} (hl:L.length=T.length) (h:∀ j,j<L.length→(L.getD j Xa).2.2.2.2.1=T.getD j []) (a:Int):Xa4 L a=((Xmq T a:Nat):Int):=by
 have:L.map (fun x=>x.2.2.2.2.1)=T:=by
  refine List.ext_getElem (by simpa using hl) fun j h1 h2=>?_
  have hj:j<L.length:=by simpa using h1
  have:=h j hj;rw[getD_lt _ hj,getD_lt _ h2] at this
  simpa using this
 unfold Xa4 Xm2 Xmq;rw[←this,List.flatMap_map]
theorem Xms {α:Type} (p:α→Bool):∀ (bs:List α) (i:Nat),Ya9 (τ:=Unit) (fun k b _=>cond (p b) (.inl ()) (.inr (k:Int))) (fun _=>((i+bs.length:Nat):Int)) i bs ()=((i+(bs.takeWhile p).length:Nat):Int)
 |[],i=>by simp[Ya9]
 |b::bs,i=>by
  simp only[Ya9];rw[List.takeWhile_cons]
  cases hp:p b with
  |true=>
   simp only[Yw0,sel,if_true];have:=Xms p bs (i+1)
   rw[show i+(b::bs).length=i+1+bs.length by simp;omega,this]
   simp only[List.length_cons];congr 1;omega
  |false=>simp[sel]
theorem Xpm {α β:Type} {N O:Nat→α→β} {d:α} {l:List α} {i:Nat} (hi:i≤l.length):(upN N O d l i).take i=(List.range i).map fun j=>N j (l.getD j d):=by
 refine List.ext_getElem (by simp[Xa3];omega) fun j h1 h2=>?_
 have hj:j<i:=by simpa using h2
 rw[List.getElem_take];unfold upN;rw[Xco,if_pos hj];simp
theorem Xnf {l:List Xb} {met:List Bool} {T:List (List Xc)} {wr:Int} {K:List Int} {P:List Nat} (h:Seen l met T wr K P):∀ i,Xaq ((List.range i).map fun j=>Xaa l met T K j (l.getD j Xa))=tkF met l i
 |0=>rfl
 |i+1=>by
  rw[List.range_succ,List.map_append,Xhp,←Xnf h i];simp only[Xaq,List.flatMap_append,List.map_cons,List.map_nil,List.flatMap_cons,List.flatMap_nil,List.append_nil,Xmp h]
theorem Xnd {l:List Xb} {met:List Bool} {T:List (List Xc)} {wr:Int} {K:List Int} {P:List Nat} (h:Seen l met T wr K P) {i:Nat} (hi:i≤l.length):Xcw ((List.range i).map fun j=>Xaa l met T K j (l.getD j Xa)):=by
 refine⟨by have:=h.D.len;simp;omega,fun x hx=>?_⟩
 obtain⟨j,hj,rfl⟩:=List.mem_map.1 hx;rw[Xmp h];have h1:=Xc0 met l j;have h2:=(h.D.all j).bl;unfold Xq at h1
 exact⟨by omega,fun b hb=>h2.2 b (Xqh hb)⟩
abbrev Xaz (l:List Xb) (met:List Bool) (T:List (List Xc)) (K:List Int) (i:Nat):List Xb:=upN (Xaa l met T K) (Xa9 met T) Xa l i
theorem Xsn {l:List Xb} {met:List Bool} {T:List (List Xc)} {wr:Int} {K:List Int} {P:List Nat} (h:Seen l met T wr K P) (Da:List (List Int)) {i:Nat} (hi:i<l.length) (hm:met.getD i false=true) (hk:(l.getD i Xa).1=1) (a b c:Int) :
  Xcj a b c (i:Int) i (Xaz l met T K i,Da,()) 0=some ((kbF met l i).length:Int):=by
 have hn:=h.D.len
 have hg:(Xaz l met T K i).getD i Xa=l.getD i Xa:=by
  rw[Xcr hi];unfold Xa9;rw[hm,hk];rfl
 have hb4:=(h.D.all i).bl.1
 have hbl:(((((Xaz l met T K i).getD i Xa).2).2).2).1=Xq l i:=by rw[hg];rfl
 have hs:=Ym3 (τ:=Unit) (Xq l i) (f:=fun s=>Xcj.B a b c (i:Int) i (Xaz l met T K i,Da,()) s) (fun k _=>(k:Int)) (fun k b _=>cond (!(tkF met l i).contains b) (.inl ()) (.inr (k:Int))) (fun _=>((Xq l i).length:Int)) (fun _ _=>True)
  (fun k hk' _ _=>by
   have ht:(decide ((0:Int)≤(i:Int))&&decide ((i:Int)≤((Xaz l met T K i).length:Int)))=true:=by rw[show(Xaz l met T K i).length=l.length from Xa3 i];simp;omega
   simp only[Xcj.B,hbl,Option.bind_some,Yxb hk',Yxd hk',Yw0,toNat_cast,getD_lt _ hk',ht,List.drop_zero,Nat.sub_zero]
   rw[Xpm (by omega),Xqm _ (Xnd h (by omega)),Xnf h]
   simp only[Option.bind_some,Yvj (by have:(Xq l i).length≤4:=hb4;omega:k<4294967296)]
   by_cases hc:(Xq l i)[k]∈tkF met l i
   ·have h1:((((tkF met l i).count (Xq l i)[k]:Nat):Int) == 0)=false:=by
     have:=List.count_pos_iff.2 hc;simp;omega
    rw[h1,show(tkF met l i).contains (Xq l i)[k]=true by simpa using hc];rfl
   ·have h1:((((tkF met l i).count (Xq l i)[k]:Nat):Int) == 0)=true:=by
     have:=List.count_eq_zero.2 hc;simp[this]
    rw[h1,show(tkF met l i).contains (Xq l i)[k]=false by simpa using hc];rfl)
  (fun _ _ _ _ _ _=>trivial) (fun _ _=>by simp only[Xcj.B,hbl,Option.bind_some,Yw7 (Nat.le_refl _),Ywp]) () trivial (s:=0) rfl
 have h2:Xcj a b c (i:Int) i (Xaz l met T K i,Da,()) 0=_:=hs;rw[h2];have h3:=Xms (fun b=>!(tkF met l i).contains b) (Xq l i) 0;simp only[Nat.zero_add] at h3;rw[h3];unfold kbF;rw[hm];rfl
theorem Xoq {l:List Xb} {met:List Bool} {T:List (List Xc)} {wr:Int} {K:List Int} {P:List Nat} (h:Seen l met T wr K P) {i:Nat} (hi:i<l.length) (y:Xb) (hy:y.2.2.2.2.1=T.getD i []):Xjd ((Xaz l met T K i).set i y) (i:Int)=some (K.getD i 0):=by
 have hlen:((Xaz l met T K i).set i y).length=l.length:=by rw[List.length_set];exact Xa3 i
 have hent:∀ j,j<((Xaz l met T K i).set i y).length→(((Xaz l met T K i).set i y).getD j Xa).2.2.2.2.1=T.getD j []:=by
  intro j hj;rw[hlen] at hj
  by_cases e:i=j
  ·subst e;rw[Ywg _ _ (by rw[show(Xaz l met T K i).length=l.length from Xa3 i];exact hi)];exact hy
  ·have:((Xaz l met T K i).set i y).getD j Xa=(Xaz l met T K i).getD j Xa:=by simp only[List.getD,List.getElem?_set,e,if_false]
   rw[this];unfold Xaz upN;rw[Xex _ _ _ _ hj]
   split
   ·exact Xqk h j
   ·exact Xo2 h j
 rw[Xqq _ (fun x hx=>by
  obtain⟨j,hj,rfl⟩:=List.getElem_of_mem hx;have:=hent j hj;rw[getD_lt _ hj] at this
  rw[this];exact(h.I.tb j).1) (by rw[hlen];exact h.D.len),Xqf (by rw[hlen,h.I.tl]) hent,h.I.kc]
theorem Xtt {l:List Xb} {met:List Bool} {T:List (List Xc)} {wr:Int} {K:List Int} {P:List Nat} (h:Seen l met T wr K P) (Da:List (List Int)) (lo:Int) :
  Xev lo (0,0,0,(Xy (Xa9 met T) Xa l,Da,()))=some (Xn (gT l met) l.length,Xn (gK l met K) l.length,(Xy (Xaa l met T K) Xa l,Da,())):=by
 have hn:=h.D.len;have h0:Xy (Xa9 met T) Xa l=Xaz l met T K 0:=Xe5.symm
 have hs:=Ytp (f:=fun s=>Xev.B lo s.1 s.2.1 s.2.2.1 s.2.2.2) (fun i=>(Xn (gT l met) i,Xn (gK l met K) i,(i:Int),(Xaz l met T K i,Da,()))) (n:=l.length)
  (r:=(Xn (gT l met) l.length,Xn (gK l met K) l.length,(Xy (Xaa l met T K) Xa l,Da,()))) (fun i hi=>by
   have hb1:=Xbd (g:=gT l met) (Xpb h.D) i;have hb2:=Xbd (g:=gK l met K) Xoy i;have hlen:(Xaz l met T K i).length=l.length:=Xa3 i;have hO:(Xaz l met T K i).getD i Xa=Xa9 met T i (l.getD i Xa):=Xcr hi _
   simp only[Xev.B,hlen,Yxb hi,Yxd hi,Yw0,toNat_cast,Yvj (by omega:i<4294967296)]
   cases hm:met.getD i false with
   |false=>
    have hz:(Xaz l met T K i).getD i Xa=Xa:=by rw[hO];unfold Xa9;rw[hm];rfl
    rw[hz];simp only[show((Xa.1:Int) != 1)=true from rfl,Yw0]
    rw[show Xn (gT l met) (i+1)=Xn (gT l met) i by simp only[Xn,gT,hm,Ywp,Int.add_zero],show Xn (gK l met K) (i+1)=Xn (gK l met K) i by simp only[Xn,gK,hm,Ywp,Int.add_zero]]
    rw[show Xaz l met T K (i+1)=Xaz l met T K i from(Xf4 hi (by unfold Xa9 Xaa;rw[hm];rfl)).symm]
   |true=>
    by_cases hk:(l.getD i Xa).1=1
    ·have hx:(Xaz l met T K i).getD i Xa=l.getD i Xa:=by rw[hO];unfold Xa9;rw[hm,hk];rfl
     have hk1:=Xc0 met l i;have hk4:(Xq l i).length≤4:=(h.D.all i).bl.1
     have hent0:(l.getD i Xa).2.2.2.2.1=T.getD i []:=by
      rw[h.tE (fun hh=>by rw[hk] at hh;exact absurd hh.2 (by decide))];exact(h.D.all i).ent (by rw[hk];decide)
     have hl2:=Xsn h Da hi hm hk lo (Xn (gT l met) i) (Xn (gK l met K) i);rw[hl2];generalize hX:l.getD i Xa=x at *
     have hbx:Xq l i=x.2.2.2.1:=by unfold Xq;rw[hX]
     have hc1:(decide ((0:Int)≤((kbF met l i).length:Int))&&decide (((kbF met l i).length:Int)≤(x.2.2.2.1.length:Int)))=true:=by rw[←hbx];simp;omega
     have htk:(x.2.2.2.1.drop 0).take (((kbF met l i).length:Int).toNat-0)=kbF met l i:=by
      rw[List.drop_zero,toNat_cast,Nat.sub_zero,←hbx];exact Xnn met l i
     have hnb:(Nat.beq i i&&true)=true:=by rw[Nat.beq_refl];rfl
     have hgs:∀ (L:List Xb) (y:Xb),L.length=l.length→(L.set i y).getD i Xa=y:=fun L y hL=>Ywg _ _ (by omega)
     have hl1:((Xaz l met T K i).set i (x.1,x.2.1,x.2.2.1,kbF met l i,x.2.2.2.2)).length=l.length:=by rw[List.length_set];exact hlen
     simp only[hx,hk,show((1:Int) != 1)=false from rfl,Ywp,Option.bind_some,hc1,htk,hnb,Yw0,hgs _ _ hlen,List.set_set,Xn7,hgs _ _ hl1];have hlk:=Xoq h hi (x.1,x.2.1,Xby x.2.2.1 (w64 (((kbF met l i).length:Int)*8)),kbF met l i,x.2.2.2.2) hent0
     have hsw:Xby x.2.2.1 (w64 (((kbF met l i).length:Int)*8))=Xby (w64 (((kbF met l i).length:Int)*8)) x.2.2.1:=by rw[←Xm1];rfl
     rw[hk] at hlk;rw[hlk];simp only[Option.bind_some]
     have hw1:w64 ((x.2.2.2.1.length:Int)-((kbF met l i).length:Int))=(x.2.2.2.1.length:Int)-((kbF met l i).length:Int):=Yry (by rw[←hbx];omega) (by rw[←hbx];omega)
     have hgT:gT l met i=(x.2.2.2.1.length:Int)-((kbF met l i).length:Int):=by unfold gT;rw[hm,hX,hk,hbx];rfl
     have hw2:w64 (Xn (gT l met) i+((x.2.2.2.1.length:Int)-((kbF met l i).length:Int)))=Xn (gT l met) (i+1):=by
      rw[Yry (by rw[←hbx];omega) (by rw[←hbx];omega)];simp only[Xn,hgT]
     have hfix:Xaa l met T K i x=(1,K.getD i 0,Xby (w64 (((kbF met l i).length:Int)*8)) x.2.2.1,kbF met l i,x.2.2.2.2):=by
      unfold Xaa;rw[hm,hk];rfl
     rw[hw1,hw2]
     cases hne:(x.2.1 != K.getD i 0) with
     |true=>
      have hgK:gK l met K i=1:=by unfold gK;rw[hm,hX,hk,hne];rfl
      simp only[Yw0]
      rw[Yxo (by omega) (by omega),show Xn (gK l met K) i+1=Xn (gK l met K) (i+1) by simp only[Xn,hgK]]
      rw[show(Xaz l met T K i).set i (1,K.getD i 0,Xby x.2.2.1 (w64 (((kbF met l i).length:Int)*8)),kbF met l i,x.2.2.2.2)=Xaz l met T K (i+1) from Xce hi (by rw[hX,hfix,hsw])]
     |false=>
      have hgK:gK l met K i=0:=by unfold gK;rw[hm,hX,hk,hne];rfl
      have hKe:x.2.1=K.getD i 0:=by simpa using hne
      simp only[Ywp]
      rw[show Xn (gK l met K) (i+1)=Xn (gK l met K) i by simp only[Xn,hgK,Int.add_zero]]
      rw[show(Xaz l met T K i).set i (1,x.2.1,Xby x.2.2.1 (w64 (((kbF met l i).length:Int)*8)),kbF met l i,x.2.2.2.2)=Xaz l met T K (i+1) from Xce hi (by rw[hX,hfix,hsw,hKe])]
    ·have hk2:(l.getD i Xa).1=2:=by have:=(h.D.all i).knd;have:=h.nz hm;omega
     have hx1:((Xaz l met T K i).getD i Xa).1=2:=by rw[hO];unfold Xa9;rw[hm,hk2];exact hk2
     rw[hx1];simp only[show((2:Int) != 1)=true from rfl,Yw0]
     rw[show Xn (gT l met) (i+1)=Xn (gT l met) i by simp only[Xn,gT,hm,hk2,show((2:Int) == 1)=false from rfl,Yw0,Ywp,Int.add_zero],show Xn (gK l met K) (i+1)=Xn (gK l met K) i by simp only[Xn,gK,hm,hk2,show((2:Int) == 1)=false from rfl,Yw0,Ywp,Int.add_zero]]
     rw[show Xaz l met T K (i+1)=Xaz l met T K i from(Xf4 hi (by unfold Xa9 Xaa;rw[hm,hk2];rfl)).symm]) (by
   simp only[Xev.B,show(Xaz l met T K l.length).length=l.length from Xa3 _,Yw7 (Nat.le_refl _),Ywp];rw[show Xaz l met T K l.length=_ from Xgn]) l.length 0 (by omega)
 rw[h0];exact hs
theorem Xtp {l:List Xb} {met:List Bool} {T:List (List Xc)} {wr:Int} {K:List Int} {P:List Nat} (f v3:Fs_) (h:Seen l met T wr K P) (Da:List (List Int)) :
  Xd0 (f,met,T,wr,K,Xy (fun j _=>((kbF met l j).length:Int)) Xa l,()) (l.length:Int) v3 (0,(l,Da,()))=some (Xy (Xaa l met T K) Xa l,Da,()):=by
 have hn:=h.D.len
 have h0:l=upN (Xaa l met T K) (fun _ x=>x) Xa l 0:=by rw[Xe5,Xks]
 have hs:=Ytp (f:=fun s=>Xd0.B (f,met,T,wr,K,Xy (fun j _=>((kbF met l j).length:Int)) Xa l,()) (l.length:Int) v3 s.1 s.2) (fun i=>((i:Int),(upN (Xaa l met T K) (fun _ x=>x) Xa l i,Da,()))) (n:=l.length)
  (r:=(Xy (Xaa l met T K) Xa l,Da,())) (fun i hi=>by
   have hlen:(upN (Xaa l met T K) (fun _ x=>x) Xa l i).length=l.length:=Xa3 i;have hO:(upN (Xaa l met T K) (fun _ x=>x) Xa l i).getD i Xa=l.getD i Xa:=Xcr hi _
   have hm1:inB (i:Int) met.length=true:=Yxd (by rw[h.I.len];exact hi)
   have hm2:inB (i:Int) T.length=true:=Yxd (by rw[h.I.tl];exact hi)
   have hm3:inB (i:Int) K.length=true:=Yxd (by rw[h.I.kl];exact hi)
   have hm4:inB (i:Int) (Xy (fun j _=>((kbF met l j).length:Int)) Xa l).length=true:=Yxd (by rw[Xat];exact hi)
   have hC:(Xy (fun j _=>((kbF met l j).length:Int)) Xa l).getD i 0=((kbF met l i).length:Int):=Xex _ _ _ _ hi _
   simp only[Xd0.B,hlen,Yxb hi,Yxd hi,hm1,hm2,hm3,hm4,hC,hO,Yw0,toNat_cast,Yvj (by omega:i<4294967296)]
   cases hm:met.getD i false with
   |false=>
    simp only[Bool.not_false,Yw0]
    rw[Xce hi (by unfold Xaa;rw[hm];rfl)]
   |true=>
    simp only[Bool.not_true,Ywp]
    by_cases hk:(l.getD i Xa).1=2
    ·have hcl:Xfr (T.getD i [])=some (T.getD i []):=Xch (by have:=(h.I.tb i).1;omega)
     rw[show((l.getD i Xa).1 == 2)=true by simpa using hk]
     simp only[Yw0,hcl,Option.bind_some]
     rw[Xce hi (by unfold Xaa;rw[hm,show((l.getD i Xa).1 == 2)=true by simpa using hk];rfl)]
    ·rw[show((l.getD i Xa).1 == 2)=false by simpa using hk]
     have hk1:=Xc0 met l i;have hbl:(((((l.getD i Xa).2).2).2).1).length=(Xq l i).length:=rfl
     have hc1:(decide ((0:Int)≤((kbF met l i).length:Int))&&decide (((kbF met l i).length:Int)≤(((((l.getD i Xa).2).2).2).1.length:Int)))=true:=by rw[hbl];simp;omega
     have htk:(((((l.getD i Xa).2).2).2).1.drop 0).take ((kbF met l i).length-0)=kbF met l i:=by
      rw[List.drop_zero,Nat.sub_zero];exact Xnn met l i
     have hnb:(Nat.beq i i&&true)=true:=by rw[Nat.beq_refl];rfl
     have hgs:∀ (L:List Xb) (y:Xb),L.length=l.length→(L.set i y).getD i Xa=y:=fun L y hL=>Ywg _ _ (by omega)
     have hl1:∀ y,((upN (Xaa l met T K) (fun _ x=>x) Xa l i).set i y).length=l.length:=fun y=>by rw[List.length_set];exact hlen
     simp only[Ywp,hc1,htk,hnb,Yw0,Option.bind_some,hgs _ _ hlen,hgs _ _ (hl1 _),List.set_set]
     rw[Xce hi (by unfold Xaa;rw[hm,show((l.getD i Xa).1 == 2)=false by simpa using hk];rfl)]) (by
   simp only[Xd0.B,Yw7 (Nat.le_refl _),Ywp];rw[Xgn]) l.length 0 (by omega)
 rw[←h0] at hs;exact hs
theorem Xs8 {l:List Xb} {met:List Bool} {T:List (List Xc)} {wr:Int} {K:List Int} {P:List Nat} (f v4:Fs_) (h:Seen l met T wr K P) :
  Xeb f l (l.length:Int) v4 (met,T,wr,K,Xy (fun j _=>((kbF met l j).length:Int)) Xa l,()) (0,[wr,0,0,0,0])=some [wr,Xn (gL l met) l.length,Xn (gT l met) l.length,Xn (gK l met K) l.length,0]:=by
 have hn:=h.D.len
 have hs:=Ytp (f:=fun s=>Xeb.B f l (l.length:Int) v4 (met,T,wr,K,Xy (fun j _=>((kbF met l j).length:Int)) Xa l,()) s.1 s.2) (fun i=>((i:Int),[wr,Xn (gL l met) i,Xn (gT l met) i,Xn (gK l met K) i,0])) (n:=l.length)
  (r:=[wr,Xn (gL l met) l.length,Xn (gT l met) l.length,Xn (gK l met K) l.length,0]) (fun i hi=>by
   have hb0:=Xbd (g:=gL l met) Xo4 i;have hb1:=Xbd (g:=gT l met) (Xpb h.D) i;have hb2:=Xbd (g:=gK l met K) Xoy i
   have hm1:inB (i:Int) met.length=true:=Yxd (by rw[h.I.len];exact hi)
   have hm3:inB (i:Int) K.length=true:=Yxd (by rw[h.I.kl];exact hi)
   have hm4:inB (i:Int) (Xy (fun j _=>((kbF met l j).length:Int)) Xa l).length=true:=Yxd (by rw[Xat];exact hi)
   have hC:(Xy (fun j _=>((kbF met l j).length:Int)) Xa l).getD i 0=((kbF met l i).length:Int):=Xex _ _ _ _ hi _
   simp only[Xeb.B,Yxb hi,Yxd hi,hm1,hm3,hm4,hC,Yw0,Yu9,toNat_cast,Yvj (by omega:i<4294967296),Option.bind_some]
   cases hm:met.getD i false with
   |false=>
    rw[show Xn (gT l met) (i+1)=Xn (gT l met) i by simp only[Xn,gT,hm,Ywp,Int.add_zero],show Xn (gK l met K) (i+1)=Xn (gK l met K) i by simp only[Xn,gK,hm,Ywp,Int.add_zero]]
    cases hk:((l.getD i Xa).1 != 0) with
    |true=>
     rw[show Xn (gL l met) (i+1)=w64 (Xn (gL l met) i+1) by rw[Yxo (by omega) (by omega)];simp only[Xn,gL,hm,hk,Bool.not_false,Yw0]]
     rfl
    |false=>
     have hk0:(l.getD i Xa).1=0:=by simpa using hk
     rw[show Xn (gL l met) (i+1)=Xn (gL l met) i by simp only[Xn,gL,hm,hk,Bool.not_false,Yw0,Ywp,Int.add_zero],hk0]
     rfl
   |true=>
    have hnz:=h.nz hm
    rw[show Xn (gL l met) (i+1)=Xn (gL l met) i by simp only[Xn,gL,hm,Bool.not_true,Ywp,Int.add_zero]]
    rw[show((l.getD i Xa).1 != 0)=true by simpa using hnz]
    by_cases hk:(l.getD i Xa).1=1
    ·have hk1:=Xc0 met l i
     have hk4:(Xq l i).length≤4:=(h.D.all i).bl.1
     have hgT:gT l met i=((Xq l i).length:Int)-((kbF met l i).length:Int):=by unfold gT;rw[hm,hk];rfl
     have hsz:Xap (((((l.getD i Xa).2).2).2).1)=some ((Xq l i).length:Int):=rfl;rw[hk];simp only[Bool.not_true,Yw0,Ywp,show((1:Int) == 1)=true from rfl,hsz,Option.bind_some]
     rw[show w64 (((Xq l i).length:Int)-((kbF met l i).length:Int))=((Xq l i).length:Int)-((kbF met l i).length:Int) from Yry (by omega) (by omega)]
     rw[show Xn (gT l met) (i+1)=w64 (Xn (gT l met) i+(((Xq l i).length:Int)-((kbF met l i).length:Int))) by rw[Yry (by omega) (by omega)];simp only[Xn,hgT]]
     cases hne:((l.getD i Xa).2.1 != K.getD i 0) with
     |true=>
      rw[show Xn (gK l met K) (i+1)=w64 (Xn (gK l met K) i+1) by rw[Yxo (by omega) (by omega)];simp only[Xn,gK,hm,hk,hne,show((1:Int) == 1)=true from rfl,Yw0]]
      rfl
     |false=>
      rw[show Xn (gK l met K) (i+1)=Xn (gK l met K) i by simp only[Xn,gK,hm,hk,hne,show((1:Int) == 1)=true from rfl,Yw0,Ywp,Int.add_zero]]
      rfl
    ·have hk':((l.getD i Xa).1 == 1)=false:=by simpa using hk
     rw[show Xn (gT l met) (i+1)=Xn (gT l met) i by simp only[Xn,gT,hm,hk',Yw0,Ywp,Int.add_zero],show Xn (gK l met K) (i+1)=Xn (gK l met K) i by simp only[Xn,gK,hm,hk',Yw0,Ywp,Int.add_zero]]
     simp only[Bool.not_true,Yw0,Ywp,hk']) (by
   simp only[Xeb.B,Yw7 (Nat.le_refl _),Ywp]) l.length 0 (by omega)
 exact hs
theorem Xq2:∀ (k:Nat) (d:List Int) (n:Int),n.toNat≤d.length+k→n≤1000→d.length≤2000000000→Xcu d n=some (d++List.replicate (n.toNat-d.length) 0)
 |0,d,n,h,hn,hd=>by
  have hl:Xca n d=some d:=Y5 (by simp only[Xca.B,Xbn,Option.bind_some];rw[show decide ((d.length:Int)<n)=false by simp;omega];rfl)
  simp only[Xcu,hl,Option.bind_some]
  rw[show n.toNat-d.length=0 by omega];simp
 |k+1,d,n,h,hn,hd=>by
  by_cases hlt:(d.length:Int)<n
  ·have hs:Xca n d=Xca n (d++[0]):=Yar (by
    simp only[Xca.B,Xbn,Option.bind_some,decide_eq_true hlt,Yw0]
    rw[show decide ((d++([0]:List Int)).length≤2147483648)=true by simp;omega];rfl)
   have ih:=Xq2 k (d++[0]) n (by simp;omega) hn (by simp;omega)
   simp only[Xcu] at ih ⊢;rw[hs,ih]
   congr 1
   rw[List.append_assoc,show n.toNat-d.length=(n.toNat-(d++[(0:Int)]).length)+1 by simp;omega,List.replicate_succ]
   simp
  ·have hl:Xca n d=some d:=Y5 (by simp only[Xca.B,Xbn,Option.bind_some];rw[decide_eq_false hlt];rfl)
   simp only[Xcu,hl,Option.bind_some]
   rw[show n.toNat-d.length=0 by omega];simp
def Xb3 (w:List Int) (j:Nat) (d:List Int):List Int:=(d++List.replicate ((w.getD j 0).toNat-d.length) 0).take (w.getD j 0).toNat
def gS (w:List Int) (D:List (List Int)) (j:Nat):Int:=cond (((D.getD j []).length:Int) != w.getD j 0) 1 0
theorem Xpa (w:List Int) (D:List (List Int)) (j:Nat):0≤gS w D j∧gS w D j≤4:=by
 unfold gS;cases (((D.getD j []).length:Int) != w.getD j 0)<;>decide
theorem Xqu {w:List Int} (R:List Xb) (a:Int) {i:Nat} (hi:i<w.length) (hw8:w.getD i 0≤8):∀ (k:Nat) (D:List (List Int)),i<D.length→(w.getD i 0).toNat≤(D.getD i []).length+k→(D.getD i []).length≤2000000000→
  Xbk a (i:Int) w (R,D,())=some (R,D.set i (D.getD i []++List.replicate ((w.getD i 0).toNat-(D.getD i []).length) 0),())
 |k,D,hD,hk,hl=>by
  have hset:D.set i (D.getD i [])=D:=by
   refine List.ext_getElem (by simp) fun j h1 h2=>?_
   rw[List.getElem_set]
   split
   ·rename_i e;subst e;exact getD_lt _ h2
   ·rfl
  by_cases hlt:((D.getD i []).length:Int)<w.getD i 0
  ·cases k with
   |zero=>omega
   |succ k=>
    have hs:Xbk a (i:Int) w (R,D,())=Xbk a (i:Int) w (R,D.set i (D.getD i []++[0]),()):=Yar (by
     simp only[Xbk.B,Yxd hD,Yxd hi,Yw0,toNat_cast,Option.bind_some,decide_eq_true hlt,Nat.beq_refl,Bool.and_self]
     rw[show decide ((D.getD i []++([0]:List Int)).length≤2147483648)=true by rw[List.length_append,List.length_singleton,decide_eq_true_eq];omega];rfl)
    have hg:(D.set i (D.getD i []++[0])).getD i []=D.getD i []++[0]:=Ywg _ _ hD
    have ih:=Xqu R a hi hw8 k (D.set i (D.getD i []++[0])) (by simpa using hD) (by rw[hg,List.length_append,List.length_singleton];omega) (by rw[hg,List.length_append,List.length_singleton];omega)
    rw[hs,ih,hg,List.set_set]
    congr 4
    rw[List.append_assoc,show(w.getD i 0).toNat-(D.getD i []).length=((w.getD i 0).toNat-(D.getD i []++[(0:Int)]).length)+1 by rw[List.length_append,List.length_singleton];omega,List.replicate_succ]
    simp
  ·have hd:Xbk a (i:Int) w (R,D,())=some (R,D,()):=Y5 (by
    simp only[Xbk.B,Yxd hD,Yxd hi,Yw0,toNat_cast,Option.bind_some,decide_eq_false hlt,Ywp])
   rw[hd,show(w.getD i 0).toNat-(D.getD i []).length=0 by omega,List.replicate_zero,List.append_nil,hset]
theorem Xsx {w:List Int} (hw:w.length=20) (hb:∀ j,0≤w.getD j 0∧w.getD j 0≤8) (R:List Xb) (D:List (List Int)) (hD:D.length=20) (hl:∀ b∈D,b.length≤1100000000) :
  Xee w (0,0,(R,D,()))=some (Xn (gS w D) 20,(R,Xy (Xb3 w) [] D,())):=by
 have h0:D=upN (Xb3 w) (fun _ x=>x) [] D 0:=by rw[Xe5,Xks]
 have hs:=Ytp (f:=fun s=>Xee.B w s.1 s.2.1 s.2.2) (fun i=>(Xn (gS w D) i,(i:Int),(R,upN (Xb3 w) (fun _ x=>x) [] D i,()))) (n:=20)
  (r:=(Xn (gS w D) 20,(R,Xy (Xb3 w) [] D,()))) (fun i hi=>by
   have hi':i<D.length:=by omega
   have hlen:(upN (Xb3 w) (fun _ x=>x) [] D i).length=20:=by rw[Xa3];exact hD
   have hO:(upN (Xb3 w) (fun _ x=>x) [] D i).getD i []=D.getD i []:=Xcr hi' _;have hbb:=Xbd (g:=gS w D) (Xpa w D) i;have hwi:=hb i
   have hdl:(D.getD i []).length≤1100000000:=by rw[getD_lt _ hi'];exact hl _ (List.getElem_mem hi')
   have h3:∀ a,Xbk a (i:Int) w (R,upN (Xb3 w) (fun _ x=>x) [] D i,())=_:=fun a=>Xqu R a (by omega) hwi.2 8 (upN (Xb3 w) (fun _ x=>x) [] D i) (by omega) (by rw[hO];omega) (by rw[hO];omega)
   have hg:∀ y,((upN (Xb3 w) (fun _ x=>x) [] D i).set i y).getD i []=y:=fun y=>Ywg _ _ (by omega)
   have hc:(decide ((0:Int)≤w.getD i 0)&&decide (w.getD i 0≤((D.getD i []++List.replicate ((w.getD i 0).toNat-(D.getD i []).length) 0).length:Int)))=true:=by
    rw[List.length_append,List.length_replicate,Bool.and_eq_true,decide_eq_true_eq,decide_eq_true_eq];omega
   have hin1:inB (i:Int) (upN (Xb3 w) (fun _ x=>x) [] D i).length=true:=Yxd (by omega)
   have hin2:inB (i:Int) w.length=true:=Yxd (by omega)
   simp only[Xee.B,hlen,show decide ((i:Int)<((20:Nat):Int))=true by simp;omega,hin1,hin2,Yxd hi,hO,h3,Yw0,toNat_cast,List.length_set,Option.bind_some,hg,hc,Nat.beq_refl,Bool.and_self,List.drop_zero,Nat.sub_zero,List.set_set,Yvj (by omega:i<4294967296)]
   rw[show(upN (Xb3 w) (fun _ x=>x) [] D i).set i (List.take (w.getD i 0).toNat (D.getD i []++List.replicate ((w.getD i 0).toNat-(D.getD i []).length) 0))=upN (Xb3 w) (fun _ x=>x) [] D (i+1) from Xce hi' rfl]
   cases hne:(((D.getD i []).length:Int) != w.getD i 0) with
   |true=>
    rw[show Xn (gS w D) (i+1)=w64 (Xn (gS w D) i+1) by rw[Yxo (by omega) (by omega)];simp only[Xn,gS,hne,Yw0]]
    rfl
   |false=>
    rw[show Xn (gS w D) (i+1)=Xn (gS w D) i by simp only[Xn,gS,hne,Ywp,Int.add_zero]]
    rfl) (by
   have:upN (Xb3 w) (fun _ x=>x) [] D 20=Xy (Xb3 w) [] D:=by rw[←hD,Xgn]
   simp only[Xee.B,this,Xat,hD];rfl) 20 0 (by omega)
 rw[←h0] at hs;exact hs
theorem Xsg {w:List Int} (hw:w.length=20) (hb:∀ j,0≤w.getD j 0∧w.getD j 0≤8) (R:List Xb) (v:Fs_) (D:List (List Int)) (hD:D.length=20) (hl:∀ b∈D,b.length≤1100000000) :
  Xet w v (0,(R,D,()))=some (R,Xy (Xb3 w) [] D,()):=by
 have h0:D=upN (Xb3 w) (fun _ x=>x) [] D 0:=by rw[Xe5,Xks]
 have hs:=Ytp (f:=fun s=>Xet.B w v s.1 s.2) (fun i=>((i:Int),(R,upN (Xb3 w) (fun _ x=>x) [] D i,()))) (n:=20)
  (r:=(R,Xy (Xb3 w) [] D,())) (fun i hi=>by
   have hi':i<D.length:=by omega
   have hlen:(upN (Xb3 w) (fun _ x=>x) [] D i).length=20:=by rw[Xa3];exact hD
   have hO:(upN (Xb3 w) (fun _ x=>x) [] D i).getD i []=D.getD i []:=Xcr hi' _;have hwi:=hb i
   have hdl:(D.getD i []).length≤1100000000:=by rw[getD_lt _ hi'];exact hl _ (List.getElem_mem hi')
   have hc:(decide ((0:Int)≤w.getD i 0)&&decide (w.getD i 0≤((D.getD i []++List.replicate ((w.getD i 0).toNat-(D.getD i []).length) 0).length:Int)))=true:=by
    rw[List.length_append,List.length_replicate,Bool.and_eq_true,decide_eq_true_eq,decide_eq_true_eq];omega
   have hlg:=Xq2 8 (D.getD i []) (w.getD i 0) (by omega) (by omega) (by omega)
   simp only[Xet.B,hlen,show decide ((i:Int)<(20:Int))=true by simp;omega,Yxd hi,hO,hlg,Yw0,toNat_cast,Option.bind_some,hc,Nat.beq_refl,Bool.and_self,List.drop_zero,Nat.sub_zero,Yvj (by omega:i<4294967296)]
   rw[show(upN (Xb3 w) (fun _ x=>x) [] D i).set i (List.take (w.getD i 0).toNat (D.getD i []++List.replicate ((w.getD i 0).toNat-(D.getD i []).length) 0))=upN (Xb3 w) (fun _ x=>x) [] D (i+1) from Xce hi' rfl]) (by
   have:upN (Xb3 w) (fun _ x=>x) [] D 20=Xy (Xb3 w) [] D:=by rw[←hD,Xgn]
   simp only[Xet.B,this];rfl) 20 0 (by omega)
 rw[←h0] at hs;exact hs
theorem Xrn {w:List Int} (hw:w.length=20) (f:Fs_) (hD:f.2.1.length=20) (a b c d:Int) :
  Xfw f w (0,[a,b,c,d,0])=some [a,b,c,d,Xn (gS w f.2.1) 20]:=by
 have hs:=Ytp (f:=fun s=>Xfw.B f w s.1 s.2) (fun i=>((i:Int),[a,b,c,d,Xn (gS w f.2.1) i])) (n:=20)
  (r:=[a,b,c,d,Xn (gS w f.2.1) 20]) (fun i hi=>by
   have hbb:=Xbd (g:=gS w f.2.1) (Xpa w f.2.1) i
   simp only[Xfw.B,Xbn,show decide ((i:Int)<(20:Int))=true by simp;omega,Yxd hi,Yxd (by omega:i<f.2.1.length),Yw0,toNat_cast,Option.bind_some,Yvj (by omega:i<4294967296)]
   cases hne:(((f.2.1.getD i []).length:Int) != w.getD i 0) with
   |true=>
    rw[show Xn (gS w f.2.1) (i+1)=w64 (Xn (gS w f.2.1) i+1) by rw[Yxo (by omega) (by omega)];simp only[Xn,gS,hne,Yw0]]
    rfl
   |false=>
    rw[show Xn (gS w f.2.1) (i+1)=Xn (gS w f.2.1) i by simp only[Xn,gS,hne,Ywp,Int.add_zero]]
    rfl) (by rfl) 20 0 (by omega)
 exact hs
theorem Xt5 (f:Fs_) (i:Int) (x:Nat) (hx:InD (f.1.getD x Xa)∨((f.1.getD x Xa).2.2.2.1.length≤4∧∀ b∈(f.1.getD x Xa).2.2.2.1,0≤b∧b≤19)) (w:List Int) (hw:w.length=20):Xc4 i x f (0,w)=some (Xbv (f.1.getD x Xa) 0 (f.1.getD x Xa).2.2.2.1 w):=by
 have hx:((f.1.getD x Xa).2.2.2.1.length≤4∧∀ b∈(f.1.getD x Xa).2.2.2.1,0≤b∧b≤19):=hx.elim (fun h=>h.bl) id
 have h:=Ym3 (τ:=List Int) (f.1.getD x Xa).2.2.2.1 (f:=fun s=>Xc4.B i x f s.1 s.2) (fun k w=>((k:Int),w)) (fun k b w=>.inl (w.set b.toNat (Xby 8 (w64 ((f.1.getD x Xa).2.2.1-w64 ((k:Int)*8)))))) id (fun k w=>w.length=20)
  (fun k hk w hw=>by
   have h2:=hx.2 _ (List.getElem_mem hk)
   simp only[Xc4.B,Yxb hk,Yxd hk,Yw0,toNat_cast,getD_lt _ hk,Xn7,Option.bind_some,Yvj (by omega:k<4294967296),sel]
   rw[show inB ((f.1.getD x Xa).2.2.2.1[k]) w.length=true from Yuo h2.1 (by omega)];rfl) (fun k hk w w' hw e=>by cases e;simpa using hw) (fun w hw=>by
   simp only[Xc4.B,Option.bind_some,Yw7 (Nat.le_refl _),Ywp,id]) w hw (s:=(0,w)) rfl
 rw[Xfc] at h;exact h
theorem Xr4 (f:Fs_) (hok:Xcw f.1):Xd6 f (0,List.replicate 20 0)=some (X0 f.1):=by
 have hl:=hok.len
 have h:=Ym3 (τ:=List Int) f.1 (f:=fun s=>Xd6.B f s.1 s.2) (fun k w=>((k:Int),w)) (fun _ x w=>.inl (Xbv x 0 x.2.2.2.1 w)) id (fun k w=>w.length=20)
  (fun k hk w hw=>by
   have h2:=hok.blk _ (List.getElem_mem hk);have hg:f.1.getD k Xa=f.1[k]:=getD_lt _ hk
   have e1:=Xt5 f (k:Int) k (.inr (by rw[hg];exact h2)) w hw
   rw[hg] at e1
   simp only[Xd6.B,Yxb hk,Yxd hk,Yw0,toNat_cast,e1,Option.bind_some,Yvj (by omega:k<4294967296),sel]) (fun k hk w w' hw e=>by cases e;rw[Xeh];exact hw) (fun w hw=>by
   simp only[Xd6.B,Yw7 (Nat.le_refl _),Ywp,id]) (List.replicate 20 0) (by simp) (s:=(0,List.replicate 20 0)) rfl
 rw[Xfb] at h;exact h
theorem Xn9 (a b:Int):Xby a b≤a∧Xby a b≤b∧(Xby a b=a∨Xby a b=b):=by
 unfold Xby
 by_cases h:a<b
 ·rw[decide_eq_true h];exact⟨Int.le_refl _,Int.le_of_lt h,.inl rfl⟩
 ·rw[decide_eq_false h];exact⟨by simp only[Ywp];omega,Int.le_refl _,.inr rfl⟩
theorem Xl4 (x:Xb) (hs:x.2.2.1≤1000):∀ (bs:List Int) (k:Nat) (w:List Int),k+bs.length≤100→(∀ j:Nat,j<k+bs.length→0≤x.2.2.1-8*j)→(∀ j,0≤w.getD j 0∧w.getD j 0≤8)→∀ j,0≤(Xbv x k bs w).getD j 0∧(Xbv x k bs w).getD j 0≤8
 |[],k,w,_,_,hw,j=>hw j
 |b::bs,k,w,hl,hx,hw,j=>by
  simp only[List.length_cons] at hl hx;simp only[Xbv]
  refine Xl4 x hs bs (k+1) _ (by omega) (fun j hj=>hx j (by omega)) (fun j=>?_) j
  have h1:=hx k (by omega)
  have e1:w64 ((k:Int)*8)=(k:Int)*8:=Yry (by omega) (by omega)
  have e2:w64 (x.2.2.1-(k:Int)*8)=x.2.2.1-(k:Int)*8:=Yry (by omega) (by omega)
  have hm:=Xn9 8 (x.2.2.1-(k:Int)*8);rw[e1,e2]
  by_cases e:b.toNat=j
  ·by_cases hlt:b.toNat<w.length
   ·subst e;rw[Ywg _ _ hlt];omega
   ·rw[List.set_eq_of_length_le (by omega)];exact hw j
  ·have:(w.set b.toNat (Xby 8 (x.2.2.1-(k:Int)*8))).getD j 0=w.getD j 0:=by simp only[List.getD,List.getElem?_set,e,if_false]
   rw[this];exact hw j
theorem Xl3:∀ (l:List Xb) (w:List Int),(∀ x∈l,x.2.2.1≤1000∧x.2.2.2.1.length≤100∧∀ j:Nat,j<x.2.2.2.1.length→0≤x.2.2.1-8*j)→(∀ j,0≤w.getD j 0∧w.getD j 0≤8)→∀ j,0≤(Xgx l w).getD j 0∧(Xgx l w).getD j 0≤8
 |[],w,_,hw,j=>hw j
 |x::l,w,h,hw,j=>by
  obtain⟨h1,h2,h3⟩:=h x List.mem_cons_self
  exact Xl3 l _ (fun y hy=>h y (List.mem_cons_of_mem _ hy)) (Xl4 x h1 _ 0 w (by omega) (by simpa using h3) hw) j
theorem Xqj {s:Int} (h:0≤s∧s≤32):8*Xha s≤s+7:=by
 unfold Xha
 rw[Yry (show -9223372036854775808≤s+8 by omega) (by omega),Yry (show -9223372036854775808≤s+8-1 by omega) (by omega)]
 have:(s+8-1).tdiv 8=(s+7) / 8:=by rw[Int.tdiv_eq_ediv_of_nonneg (by omega)];congr 1;omega
 rw[this,Yry (by omega) (by omega)]
 omega
theorem Xmv {l:List Xb} {met:List Bool} {T:List (List Xc)} {wr:Int} {K:List Int} {P:List Nat} (h:Seen l met T wr K P):∀ j,0≤(X0 (Xy (Xaa l met T K) Xa l)).getD j 0∧(X0 (Xy (Xaa l met T K) Xa l)).getD j 0≤8:=by
 refine Xl3 _ _ (fun x hx=>?_) (fun j=>?_)
 ·obtain⟨i,hi,rfl⟩:=List.mem_map.1 hx
  rw[Xmp h];have hk1:=Xc0 met l i;have hD:=h.D.all i;have hk4:(Xq l i).length≤4:=hD.bl.1;have hz:=hD.sz
  by_cases hm:met.getD i false=true
  ·by_cases hk:(l.getD i Xa).1=2
   ·have hb:Xq l i=[]:=hD.dir (by rw[hk];decide)
    have:(Xaa l met T K i (l.getD i Xa)).2.2.1=(l.getD i Xa).2.2.1:=by unfold Xaa;rw[hm,hk];rfl
    rw[this];rw[hb] at hk1
    have hk0:kbF met l i=[]:=List.eq_nil_of_length_eq_zero (by simpa using hk1)
    rw[hk0]
    exact⟨by omega,by decide,fun j hj=>by simp at hj⟩
   ·have hk2:(l.getD i Xa).1=1:=by have:=hD.knd;have:=h.nz hm;omega
    have hfo:=hD.fil hk2;have hle:=Xqj hz
    have hs:(Xaa l met T K i (l.getD i Xa)).2.2.1=Xby (w64 (((kbF met l i).length:Int)*8)) (l.getD i Xa).2.2.1:=by unfold Xaa;rw[hm,hk2];rfl
    have e1:w64 (((kbF met l i).length:Int)*8)=((kbF met l i).length:Int)*8:=Yry (by omega) (by omega)
    rw[hs,e1];obtain⟨m1,m2,m3⟩:=Xn9 (((kbF met l i).length:Int)*8) (l.getD i Xa).2.2.1;have hbl:((Xq l i).length:Int)=Xha (l.getD i Xa).2.2.1:=hfo
    refine⟨by omega,by omega,fun j hj=>?_⟩
    rcases m3 with m3 | m3<;>rw[m3]<;>omega
  ·have hm':met.getD i false=false:=by simpa using hm
   have hk0:kbF met l i=[]:=by unfold kbF;rw[hm'];rfl
   have:(Xaa l met T K i (l.getD i Xa)).2.2.1=0:=by unfold Xaa;rw[hm'];rfl
   rw[this,hk0]
   exact⟨by decide,by decide,fun j hj=>by simp at hj⟩
 ·simp only[List.getD,List.getElem?_replicate]
  split<;>decide
theorem Xtx (f:Fs_) (hb:Bd Xj f):Xgu f=some (Xb1 f):=by
 simp only[Xgu,Xb1,Xqz f.1 hb.1,Option.bind_some]
 cases hi:(X7 f.1 != 0) with
 |true=>simp only[Yw0]
 |false=>
  simp only[Ywp]
  have e1:cond (!((f.1.length:Int) == 0)) (inB 0 f.1.length) true=true:=by
   cases hl:((f.1.length:Int) == 0) with
   |true=>rfl
   |false=>exact Yxd (i:=0) (by
     have:(f.1.length:Int)≠0:=by simpa using hl
     omega)
  rw[e1];simp only[Yw0,show(0:Int).toNat=0 from rfl,Yvh]
theorem Xtz (f:Fs_) (hl1:f.1.length≤10) (hs:∀ x∈f.1,Xah x) (hl2:f.2.1.length=20) (hd:∀ b∈f.2.1,b.length≤1100000000):Xa1 f=some f:=by
 obtain⟨bs,ps,⟨⟩⟩:=f;replace hl1:bs.length≤10:=hl1;replace hl2:ps.length=20:=hl2
 have h0:Xb0 (bs,ps,()) ([],[],()) (0,([],[],()))=some (bs.foldl (fun(t:Fs_) x=>(t.1++[x],t.2)) ([],[],())):=
  Yjp bs (f:=fun s=>Xb0.B (bs,ps,()) ([],[],()) s.1 s.2) _ (fun t=>t) (fun i t=>t.1.length≤i) (fun i hi t ht=>by
   have hw:=Xqv (hs _ (List.getElem_mem hi))
   constructor
   ·simp only[Xb0.B,Yxb hi,Yxd hi,Yw0,toNat_cast,getD_lt _ hi,hw,Option.bind_some,Yvj (by omega:i<4294967296)]
    rw[show decide ((t.1++[(bs[i].1,bs[i].2.1,bs[i].2.2.1,bs[i].2.2.2.1,bs[i].2.2.2.2.1,bs[i].2.2.2.2.2)]).length≤2147483648)=true by simp;omega];rfl
   ·simp;omega) (fun t ht=>by simp only[Xb0.B,Yw7 (Nat.le_refl _),Ywp]) _ (Nat.le_refl _)
 have h1:Xbw (bs,ps,()) ([],[],()) (0,(bs,[],()))=some (ps.foldl (fun(t:Fs_) x=>(t.1,t.2.1++[x],t.2.2)) (bs,[],())):=
  Yjp ps (f:=fun s=>Xbw.B (bs,ps,()) ([],[],()) s.1 s.2) _ (fun t=>t) (fun i t=>t.2.1.length≤i) (fun i hi t ht=>by
   have hw:ps[i].length≤1100000000:=hd _ (List.getElem_mem hi)
   constructor
   ·simp only[Xbw.B,Yxb hi,Yxd hi,Yw0,toNat_cast,getD_lt _ hi,List.nil_append,decide_eq_true (show ps[i].length≤2147483648 by omega),Option.bind_some,Yvj (by omega:i<4294967296)]
    rw[show decide ((t.2.1++[ps[i]]).length≤2147483648)=true by simp;omega];rfl
   ·simp;omega) (fun t ht=>by simp only[Xbw.B,Yw7 (Nat.le_refl _),Ywp]) _ (Nat.le_refl _)
 rw[Xnk] at h0;rw[Xn6] at h1;simp only[List.nil_append] at h0 h1;simp only[Xa1,h0,Option.bind_some,h1]
structure Xe9 (f:Fs_) (met:List Bool) (T:List (List Xc)) (wr:Int) (K:List Int) (P:List Nat):Prop where
 S:Seen f.1 met T wr K P
 sm:∀ j,Xah (f.1.getD j Xa)
 d:f.2.1.length=20
 dl:∀ b∈f.2.1,b.length≤1100000000
 spec:Xcv f=some ((Xga f.1 P T,f.2.1,()),met,wr)
 impl:Xbh f=some (f,met,T,wr,K,Xy (fun j _=>((kbF met f.1 j).length:Int)) Xa f.1,())
theorem looked (f:Fs_) (h:Xb1 f=0) (hd:∀ b∈f.2.1,b.length≤1100000000):∃ met T wr K P,Xe9 f met T wr K P:=by
 obtain⟨r1,r2,r3,r4⟩:=Xk7 h;have hD:=Xny.of r1;have hn:=hD.len
 have hsm:∀ j,Xah (f.1.getD j Xa):=by
  intro j
  by_cases hj:j<f.1.length
  ·rw[getD_lt _ hj];exact Xah.of ((Xai r1).2 _ (List.getElem_mem hj))
  ·have:f.1.getD j Xa=Xa:=by simp only[List.getD,List.getElem?_eq_none (by omega:f.1.length≤j)];rfl
   rw[this];exact⟨by simp[Xa],by simp[Xa],fun e he=>by cases he⟩
 have hent:∀ j,(Xr f.1 j).length≤6∧∀ e∈Xr f.1 j,0≤e.2.1∧e.2.1≤9:=by
  intro j
  by_cases hj:j<f.1.length
  ·unfold Xr;rw[getD_lt _ hj];exact(Xf9.of r1).ent _ (List.getElem_mem hj)
  ·have:f.1.getD j Xa=Xa:=by simp only[List.getD,List.getElem?_eq_none (by omega:f.1.length≤j)];rfl
   unfold Xr;rw[this];exact⟨by simp[Xa],fun e he=>by cases he⟩
 have h2:Xx f.1 0=2:=r3
 have hon:∀ j,on ((List.replicate f.1.length false).set 0 true) j↔j=0:=by
  intro j;rw[Xa7]
  constructor
  ·rintro(hj | ⟨rfl,_⟩)
   ·unfold on at hj
    simp only[List.getD,List.getElem?_replicate] at hj
    split at hj<;>cases hj
   ·rfl
  ·rintro rfl;exact .inr ⟨rfl,by simpa using r2⟩
 have hT0:∀ j,(List.replicate f.1.length ([]:List Xc)).getD j []=[]:=by
  intro j;simp only[List.getD,List.getElem?_replicate];split<;>rfl
 have hK0:∀ j,(List.replicate f.1.length (0:Int)).getD j 0=0:=by
  intro j;simp only[List.getD,List.getElem?_replicate];split<;>rfl
 have hc0:∀ n j,Xmq (List.replicate n ([]:List Xc)) j=0:=by
  intro n j;simp[Xmq,List.flatMap_replicate]
 have I0:Xpp f.1 [0] ((List.replicate f.1.length false).set 0 true) (List.replicate f.1.length []) 0 (List.replicate f.1.length 0) []:=by
  refine⟨by simp,by simp,by simp,(hon 0).2 rfl,by simp,fun a ha=>?_,fun j hj=>?_,fun j hj hk=>?_,fun j hj=>?_,fun j _=>hT0 j,fun j=>?_,fun j=>?_,fun j=>?_,by decide,by simp⟩
  ·simp only[List.mem_singleton] at ha;subst ha;exact⟨by decide,by omega⟩
  ·simp at hj;subst hj;exact⟨r2,h2,(hon 0).2 rfl⟩
  ·rw[(hon j).1 hj];simp
  ·rw[(hon j).1 hj];rw[show((0:Nat):Int)=0 from rfl,h2];decide
  ·rw[hT0];exact⟨by simp,fun e he=>by cases he⟩
  ·rw[hK0,hc0];rfl
  ·rw[hK0];simp
 obtain⟨met,T,wr,K,P,J,j1,j2⟩:=Xni f hn h2 hent ([],[],()) (List.replicate f.1.length 0) f.2.1 11 _ _ _ _ _ _ I0 (by simp;omega)
 have S:Seen f.1 met T wr K P:=⟨J,hD⟩;refine⟨met,T,wr,K,P,S,hsm,r4,hd,?_,?_⟩
 ·have hcp:=Xtz f hn (fun x hx=>by obtain⟨j,hj,rfl⟩:=List.getElem_of_mem hx;have:=hsm j;rwa [getD_lt _ hj] at this) r4 hd
  have ho:Xga f.1 [] (List.replicate f.1.length [])=f.1:=by
   unfold Xga;refine Eq.trans (Xbq fun i _=>?_) (Xks Xa f.1);simp
  rw[ho] at j2
  have hc1:(decide ((0:Int)≤(f.1.length:Int))&&(decide ((f.1.length:Int)≤(f.1.length:Int))&&decide ((f.1.length:Int)≤2147483648)))=true:=by simp;omega
  simp only[Xcv,hcp,Option.bind_some,hc1,Yw0,toNat_cast,List.length_replicate,Yxd (i:=0) r2,show inB 0 f.1.length=true from Yxd (i:=0) r2];rw[show(0:Int).toNat=0 from rfl,show Xdo f ([],[],()) (0,(f.1,f.2.1,f.2.2),(List.replicate f.1.length false).set 0 true,[0])=_ from j2];rfl
 ·have hc1:(decide ((0:Int)≤(f.1.length:Int))&&(decide ((f.1.length:Int)≤(f.1.length:Int))&&decide ((f.1.length:Int)≤2147483648)))=true:=by simp;omega
  simp only[Xbh,hc1,Yw0,Option.bind_some,toNat_cast,List.length_replicate,show inB 0 f.1.length=true from Yxd (i:=0) r2];rw[show(0:Int).toNat=0 from rfl,j1];simp only[Option.bind_some];rw[Xrx hD J.len];rfl
def Xob (f:Fs_) (met:List Bool) (T:List (List Xc)) (K:List Int):Fs_:=
 (Xy (Xaa f.1 met T K) Xa f.1,Xy (Xb3 (X0 (Xy (Xaa f.1 met T K) Xa f.1))) [] f.2.1,())
def Xnt (f:Fs_) (met:List Bool) (T:List (List Xc)) (wr:Int) (K:List Int):List Int:=
 [wr,Xn (gL f.1 met) f.1.length,Xn (gT f.1 met) f.1.length,Xn (gK f.1 met K) f.1.length,Xn (gS (X0 (Xy (Xaa f.1 met T K) Xa f.1)) f.2.1) 20]
theorem Xe9.wok {f:Fs_} {met:List Bool} {T:List (List Xc)} {wr:Int} {K:List Int} {P:List Nat} (h:Xe9 f met T wr K P):Xcw (Xy (Xaa f.1 met T K) Xa f.1):=Xnd h.S (Nat.le_refl _)
theorem Xe9.mends {f:Fs_} {met:List Bool} {T:List (List Xc)} {wr:Int} {K:List Int} {P:List Nat} (h:Xe9 f met T wr K P):Xg0 f=some (Xob f met T K,Xnt f met T wr K):=by
 have hb:=Xmv h.S;have hwl:=Xeo (Xy (Xaa f.1 met T K) Xa f.1)
 have e0:Xbx ((Xga f.1 P T,f.2.1,()).1,(Xga f.1 P T,f.2.1,()).2.1,(Xga f.1 P T,f.2.1,()).2.2) met=some (Xn (gL f.1 met) f.1.length,Xn (gT f.1 met) f.1.length,Xn (gK f.1 met K) f.1.length,(Xy (Xaa f.1 met T K) Xa f.1,f.2.1,())):=by
  simp only[Xbx,Xs3 h.S,Option.bind_some,Xtt h.S]
 have e1:Xbg (Xy (Xaa f.1 met T K) Xa f.1,f.2.1,())=some (Xn (gS (X0 (Xy (Xaa f.1 met T K) Xa f.1)) f.2.1) 20,(Xob f met T K)):=by
  simp only[Xbg];rw[show(decide ((0:Int)≤(20:Int))&&(decide ((20:Int)≤(20:Int))&&decide ((20:Int)≤2147483648)))=true from rfl,show(20:Int).toNat=20 from rfl];rw[Xr4 (Xy (Xaa f.1 met T K) Xa f.1,f.2.1,()) h.wok];simp only[Yw0,Option.bind_some,Xsx hwl hb _ f.2.1 h.d h.dl];rfl
 simp only[Xg0,h.spec,Option.bind_some];rw[e0];simp only[Option.bind_some,e1];rfl
theorem Xe9.Xpf {f:Fs_} {met:List Bool} {T:List (List Xc)} {wr:Int} {K:List Int} {P:List Nat} (h:Xe9 f met T wr K P) (hb:Bd Xj f):Xcn (f,met,T,wr,K,Xy (fun j _=>((kbF met f.1 j).length:Int)) Xa f.1,())=some (Xob f met T K):=by
 have hbd:=Xmv h.S;have hwl:=Xeo (Xy (Xaa f.1 met T K) Xa f.1);simp only[Xcn,Xq6 f hb,Option.bind_some];rw[show(f.1,f.2.1,f.2.2)=(f.1,f.2.1,()) from rfl,Xtp f ([],[],()) h.S f.2.1];simp only[Option.bind_some,Xoh _ h.wok,Xsg hwl hbd _ _ f.2.1 h.d h.dl];rfl
theorem Xe9.Xos {f:Fs_} {met:List Bool} {T:List (List Xc)} {wr:Int} {K:List Int} {P:List Nat} (h:Xe9 f met T wr K P) (hb:Bd Xj f):Xb5 f=some (Xnt f met T wr K):=by
 have hwl:=Xeo (Xy (Xaa f.1 met T K) Xa f.1);simp only[Xb5,h.impl,Option.bind_some,Xs8 f f h.S,h.Xpf hb];rw[show(Xob f met T K).1=Xy (Xaa f.1 met T K) Xa f.1 from rfl,Xoh _ h.wok];simp only[Option.bind_some,Xrn hwl f h.d];rfl
theorem Xqb {f:Fs_} (h:fsF f=0):Xb1 f=0:=by
 unfold fsF at h
 cases ht:(Xbc f != 0) with
 |true=>rw[ht] at h;rw[show Xbc f=0 from h] at ht;cases ht
 |false=>
  have h0:Xbc f=0:=by simpa using ht
  unfold Xbc at h0
  cases hr:(Xb1 f != 0) with
  |true=>rw[hr] at h0;rw[show Xb1 f=0 from h0] at hr;cases hr
  |false=>simpa using hr
theorem CheckDisk.main (d:Xd) (hf:Fit Xh d) (hw:wt Xh d≤1048576):∃ r,Xg1 d=some r∧Xgf d=some r∧wt (.pair (.int .i64) (.pair (.sl (.int .i64)) .unit)) r≤2147483648:=by
 obtain⟨r,h1,h2,_,h4⟩:=Xnu d;simp only[Xg1,Xgf,h1,h2,Option.bind_some]
 cases h:(r.1 != 0) with
 |true=>exact⟨_,rfl,rfl,by simp[wt]⟩
 |false=>
  obtain⟨hb,hs⟩:=h4 (by simpa using h)
  have hr:=Xqb hs
  obtain⟨met,T,wr,K,P,L⟩:=looked r.2.2.1.2.1 hr (fun b hm=>by have:=hb.dl b hm;omega)
  simp only[Ywp,Xjz];rw[show Xgu (r.2.2.1.2.1.1,r.2.2.1.2.1.2.1,r.2.2.1.2.1.2.2)=_ from Xtx _ hb.bd,show Xg0 (r.2.2.1.2.1.1,r.2.2.1.2.1.2.1,r.2.2.1.2.1.2.2)=_ from L.mends,show Xb5 (r.2.2.1.2.1.1,r.2.2.1.2.1.2.1,r.2.2.1.2.1.2.2)=_ from L.Xos hb.bd,hr]
  exact⟨_,rfl,rfl,by simp[wt,Xnt]⟩
theorem CheckDisk.law (x:PT.Els (shs [Xh])) (hf:Yol [Xh] x) (hw:Ypu [Xh] x≤1048576):Xj7 x.1=some true:=by
 simp only[Ypu] at hw;have hf0:Fit Xh x.1:=hf.1
 have hw0:wt Xh x.1≤1048576:=by omega
 clear hw hf;generalize x.1=a0 at hf0 hw0 ⊢;obtain⟨r,hr1,hr2,hr3⟩:=CheckDisk.main a0 hf0 hw0;obtain⟨r_0,r_1,⟨⟩⟩:=r;replace hr3:wt Xl (r_0,r_1,())≤2147483648:=hr3;replace hr1:Xg1 a0=some (r_0,r_1,()):=hr1;replace hr2:Xgf a0=some (r_0,r_1,()):=hr2;have er:=Xsp (r_0,r_1,()) hr3
 obtain⟨kr,y0,l1,l2,hm,hh⟩:=Xsy r_0 r_1 1 (by omega) (by omega) hr3
 have to0:=Xtr a0 (by omega)
 have eq0:=Xt4 a0 (by omega)
 obtain⟨k0,z0_0,z0_1,l0,u0,m0⟩:=Xtu a0.1 a0.2.1 1 (by omega) (by show _+((wt Xh a0:Nat):Int)≤_;omega) (by show wt Xh a0≤_;omega)
 have u0:k0≤1+((wt Xh a0:Nat):Int):=u0
 try simp only[Yxm] at m0
 have hsz:∀ g:Option Bool,g=some true→∀ b:Bool,cond b (some true) g=some true:=fun g h b=>by cases b<;>first | rfl | exact h
 simp only[Xj7]
 repeat' (first | with_reducible refine hsz _ ?_ _ | (rw[Option.bind_some]) | (obtain⟨q,hq⟩:=Xrj a0 _ (by omega);rw[hq,Option.bind_some];clear hq))
 simp only[er,hm,hh,to0,eq0,m0,hr1,hr2,Yxm,Option.bind_some,Bool.not_true,Ywp,Yw0,Yv5,Yva,Yvf,Ywm (by omega:0≤kr),Ywm (by omega:0≤k0)]
end Mf
