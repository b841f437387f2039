import Derived.Test.YtiflgjlpdhagnaaGreatDoorRenamePathA
set_option linter.unusedVariables false
set_option linter.unusedSimpArgs false
noncomputable section
namespace Mf
open Go
set_option maxRecDepth 100000
theorem Xlr (a:(List Int)) (n:Int) (hw:wt (.sl (.int .i64)) a≤2147483648):∃ r,Zq0 a n=some r:=by
 simp only[Zq0]
 repeat' (first | with_reducible exact Yv2 _ | with_reducible refine Yv0 (Yv2 _) fun _=>?_ | with_reducible apply Yv1)
theorem Xls (a:Xe) (n:Int) (hw:wt Xh a≤2147483648):∃ r,Zq1 a n=some r:=by
 simp only[Zq1]
 repeat' (first | with_reducible exact Yv2 _ | with_reducible refine Yv0 (Yv2 _) fun _=>?_ | with_reducible apply Yv1)
theorem Xlt (a:(List Xe)) (n:Int) (hw:wt (.sl Xh) a≤2147483648):∃ r,Zq3 a n=some r:=by
 have hw2:=hw;simp only[wA] at hw2
 have hl:a.length≤2147483648:=by have:=Ylr (wt Xh) (fun x=>by simp only[wA];omega) a;omega
 have lp:∀ k,∃ r,Zq2 a (k,0)=some r:=fun k=>by
  refine Ys3 (f:=fun s=>Zq2.B a s.1 s.2) (fun(i:Nat) (k:Int)=>(k,(i:Int))) a.length (fun i k hi=>?_) (fun k=>?_) a.length 0 k (by omega)
  ·have hm:=Ys5 (wt Xh) a i hi
   have hb:inB (i:Int) a.length=true:=Yug (by omega) (by omega)
   simp only[Zq2.B,Ywh hi,hb,Yvy,toNat_cast,getD_lt _ hi,Yvv (by omega:i<4294967296)]
   repeat' (first | with_reducible exact Yv9 _ | (with_reducible refine .inl ⟨_,rfl,?_⟩;exact⟨_,rfl⟩) | with_reducible refine Yvf (Xls _ _ (by first | omega | (simp only[wA] at hm ⊢;omega))) fun _=>?_ | with_reducible refine Yvf (Yv2 _) fun _=>?_ | with_reducible apply Yvg)
  ·refine⟨.inr k,?_⟩;simp only[Zq2.B,Ywc (jB _),Yvx]
 simp only[Zq3]
 repeat' (first | with_reducible exact Yv2 _ | with_reducible refine Yv0 (lp _) fun o=>?_ | with_reducible refine Yv0 (Yv2 _) fun _=>?_ | with_reducible apply Yv1 | (cases o<;>exact⟨_,rfl⟩))
theorem Xlu (a:Xb) (n:Int) (hw:wt Xd a≤2147483648):∃ r,Zq4 a n=some r:=by
 simp only[Zq4]
 repeat' (first | with_reducible exact Yv2 _ | with_reducible refine Yv0 (Xlr _ _ (by first | omega | (simp only[wA] at hw ⊢;omega))) fun _=>?_ | with_reducible refine Yv0 (Xlt _ _ (by first | omega | (simp only[wA] at hw ⊢;omega))) fun _=>?_ | with_reducible refine Yv0 (Yv2 _) fun _=>?_ | with_reducible apply Yv1)
theorem Xlv (a:(List Xb)) (n:Int) (hw:wt (.sl Xd) a≤2147483648):∃ r,Zq6 a n=some r:=by
 have hw2:=hw;simp only[wA] at hw2
 have hl:a.length≤2147483648:=by have:=Ylr (wt Xd) (fun x=>by simp only[wA];omega) a;omega
 have lp:∀ k,∃ r,Zq5 a (k,0)=some r:=fun k=>by
  refine Ys3 (f:=fun s=>Zq5.B a s.1 s.2) (fun(i:Nat) (k:Int)=>(k,(i:Int))) a.length (fun i k hi=>?_) (fun k=>?_) a.length 0 k (by omega)
  ·have hm:=Ys5 (wt Xd) a i hi
   have hb:inB (i:Int) a.length=true:=Yug (by omega) (by omega)
   simp only[Zq5.B,Ywh hi,hb,Yvy,toNat_cast,getD_lt _ hi,Yvv (by omega:i<4294967296)]
   repeat' (first | with_reducible exact Yv9 _ | (with_reducible refine .inl ⟨_,rfl,?_⟩;exact⟨_,rfl⟩) | with_reducible refine Yvf (Xlu _ _ (by first | omega | (simp only[wA] at hm ⊢;omega))) fun _=>?_ | with_reducible refine Yvf (Yv2 _) fun _=>?_ | with_reducible apply Yvg)
  ·refine⟨.inr k,?_⟩;simp only[Zq5.B,Ywc (jB _),Yvx]
 simp only[Zq6]
 repeat' (first | with_reducible exact Yv2 _ | with_reducible refine Yv0 (lp _) fun o=>?_ | with_reducible refine Yv0 (Yv2 _) fun _=>?_ | with_reducible apply Yv1 | (cases o<;>exact⟨_,rfl⟩))
theorem Xlw (a:(List Int)) (n:Int) (hw:wt (.sl (.int .u8)) a≤2147483648):∃ r,Zq7 a n=some r:=by
 simp only[Zq7]
 repeat' (first | with_reducible exact Yv2 _ | with_reducible refine Yv0 (Yv2 _) fun _=>?_ | with_reducible apply Yv1)
theorem Xlx (a:(List (List Int))) (n:Int) (hw:wt (.sl (.sl (.int .u8))) a≤2147483648):∃ r,Zq9 a n=some r:=by
 have hw2:=hw;simp only[wA] at hw2
 have hl:a.length≤2147483648:=by have:=Ylr (wt (.sl (.int .u8))) (fun x=>by simp only[wA];omega) a;omega
 have lp:∀ k,∃ r,Zq8 a (k,0)=some r:=fun k=>by
  refine Ys3 (f:=fun s=>Zq8.B a s.1 s.2) (fun(i:Nat) (k:Int)=>(k,(i:Int))) a.length (fun i k hi=>?_) (fun k=>?_) a.length 0 k (by omega)
  ·have hm:=Ys5 (wt (.sl (.int .u8))) a i hi
   have hb:inB (i:Int) a.length=true:=Yug (by omega) (by omega)
   simp only[Zq8.B,Ywh hi,hb,Yvy,toNat_cast,getD_lt _ hi,Yvv (by omega:i<4294967296)]
   repeat' (first | with_reducible exact Yv9 _ | (with_reducible refine .inl ⟨_,rfl,?_⟩;exact⟨_,rfl⟩) | with_reducible refine Yvf (Xlw _ _ (by first | omega | (simp only[wA] at hm ⊢;omega))) fun _=>?_ | with_reducible refine Yvf (Yv2 _) fun _=>?_ | with_reducible apply Yvg)
  ·refine⟨.inr k,?_⟩;simp only[Zq8.B,Ywc (jB _),Yvx]
 simp only[Zq9]
 repeat' (first | with_reducible exact Yv2 _ | with_reducible refine Yv0 (lp _) fun o=>?_ | with_reducible refine Yv0 (Yv2 _) fun _=>?_ | with_reducible apply Yv1 | (cases o<;>exact⟨_,rfl⟩))
theorem Xly (a:Fs_) (n:Int) (hw:wt Xk a≤2147483648):∃ r,Xib a n=some r:=by
 simp only[Xib]
 repeat' (first | with_reducible exact Yv2 _ | with_reducible refine Yv0 (Xlv _ _ (by first | omega | (simp only[wA] at hw ⊢;omega))) fun _=>?_ | with_reducible refine Yv0 (Xlx _ _ (by first | omega | (simp only[wA] at hw ⊢;omega))) fun _=>?_ | with_reducible refine Yv0 (Yv2 _) fun _=>?_ | with_reducible apply Yv1)
theorem Xlz (a:(List Int)) (hw:wt (.sl (.int .i64)) a≤2147483648):Xic a=some a:=by
 have hw2:=hw;simp only[wA] at hw2
 have hl:a.length≤2147483648:=by have:=Ylr (wt (.int .i64)) (fun x=>by simp only[wA];omega) a;omega
 have lp:Xfn a (0,List.replicate (a.length:Int).toNat 0)=some a:=by
  refine Yvu a (fun s=>Xfn.B a s.1 s.2) 0 (fun i hi out ho=>?_) (fun out ho=>?_)
  ·have hm:=Ys5 (wt (.int .i64)) a i hi
   have hb:inB (i:Int) a.length=true:=Yug (by omega) (by omega)
   have hc:inB (i:Int) out.length=true:=Yug (by omega) (by omega)
   simp only[Xfn.B,Ywh hi,hb,hc,Yvy,toNat_cast,getD_lt _ hi,jA,Ywr,Yvv (by omega:i<4294967296)]
  ·simp only[Xfn.B];rw[show decide ((a.length:Int)<(a.length:Int))=false by simp];rfl
 simp only[Xic]
 rw[show(decide ((0:Int)≤(a.length:Int))&&(decide ((a.length:Int)≤(a.length:Int))&&decide ((a.length:Int)≤2147483648)))=true by simp;omega]
 simp only[Yvy,jA,lp]
theorem Xl0 (a:Xe) (hw:wt Xh a≤2147483648):Xid a=some a:=by
 obtain⟨x0,x1,⟨⟩⟩:=a;simp only[wA] at hw;simp only[Xid,jA,Ywr]
theorem Xl1 (a:(List Xe)) (hw:wt (.sl Xh) a≤2147483648):Xfp a=some a:=by
 have hw2:=hw;simp only[wA] at hw2
 have hl:a.length≤2147483648:=by have:=Ylr (wt Xh) (fun x=>by simp only[wA];omega) a;omega
 have lp:Xfo a (0,List.replicate (a.length:Int).toNat Xj)=some a:=by
  refine Yvu a (fun s=>Xfo.B a s.1 s.2) Xj (fun i hi out ho=>?_) (fun out ho=>?_)
  ·have hm:=Ys5 (wt Xh) a i hi
   have hb:inB (i:Int) a.length=true:=Yug (by omega) (by omega)
   have hc:inB (i:Int) out.length=true:=Yug (by omega) (by omega)
   have h0:=Xl0 a[i] (by omega)
   simp only[Xfo.B,Ywh hi,hb,hc,Yvy,toNat_cast,getD_lt _ hi,h0,jA,Ywr,Yvv (by omega:i<4294967296)]
  ·simp only[Xfo.B];rw[show decide ((a.length:Int)<(a.length:Int))=false by simp];rfl
 simp only[Xfp]
 rw[show(decide ((0:Int)≤(a.length:Int))&&(decide ((a.length:Int)≤(a.length:Int))&&decide ((a.length:Int)≤2147483648)))=true by simp;omega]
 simp only[Yvy,jA,lp]
theorem Xl2 (a:Xb) (hw:wt Xd a≤2147483648):Xie a=some a:=by
 obtain⟨x0,x1,x2,x3,x4,⟨⟩⟩:=a;simp only[wA] at hw
 have h_x3_0:=Xlz x3 (by simp only[wA];omega)
 have h_x4_1:=Xl1 x4 (by simp only[wA];omega)
 simp only[Xie,h_x3_0,h_x4_1,jA,Ywr]
theorem Xl3 (a:(List Xb)) (hw:wt (.sl Xd) a≤2147483648):Xfr a=some a:=by
 have hw2:=hw;simp only[wA] at hw2
 have hl:a.length≤2147483648:=by have:=Ylr (wt Xd) (fun x=>by simp only[wA];omega) a;omega
 have lp:Xfq a (0,List.replicate (a.length:Int).toNat Xa)=some a:=by
  refine Yvu a (fun s=>Xfq.B a s.1 s.2) Xa (fun i hi out ho=>?_) (fun out ho=>?_)
  ·have hm:=Ys5 (wt Xd) a i hi
   have hb:inB (i:Int) a.length=true:=Yug (by omega) (by omega)
   have hc:inB (i:Int) out.length=true:=Yug (by omega) (by omega)
   have h0:=Xl2 a[i] (by omega)
   simp only[Xfq.B,Ywh hi,hb,hc,Yvy,toNat_cast,getD_lt _ hi,h0,jA,Ywr,Yvv (by omega:i<4294967296)]
  ·simp only[Xfq.B];rw[show decide ((a.length:Int)<(a.length:Int))=false by simp];rfl
 simp only[Xfr]
 rw[show(decide ((0:Int)≤(a.length:Int))&&(decide ((a.length:Int)≤(a.length:Int))&&decide ((a.length:Int)≤2147483648)))=true by simp;omega]
 simp only[Yvy,jA,lp]
theorem Xl4 (a:(List Int)) (hw:wt (.sl (.int .u8)) a≤2147483648):Xif a=some a:=by
 have hw2:=hw;simp only[wA] at hw2
 have hl:a.length≤2147483648:=by have:=Ylr (wt (.int .u8)) (fun x=>by simp only[wA];omega) a;omega
 have lp:Xfs a (0,List.replicate (a.length:Int).toNat 0)=some a:=by
  refine Yvu a (fun s=>Xfs.B a s.1 s.2) 0 (fun i hi out ho=>?_) (fun out ho=>?_)
  ·have hm:=Ys5 (wt (.int .u8)) a i hi
   have hb:inB (i:Int) a.length=true:=Yug (by omega) (by omega)
   have hc:inB (i:Int) out.length=true:=Yug (by omega) (by omega)
   simp only[Xfs.B,Ywh hi,hb,hc,Yvy,toNat_cast,getD_lt _ hi,jA,Ywr,Yvv (by omega:i<4294967296)]
  ·simp only[Xfs.B];rw[show decide ((a.length:Int)<(a.length:Int))=false by simp];rfl
 simp only[Xif]
 rw[show(decide ((0:Int)≤(a.length:Int))&&(decide ((a.length:Int)≤(a.length:Int))&&decide ((a.length:Int)≤2147483648)))=true by simp;omega]
 simp only[Yvy,jA,lp]
theorem Xl5 (a:(List (List Int))) (hw:wt (.sl (.sl (.int .u8))) a≤2147483648):Xfu a=some a:=by
 have hw2:=hw;simp only[wA] at hw2
 have hl:a.length≤2147483648:=by have:=Ylr (wt (.sl (.int .u8))) (fun x=>by simp only[wA];omega) a;omega
 have lp:Xft a (0,List.replicate (a.length:Int).toNat ([]:List Int))=some a:=by
  refine Yvu a (fun s=>Xft.B a s.1 s.2) [] (fun i hi out ho=>?_) (fun out ho=>?_)
  ·have hm:=Ys5 (wt (.sl (.int .u8))) a i hi
   have hb:inB (i:Int) a.length=true:=Yug (by omega) (by omega)
   have hc:inB (i:Int) out.length=true:=Yug (by omega) (by omega)
   have h0:=Xl4 a[i] (by omega)
   simp only[Xft.B,Ywh hi,hb,hc,Yvy,toNat_cast,getD_lt _ hi,h0,jA,Ywr,Yvv (by omega:i<4294967296)]
  ·simp only[Xft.B];rw[show decide ((a.length:Int)<(a.length:Int))=false by simp];rfl
 simp only[Xfu]
 rw[show(decide ((0:Int)≤(a.length:Int))&&(decide ((a.length:Int)≤(a.length:Int))&&decide ((a.length:Int)≤2147483648)))=true by simp;omega]
 simp only[Yvy,jA,lp]
theorem Xl6 (a:Fs_) (hw:wt Xk a≤2147483648):Xg1 a=some a:=by
 obtain⟨x0,x1,⟨⟩⟩:=a;simp only[wA] at hw
 have h_x0_0:=Xl3 x0 (by simp only[wA];omega)
 have h_x1_1:=Xl5 x1 (by simp only[wA];omega)
 simp only[Xg1,h_x0_0,h_x1_1,jA,Ywr]
theorem Xk4 (a:(List Int)) (hw:wt (.sl (.int .u8)) a≤2147483648):Xdi a a=some true:=by
 have hw2:=hw;simp only[wA] at hw2
 have hl:a.length≤2147483648:=by have:=Ylr (wt (.int .u8)) (fun x=>by simp only[wA];omega) a;omega
 have lp:Xca a a 0=some (.inr ()):=by
  refine Yve (n:=a.length) (fun s=>Xca.B a a s) (fun i hi=>?_) ?_
  ·have hm:=Ys5 (wt (.int .u8)) a i hi
   have hb:inB (i:Int) a.length=true:=Yug (by omega) (by omega)
   simp only[Xca.B,Ywh hi,hb,Yvy,Yvx,toNat_cast,getD_lt _ hi,jA,jK,Yu7,Yuy,Yux,Yvv (by omega:i<4294967296)]
  ·simp only[Xca.B,Ywc (jB _),Yvx]
 simp only[Xdi,Yu7,Yvx,lp,jA,sel]
theorem Xl7 (a:(List (List UInt8))) (hw:wt (.sl .str) a≤2147483648):Xe2 a a=some true:=by
 have hw2:=hw;simp only[wA] at hw2
 have hl:a.length≤2147483648:=by have:=Ylr (wt .str) (fun x=>by simp only[wA];omega) a;omega
 have lp:Xcb a a 0=some (.inr ()):=by
  refine Yve (n:=a.length) (fun s=>Xcb.B a a s) (fun i hi=>?_) ?_
  ·have hm:=Ys5 (wt .str) a i hi
   have hb:inB (i:Int) a.length=true:=Yug (by omega) (by omega)
   simp only[Xcb.B,Ywh hi,hb,Yvy,Yvx,toNat_cast,getD_lt _ hi,jA,jK,Yu7,Yuy,Yux,Yvv (by omega:i<4294967296)]
  ·simp only[Xcb.B,Ywc (jB _),Yvx]
 simp only[Xe2,Yu7,Yvx,lp,jA,sel]
theorem Xl8 (a:(List Int)) (hw:wt (.sl (.int .i64)) a≤2147483648):Xe3 a a=some true:=by
 have hw2:=hw;simp only[wA] at hw2
 have hl:a.length≤2147483648:=by have:=Ylr (wt (.int .i64)) (fun x=>by simp only[wA];omega) a;omega
 have lp:Xcc a a 0=some (.inr ()):=by
  refine Yve (n:=a.length) (fun s=>Xcc.B a a s) (fun i hi=>?_) ?_
  ·have hm:=Ys5 (wt (.int .i64)) a i hi
   have hb:inB (i:Int) a.length=true:=Yug (by omega) (by omega)
   simp only[Xcc.B,Ywh hi,hb,Yvy,Yvx,toNat_cast,getD_lt _ hi,jA,jK,Yu7,Yuy,Yux,Yvv (by omega:i<4294967296)]
  ·simp only[Xcc.B,Ywc (jB _),Yvx]
 simp only[Xe3,Yu7,Yvx,lp,jA,sel]
theorem Xl9 (a:Xe) (hw:wt Xh a≤2147483648):Xe4 a a=some true:=by
 obtain⟨x0,x1,⟨⟩⟩:=a;simp only[wA] at hw;simp only[Xe4,jA,jK,Yu7,Yuy,Yux,Yvx,Yvy]
theorem Xma (a:(List Xe)) (hw:wt (.sl Xh) a≤2147483648):Xce a a=some true:=by
 have hw2:=hw;simp only[wA] at hw2
 have hl:a.length≤2147483648:=by have:=Ylr (wt Xh) (fun x=>by simp only[wA];omega) a;omega
 have lp:Xcd a a 0=some (.inr ()):=by
  refine Yve (n:=a.length) (fun s=>Xcd.B a a s) (fun i hi=>?_) ?_
  ·have hm:=Ys5 (wt Xh) a i hi
   have hb:inB (i:Int) a.length=true:=Yug (by omega) (by omega)
   have h0:=Xl9 a[i] (by omega)
   simp only[Xcd.B,Ywh hi,hb,Yvy,Yvx,toNat_cast,getD_lt _ hi,h0,jA,jK,Yu7,Yuy,Yux,Yvv (by omega:i<4294967296)]
  ·simp only[Xcd.B,Ywc (jB _),Yvx]
 simp only[Xce,Yu7,Yvx,lp,jA,sel]
theorem Xmb (a:Xb) (hw:wt Xd a≤2147483648):Xe5 a a=some true:=by
 obtain⟨x0,x1,x2,x3,x4,⟨⟩⟩:=a;simp only[wA] at hw
 have h_x3_0:=Xl8 x3 (by simp only[wA];omega)
 have h_x4_1:=Xma x4 (by simp only[wA];omega)
 simp only[Xe5,h_x3_0,h_x4_1,jA,jK,Yu7,Yuy,Yux,Yvx,Yvy]
theorem Xmc (a:(List Xb)) (hw:wt (.sl Xd) a≤2147483648):Xcg a a=some true:=by
 have hw2:=hw;simp only[wA] at hw2
 have hl:a.length≤2147483648:=by have:=Ylr (wt Xd) (fun x=>by simp only[wA];omega) a;omega
 have lp:Xcf a a 0=some (.inr ()):=by
  refine Yve (n:=a.length) (fun s=>Xcf.B a a s) (fun i hi=>?_) ?_
  ·have hm:=Ys5 (wt Xd) a i hi
   have hb:inB (i:Int) a.length=true:=Yug (by omega) (by omega)
   have h0:=Xmb a[i] (by omega)
   simp only[Xcf.B,Ywh hi,hb,Yvy,Yvx,toNat_cast,getD_lt _ hi,h0,jA,jK,Yu7,Yuy,Yux,Yvv (by omega:i<4294967296)]
  ·simp only[Xcf.B,Ywc (jB _),Yvx]
 simp only[Xcg,Yu7,Yvx,lp,jA,sel]
theorem Xmd (a:(List (List Int))) (hw:wt (.sl (.sl (.int .u8))) a≤2147483648):Xci a a=some true:=by
 have hw2:=hw;simp only[wA] at hw2
 have hl:a.length≤2147483648:=by have:=Ylr (wt (.sl (.int .u8))) (fun x=>by simp only[wA];omega) a;omega
 have lp:Xch a a 0=some (.inr ()):=by
  refine Yve (n:=a.length) (fun s=>Xch.B a a s) (fun i hi=>?_) ?_
  ·have hm:=Ys5 (wt (.sl (.int .u8))) a i hi
   have hb:inB (i:Int) a.length=true:=Yug (by omega) (by omega)
   have h0:=Xk4 a[i] (by omega)
   simp only[Xch.B,Ywh hi,hb,Yvy,Yvx,toNat_cast,getD_lt _ hi,h0,jA,jK,Yu7,Yuy,Yux,Yvv (by omega:i<4294967296)]
  ·simp only[Xch.B,Ywc (jB _),Yvx]
 simp only[Xci,Yu7,Yvx,lp,jA,sel]
theorem Xk5 (a:Fs_) (hw:wt Xk a≤2147483648):Xdj a a=some true:=by
 obtain⟨x0,x1,⟨⟩⟩:=a;simp only[wA] at hw
 have h_x0_0:=Xmc x0 (by simp only[wA];omega)
 have h_x1_1:=Xmd x1 (by simp only[wA];omega)
 simp only[Xdj,h_x0_0,h_x1_1,jA,jK,Yu7,Yuy,Yux,Yvx,Yvy]
theorem Xme (a:Xq) (hw:wt Xi a≤2147483648):Xdv a a=some true:=by
 obtain⟨x0,x1,x2,x3,x4,x5,⟨⟩⟩:=a;simp only[wA] at hw
 have h_x3_0:=Xk4 x3 (by simp only[wA];omega)
 have h_x4_1:=Xl7 x4 (by simp only[wA];omega)
 have h_x5_2:=Xk5 x5 (by simp only[wA];omega)
 simp only[Xdv,h_x3_0,h_x4_1,h_x5_2,jA,jK,Yu7,Yuy,Yux,Yvx,Yvy]
theorem Xk6:∀ (n:Nat) (k:Int) (out:List UInt8),0≤k→k<10 ^ n→out.length+n≤2147483648→k≤4611686018427387904→∃ s,Xcj (k,out)=some s∧s.length≤out.length+n
 |0,k,out,h0,h1,h2,h3=>by
  have:k=0:=by simp at h1;omega
  subst this
  exact⟨out,Yar (by simp only[Xcj.B];rfl),by omega⟩
 |n+1,k,out,h0,h1,h2,h3=>by
  by_cases hk:k=0
  ·subst hk;exact⟨out,Yar (by simp only[Xcj.B];rfl),by omega⟩
  ·have hd:k.tdiv 10=k / 10:=Int.tdiv_eq_ediv_of_nonneg h0
   have hq:w64 (k / 10)=k / 10:=Ysf (by omega) (by omega)
   have hp:k / 10<10 ^ n:=by rw[Int.pow_succ] at h1;omega
   obtain⟨s,hs,hl⟩:=Xk6 n (k / 10) ((([IntKind.u8.wrap (w64 ((48:Int)+(k.tmod 10)))]).map fun n=>UInt8.ofNat n.toNat)++out) (by omega) hp (by simp;omega) (by omega)
   refine⟨s,?_,by simp at hl;omega⟩
   rw[←hs];refine Ybb (s':=(k / 10,_)) ?_
   simp only[Xcj.B,show decide (k>0)=true by simp;omega,Yvy,show(!((10:Int) == 0))=true from rfl,jA,hd,hq]
   rw[show decide ((([IntKind.u8.wrap (w64 ((48:Int)+(k.tmod 10)))]).map fun n=>UInt8.ofNat n.toNat).length+out.length≤2147483648)=true by simp;omega]
   rfl
theorem Xk7 (k:Int) (h:0≤k) (hk:k≤4611686018427387904):∃ s,Xai k=some s:=by
 obtain⟨s,hs,hl⟩:=Xk6 19 k [] h (by omega) (by simp) hk
 simp only[Xai];cases decide (k≤0)
 ·simp only[Yvx,hs,jA]
  rw[show decide (([109]:List UInt8).length+s.length≤2147483648)=true by simp at hl ⊢;omega]
  exact⟨_,rfl⟩
 ·exact⟨_,rfl⟩
theorem Xk8 (a:(List Int)) (k:Int) (hk:0≤k) (hw:k+wt (.sl (.int .u8)) a≤4611686018427387904) (hz:wt (.sl (.int .u8)) a≤2147483648):MH Xdk Xdl (wt (.sl (.int .u8)) a) a k:=by
 simp only[wA] at hw hz
 have hl:a.length≤2147483648:=by have:=Ylr (wt (.int .u8)) (fun x=>by simp only[wA];omega) a;omega
 have hs:∀ (k:Int) (i:Nat) (a:(List Int)) (h:i<a.length),a.length≤2147483648→0≤k→k+wt (.int .u8) a[i]≤4611686018427387904→wt (.int .u8) a[i]≤2147483648→∃ k2 x2,k≤k2∧k2≤k+wt (.int .u8) a[i]∧Xa8.B k (i:Int) a=some (.inl (k2,((i+1:Nat):Int),a.set i x2))∧∀ b:(List Int),b.length=a.length→b[i]? = some x2→Xbb.B b k (i:Int)=some (.inl (k2,((i+1:Nat):Int))):=by
  clear hw hz hl hk k a;intro k i a hi hl hk hw hz
  have hb:inB (i:Int) a.length=true:=Yug (by omega) (by omega)
  simp only[wA] at hw hz
  have w1:w64 (k+1)=k+1:=Yws (by omega) (by omega)
  refine⟨k+1,(IntKind.u8.wrap (k)),by omega,by simp only[wA];omega,?_,fun b hlb hx=>?_⟩
  ·simp only[Xa8.B,Ywh hi,hb,Yvy,toNat_cast,getD_lt _ hi,jA,w1,Yvv (by omega:i<4294967296),kM,kC,Yvj _ _ hi,show(!((3:Int) == 0))=true from rfl]
  ·have hc:inB (i:Int) b.length=true:=Yug (by omega) (by omega)
   have hd:decide ((i:Int)<(b.length:Int))=true:=Ywh (by omega)
   simp only[Xbb.B,hd,hc,Yvy,Yvx,toNat_cast,Yv3 _ hx,jA,Yu7,Yuy,Yux,jK,w1,Yvv (by omega:i<4294967296),kM,kC,Yvj _ _ hi,show(!((3:Int) == 0))=true from rfl]
 obtain⟨k2,a2,e1,e2,e3,e4⟩:=Yuk (wt (.int .u8)) 4611686018427387904 (fun s=>Xa8.B s.1 s.2.1 s.2.2) (fun b s=>Xbb.B b s.1 s.2) (fun k a=>by simp only[Xa8.B,Ywc (jB _),Yvx]) (fun k a=>by simp only[Xbb.B,Ywc (jB _),Yvx]) hs k a hl hk (by omega) (by omega)
 refine⟨k2,a2,e1,by simp only[wA];omega,?_,?_⟩
 ·have:Xa8 (k,0,a)=some (k2,a2):=e3
  simp only[Xdk,this,jA]
 ·have:Xbb a2 (k,0)=some (.inr k2):=e4
  simp only[Xdl,this,jA,sel]
theorem Xmf (a:(List (List UInt8))) (k:Int) (hk:0≤k) (hw:k+wt (.sl .str) a≤4611686018427387904) (hz:wt (.sl .str) a≤2147483648):MH Xco Xcp (wt (.sl .str) a) a k:=by
 simp only[wA] at hw hz
 have hl:a.length≤2147483648:=by have:=Ylr (wt .str) (fun x=>by simp only[wA];omega) a;omega
 have hs:∀ (k:Int) (i:Nat) (a:(List (List UInt8))) (h:i<a.length),a.length≤2147483648→0≤k→k+wt .str a[i]≤4611686018427387904→wt .str a[i]≤2147483648→∃ k2 x2,k≤k2∧k2≤k+wt .str a[i]∧Xba.B k (i:Int) a=some (.inl (k2,((i+1:Nat):Int),a.set i x2))∧∀ b:(List (List UInt8)),b.length=a.length→b[i]? = some x2→Xbc.B b k (i:Int)=some (.inl (k2,((i+1:Nat):Int))):=by
  clear hw hz hl hk k a;intro k i a hi hl hk hw hz
  have hb:inB (i:Int) a.length=true:=Yug (by omega) (by omega)
  simp only[wA] at hw hz
  obtain⟨s1,w1⟩:=Xk7 (k) (by omega) (by omega)
  have w2:w64 (k+1)=k+1:=Yws (by omega) (by omega)
  refine⟨k+1,s1,by omega,by simp only[wA];omega,?_,fun b hlb hx=>?_⟩
  ·simp only[Xba.B,Ywh hi,hb,Yvy,toNat_cast,getD_lt _ hi,jA,w1,w2,Yvv (by omega:i<4294967296),kM,kC,Yvj _ _ hi,show(!((3:Int) == 0))=true from rfl]
  ·have hc:inB (i:Int) b.length=true:=Yug (by omega) (by omega)
   have hd:decide ((i:Int)<(b.length:Int))=true:=Ywh (by omega)
   simp only[Xbc.B,hd,hc,Yvy,Yvx,toNat_cast,Yv3 _ hx,jA,Yu7,Yuy,Yux,jK,w1,w2,Yvv (by omega:i<4294967296),kM,kC,Yvj _ _ hi,show(!((3:Int) == 0))=true from rfl]
 obtain⟨k2,a2,e1,e2,e3,e4⟩:=Yuk (wt .str) 4611686018427387904 (fun s=>Xba.B s.1 s.2.1 s.2.2) (fun b s=>Xbc.B b s.1 s.2) (fun k a=>by simp only[Xba.B,Ywc (jB _),Yvx]) (fun k a=>by simp only[Xbc.B,Ywc (jB _),Yvx]) hs k a hl hk (by omega) (by omega)
 refine⟨k2,a2,e1,by simp only[wA];omega,?_,?_⟩
 ·have:Xba (k,0,a)=some (k2,a2):=e3
  simp only[Xco,this,jA]
 ·have:Xbc a2 (k,0)=some (.inr k2):=e4
  simp only[Xcp,this,jA,sel]
theorem Xmg (a:(List Int)) (k:Int) (hk:0≤k) (hw:k+wt (.sl (.int .i64)) a≤4611686018427387904) (hz:wt (.sl (.int .i64)) a≤2147483648):MH Xe6 Xe8 (wt (.sl (.int .i64)) a) a k:=by
 simp only[wA] at hw hz
 have hl:a.length≤2147483648:=by have:=Ylr (wt (.int .i64)) (fun x=>by simp only[wA];omega) a;omega
 have hs:∀ (k:Int) (i:Nat) (a:(List Int)) (h:i<a.length),a.length≤2147483648→0≤k→k+wt (.int .i64) a[i]≤4611686018427387904→wt (.int .i64) a[i]≤2147483648→∃ k2 x2,k≤k2∧k2≤k+wt (.int .i64) a[i]∧Xa5.B k (i:Int) a=some (.inl (k2,((i+1:Nat):Int),a.set i x2))∧∀ b:(List Int),b.length=a.length→b[i]? = some x2→Xbd.B b k (i:Int)=some (.inl (k2,((i+1:Nat):Int))):=by
  clear hw hz hl hk k a;intro k i a hi hl hk hw hz
  have hb:inB (i:Int) a.length=true:=Yug (by omega) (by omega)
  simp only[wA] at hw hz
  have w1:w64 (k+1)=k+1:=Yws (by omega) (by omega)
  refine⟨k+1,k,by omega,by simp only[wA];omega,?_,fun b hlb hx=>?_⟩
  ·simp only[Xa5.B,Ywh hi,hb,Yvy,toNat_cast,getD_lt _ hi,jA,w1,Yvv (by omega:i<4294967296),kM,kC,Yvj _ _ hi,show(!((3:Int) == 0))=true from rfl]
  ·have hc:inB (i:Int) b.length=true:=Yug (by omega) (by omega)
   have hd:decide ((i:Int)<(b.length:Int))=true:=Ywh (by omega)
   simp only[Xbd.B,hd,hc,Yvy,Yvx,toNat_cast,Yv3 _ hx,jA,Yu7,Yuy,Yux,jK,w1,Yvv (by omega:i<4294967296),kM,kC,Yvj _ _ hi,show(!((3:Int) == 0))=true from rfl]
 obtain⟨k2,a2,e1,e2,e3,e4⟩:=Yuk (wt (.int .i64)) 4611686018427387904 (fun s=>Xa5.B s.1 s.2.1 s.2.2) (fun b s=>Xbd.B b s.1 s.2) (fun k a=>by simp only[Xa5.B,Ywc (jB _),Yvx]) (fun k a=>by simp only[Xbd.B,Ywc (jB _),Yvx]) hs k a hl hk (by omega) (by omega)
 refine⟨k2,a2,e1,by simp only[wA];omega,?_,?_⟩
 ·have:Xa5 (k,0,a)=some (k2,a2):=e3
  simp only[Xe6,this,jA]
 ·have:Xbd a2 (k,0)=some (.inr k2):=e4
  simp only[Xe8,this,jA,sel]
theorem Xmh (a:(List Xe)) (k:Int) (hk:0≤k) (hw:k+wt (.sl Xh) a≤4611686018427387904) (hz:wt (.sl Xh) a≤2147483648):MH Xck Xcq (wt (.sl Xh) a) a k:=by
 simp only[wA] at hw hz
 have hl:a.length≤2147483648:=by have:=Ylr (wt Xh) (fun x=>by simp only[wA];omega) a;omega
 have hs:∀ (k:Int) (i:Nat) (a:(List Xe)) (h:i<a.length),a.length≤2147483648→0≤k→k+wt Xh a[i]≤4611686018427387904→wt Xh a[i]≤2147483648→∃ k2 x2,k≤k2∧k2≤k+wt Xh a[i]∧Xa6.B k (i:Int) a=some (.inl (k2,((i+1:Nat):Int),a.set i x2))∧∀ b:(List Xe),b.length=a.length→b[i]? = some x2→Xbe.B b k (i:Int)=some (.inl (k2,((i+1:Nat):Int))):=by
  clear hw hz hl hk k a;intro k i a hi hl hk hw hz
  have hb:inB (i:Int) a.length=true:=Yug (by omega) (by omega)
  simp only[wA] at hw hz
  obtain⟨s1,w1⟩:=Xk7 (k) (by omega) (by omega)
  have w2:w64 (k+1)=k+1:=Yws (by omega) (by omega)
  have w3:w64 (k+1+1)=k+1+1:=Yws (by omega) (by omega)
  refine⟨k+1+1,(s1,k+1,()),by omega,by simp only[wA];omega,?_,fun b hlb hx=>?_⟩
  ·simp only[Xa6.B,Ywh hi,hb,Yvy,toNat_cast,getD_lt _ hi,jA,w1,w2,w3,Yvv (by omega:i<4294967296),kM,kC,Yvj _ _ hi,show(!((3:Int) == 0))=true from rfl]
  ·have hc:inB (i:Int) b.length=true:=Yug (by omega) (by omega)
   have hd:decide ((i:Int)<(b.length:Int))=true:=Ywh (by omega)
   simp only[Xbe.B,hd,hc,Yvy,Yvx,toNat_cast,Yv3 _ hx,jA,Yu7,Yuy,Yux,jK,w1,w2,w3,Yvv (by omega:i<4294967296),kM,kC,Yvj _ _ hi,show(!((3:Int) == 0))=true from rfl]
 obtain⟨k2,a2,e1,e2,e3,e4⟩:=Yuk (wt Xh) 4611686018427387904 (fun s=>Xa6.B s.1 s.2.1 s.2.2) (fun b s=>Xbe.B b s.1 s.2) (fun k a=>by simp only[Xa6.B,Ywc (jB _),Yvx]) (fun k a=>by simp only[Xbe.B,Ywc (jB _),Yvx]) hs k a hl hk (by omega) (by omega)
 refine⟨k2,a2,e1,by simp only[wA];omega,?_,?_⟩
 ·have:Xa6 (k,0,a)=some (k2,a2):=e3
  simp only[Xck,this,jA]
 ·have:Xbe a2 (k,0)=some (.inr k2):=e4
  simp only[Xcq,this,jA,sel]
theorem Xk9 (a:(List Xb)) (k:Int) (hk:0≤k) (hw:k+wt (.sl Xd) a≤4611686018427387904) (hz:wt (.sl Xd) a≤2147483648):MH Xcl Xcr (wt (.sl Xd) a) a k:=by
 simp only[wA] at hw hz
 have hl:a.length≤2147483648:=by have:=Ylr (wt Xd) (fun x=>by simp only[wA];omega) a;omega
 have hs:∀ (k:Int) (i:Nat) (a:(List Xb)) (h:i<a.length),a.length≤2147483648→0≤k→k+wt Xd a[i]≤4611686018427387904→wt Xd a[i]≤2147483648→∃ k2 x2,k≤k2∧k2≤k+wt Xd a[i]∧Xa7.B k (i:Int) a=some (.inl (k2,((i+1:Nat):Int),a.set i x2))∧∀ b:(List Xb),b.length=a.length→b[i]? = some x2→Xbf.B b k (i:Int)=some (.inl (k2,((i+1:Nat):Int))):=by
  clear hw hz hl hk k a;intro k i a hi hl hk hw hz
  have hb:inB (i:Int) a.length=true:=Yug (by omega) (by omega)
  simp only[wA] at hw hz
  have w1:w64 (k+1)=k+1:=Yws (by omega) (by omega)
  have w2:w64 (k+1+1)=k+1+1:=Yws (by omega) (by omega)
  have w3:w64 (k+1+1+1)=k+1+1+1:=Yws (by omega) (by omega)
  obtain⟨k4,y4,l4,u4,w4,v4⟩:=Xmg a[i].2.2.2.1 (k+1+1+1) (by omega) (by simp only[wA];omega) (by simp only[wA];omega)
  simp only[wA] at u4
  obtain⟨k5,y5,l5,u5,w5,v5⟩:=Xmh a[i].2.2.2.2.1 (k4) (by omega) (by simp only[wA];omega) (by simp only[wA];omega)
  simp only[wA] at u5
  refine⟨k5,(k,k+1,k+1+1,y4,y5,()),by omega,by simp only[wA];omega,?_,fun b hlb hx=>?_⟩
  ·simp only[Xa7.B,Ywh hi,hb,Yvy,toNat_cast,getD_lt _ hi,jA,w1,w2,w3,v4,w4,v5,w5,Yvv (by omega:i<4294967296),kM,kC,Yvj _ _ hi,show(!((3:Int) == 0))=true from rfl]
  ·have hc:inB (i:Int) b.length=true:=Yug (by omega) (by omega)
   have hd:decide ((i:Int)<(b.length:Int))=true:=Ywh (by omega)
   simp only[Xbf.B,hd,hc,Yvy,Yvx,toNat_cast,Yv3 _ hx,jA,Yu7,Yuy,Yux,jK,w1,w2,w3,v4,w4,v5,w5,Yv4 (by omega:0≤k4),Yv4 (by omega:0≤k5),Yvv (by omega:i<4294967296),kM,kC,Yvj _ _ hi,show(!((3:Int) == 0))=true from rfl]
 obtain⟨k2,a2,e1,e2,e3,e4⟩:=Yuk (wt Xd) 4611686018427387904 (fun s=>Xa7.B s.1 s.2.1 s.2.2) (fun b s=>Xbf.B b s.1 s.2) (fun k a=>by simp only[Xa7.B,Ywc (jB _),Yvx]) (fun k a=>by simp only[Xbf.B,Ywc (jB _),Yvx]) hs k a hl hk (by omega) (by omega)
 refine⟨k2,a2,e1,by simp only[wA];omega,?_,?_⟩
 ·have:Xa7 (k,0,a)=some (k2,a2):=e3
  simp only[Xcl,this,jA]
 ·have:Xbf a2 (k,0)=some (.inr k2):=e4
  simp only[Xcr,this,jA,sel]
theorem Xla (a:(List (List Int))) (k:Int) (hk:0≤k) (hw:k+wt (.sl (.sl (.int .u8))) a≤4611686018427387904) (hz:wt (.sl (.sl (.int .u8))) a≤2147483648):MH Xcm Xcs (wt (.sl (.sl (.int .u8))) a) a k:=by
 simp only[wA] at hw hz
 have hl:a.length≤2147483648:=by have:=Ylr (wt (.sl (.int .u8))) (fun x=>by simp only[wA];omega) a;omega
 have hs:∀ (k:Int) (i:Nat) (a:(List (List Int))) (h:i<a.length),a.length≤2147483648→0≤k→k+wt (.sl (.int .u8)) a[i]≤4611686018427387904→wt (.sl (.int .u8)) a[i]≤2147483648→∃ k2 x2,k≤k2∧k2≤k+wt (.sl (.int .u8)) a[i]∧Xa9.B k (i:Int) a=some (.inl (k2,((i+1:Nat):Int),a.set i x2))∧∀ b:(List (List Int)),b.length=a.length→b[i]? = some x2→Xbg.B b k (i:Int)=some (.inl (k2,((i+1:Nat):Int))):=by
  clear hw hz hl hk k a;intro k i a hi hl hk hw hz
  have hb:inB (i:Int) a.length=true:=Yug (by omega) (by omega)
  simp only[wA] at hw hz
  obtain⟨k1,y1,l1,u1,w1,v1⟩:=Xk8 a[i] (k) (by omega) (by simp only[wA];omega) (by simp only[wA];omega)
  simp only[wA] at u1
  refine⟨k1,y1,by omega,by simp only[wA];omega,?_,fun b hlb hx=>?_⟩
  ·simp only[Xa9.B,Ywh hi,hb,Yvy,toNat_cast,getD_lt _ hi,jA,v1,w1,Yvv (by omega:i<4294967296),kM,kC,Yvj _ _ hi,show(!((3:Int) == 0))=true from rfl]
  ·have hc:inB (i:Int) b.length=true:=Yug (by omega) (by omega)
   have hd:decide ((i:Int)<(b.length:Int))=true:=Ywh (by omega)
   simp only[Xbg.B,hd,hc,Yvy,Yvx,toNat_cast,Yv3 _ hx,jA,Yu7,Yuy,Yux,jK,v1,w1,Yv4 (by omega:0≤k1),Yvv (by omega:i<4294967296),kM,kC,Yvj _ _ hi,show(!((3:Int) == 0))=true from rfl]
 obtain⟨k2,a2,e1,e2,e3,e4⟩:=Yuk (wt (.sl (.int .u8))) 4611686018427387904 (fun s=>Xa9.B s.1 s.2.1 s.2.2) (fun b s=>Xbg.B b s.1 s.2) (fun k a=>by simp only[Xa9.B,Ywc (jB _),Yvx]) (fun k a=>by simp only[Xbg.B,Ywc (jB _),Yvx]) hs k a hl hk (by omega) (by omega)
 refine⟨k2,a2,e1,by simp only[wA];omega,?_,?_⟩
 ·have:Xa9 (k,0,a)=some (k2,a2):=e3
  simp only[Xcm,this,jA]
 ·have:Xbg a2 (k,0)=some (.inr k2):=e4
  simp only[Xcs,this,jA,sel]
theorem Xmi (x_0:List Xb) (x_1:List (List Int)) (k:Int) (hk:0≤k) (hw:k+wt Xk (x_0,x_1,())≤4611686018427387904) (hz:wt Xk (x_0,x_1,())≤2147483648):∃ k2 y0 y1,k≤k2∧k2≤k+wt Xk (x_0,x_1,())∧Xcn (x_0,x_1,()) k=some (k2,(y0,y1,()))∧Xeg (y0,y1,()) k=some k2:=by
 simp only[wA] at hw hz
 obtain⟨k0,y0,l0,u0,w0,v0⟩:=Xk9 x_0 k (by omega) (by simp only[wA];omega) (by simp only[wA];omega)
 simp only[wA] at u0
 obtain⟨k1,y1,l1,u1,w1,v1⟩:=Xla x_1 k0 (by omega) (by simp only[wA];omega) (by simp only[wA];omega)
 simp only[wA] at u1
 refine⟨k1,y0,y1,by omega,by simp only[wA];omega,?_,?_⟩
 ·simp only[Xcn,w0,w1,jA,Ywr]
 ·simp only[Xeg,v0,v1,jA,Yvx,Yv4 (by omega:0≤k0),Yv4 (by omega:0≤k1)]
theorem Xmj (x_0:Int) (x_1:Int) (x_2:Int) (x_3:List Int) (x_4:List (List UInt8)) (x_5_0:List Xb) (x_5_1:List (List Int)) (k:Int) (hk:0≤k) (hw:k+wt Xi (x_0,x_1,x_2,x_3,x_4,(x_5_0,x_5_1,()),())≤4611686018427387904) (hz:wt Xi (x_0,x_1,x_2,x_3,x_4,(x_5_0,x_5_1,()),())≤2147483648):∃ k2 y0 y1 y2 y3,k≤k2∧k2≤k+wt Xi (x_0,x_1,x_2,x_3,x_4,(x_5_0,x_5_1,()),())∧Xe7 (x_0,x_1,x_2,x_3,x_4,(x_5_0,x_5_1,()),()) k=some (k2,(x_0,x_1,x_2,y0,y1,(y2,y3,()),()))∧Xeh (x_0,x_1,x_2,y0,y1,(y2,y3,()),()) k=some k2:=by
 simp only[wA] at hw hz
 obtain⟨k0,y0,l0,u0,w0,v0⟩:=Xk8 x_3 k (by omega) (by simp only[wA];omega) (by simp only[wA];omega)
 simp only[wA] at u0
 obtain⟨k1,y1,l1,u1,w1,v1⟩:=Xmf x_4 k0 (by omega) (by simp only[wA];omega) (by simp only[wA];omega)
 simp only[wA] at u1
 obtain⟨k2,y2,l2,u2,w2,v2⟩:=Xk9 x_5_0 k1 (by omega) (by simp only[wA];omega) (by simp only[wA];omega)
 simp only[wA] at u2
 obtain⟨k3,y3,l3,u3,w3,v3⟩:=Xla x_5_1 k2 (by omega) (by simp only[wA];omega) (by simp only[wA];omega)
 simp only[wA] at u3
 refine⟨k3,y0,y1,y2,y3,by omega,by simp only[wA];omega,?_,?_⟩
 ·simp only[Xe7,Xcn,w0,w1,w2,w3,jA,Ywr]
 ·simp only[Xeh,Xeg,v0,v1,v2,v3,jA,Yvx,Yv4 (by omega:0≤k0),Yv4 (by omega:0≤k1),Yv4 (by omega:0≤k2),Yv4 (by omega:0≤k3)]
def inR (v lo hi:Int):Bool:=cond (decide (v≥lo)) (decide (v≤hi)) false
theorem Xfg {v lo hi:Int}:inR v lo hi=true↔lo≤v∧v≤hi:=by
 unfold inR;by_cases h:v≥lo<;>simp[h]<;>omega
theorem Xjx (v lo hi:Int):Xdp v lo hi=some (inR v lo hi):=rfl
theorem Xjy (v lo hi:Int):Xdr v lo hi=some (inR v lo hi):=rfl
theorem Xis {α:Type} (p:α→Bool) (l:List α):((some (match Yn8 p 0 l with | some j=>.inl (j:Int) | none=>.inr ():Int⊕Unit)).bind fun o=>sel o (fun b=>some b) (fun c=>some (-1))).bind (fun r=>some (decide (r≥0)))=some (l.any p):=by
 cases h:Yn8 p 0 l with
 |none=>rw[Ypy.1 h];rfl
 |some j=>
  have:l.any p=true:=by
   cases ha:l.any p with
   |true=>rfl
   |false=>rw[Ypy.2 ha] at h;cases h
  rw[this];simp[sel]
theorem Xcw (n:Int) (g:Option Int):((some (cond (n != 0) (.inl n) (.inr ()):Int⊕Unit)).bind fun o=>sel o (fun b=>some b) (fun _=>g))=cond (n != 0) (some n) g:=by
 cases (n != 0)<;>rfl
theorem Xaz (n:Int):cond (n != 0) (some n) (some 0)=some n:=by
 cases h:(n != 0)
 ·have:n=0:=by simpa using h
  rw[this];rfl
 ·rfl
theorem Xd7 {α:Type} {xs:List α} (h:xs.length≤2147483648):Yq0 xs=some xs:=by
 unfold Yq0;rw[show decide (xs.length≤2147483648)=true by simp;omega];rfl
theorem Xi8 {n:Nat} (h:n≤2147483648):decide (n≤2147483648)=true:=by simp;omega
theorem Xmk (l:List (List Int)) (h:Bd (.sl (.sl (.int .u8))) l):Xb1 l=some l:=by
 obtain⟨hl,hb⟩:=h
 have h:Xb0 l (l.length:Int) (0,[])=some ([]++l.map id):=
  Yu1 l (f:=fun s=>Xb0.B l (l.length:Int) s.1 s.2) id id 0 (fun i hi t ht=>by
   have hx:=(hb l[i] (jE hi)).1
   simp only[Xb0.B,Ywh hi,Ywe hi,Yvy,toNat_cast,getD_lt _ hi,Xgq,Xd7 hx,jA,Yvv (by omega:i<4294967296),id]
   rw[Xi8 (by simp;omega)];rfl) (fun t ht=>by
   simp only[Xb0.B,Ywc (jB _),Yvx,id]) [] rfl
 simp only[Xb1,h,jA];simp
theorem Xml (f:Fs_) (h:Bd Xk f):Xb3 f=some f:=by
 obtain⟨l,d,⟨⟩⟩:=f;obtain⟨⟨hl,hb⟩,hd,_⟩:=h;replace hl:l.length≤2147483648:=hl;replace hb:∀ x∈l,Bd Xd x:=hb;replace hd:Bd (.sl (.sl (.int .u8))) d:=hd
 have h:Xb2 l (l.length:Int) ([],[],()) (0,([],d,()))=some (l.foldl (fun(t:Fs_) x=>(t.1++[x],t.2)) ([],d,())):=
  Yoe l (f:=fun s=>Xb2.B l (l.length:Int) ([],[],()) s.1 s.2) (fun(t:Fs_) x=>(t.1++[x],t.2)) id (fun i t=>t.1.length=i) (fun i hi t ht=>by
   have hx:=hb l[i] (jE hi);obtain⟨hx1,hx2,hx3,hx4,hx5,_⟩:=hx;have e1:Yq0 l[i].2.2.2.1=some l[i].2.2.2.1:=Xd7 hx4.1;have e2:Yq0 l[i].2.2.2.2.1=some l[i].2.2.2.2.1:=Xd7 hx5.1
   refine⟨?_,by simp[ht]⟩
   simp only[Xb2.B,Ywh hi,Ywe hi,Yvy,toNat_cast,getD_lt _ hi,Xdc,Xgr,e1,e2,jA,Yvv (by omega:i<4294967296),Ywr]
   rw[Xi8 (by simp;omega)];rfl) (fun t ht=>by
   simp only[Xb2.B,Ywc (jB _),Yvx,id]) _ rfl
 have h2:∀ (l:List Xb) (t:Fs_),l.foldl (fun(t:Fs_) x=>(t.1++[x],t.2)) t=(t.1++l,t.2):=by
  intro l
  induction l with
  |nil=>intro t;simp
  |cons x l ih=>intro t;simp[ih]
 simp only[Xb3,Xmk d hd,jA,h,h2];simp
def Xiq (b:UInt8):Bool:=cond (decide ((b.toNat:Int)<97)) true (decide ((b.toNat:Int)>122))
def Xv (s:List UInt8):Int:=cond (s.any Xiq) 5 (cond (s == []) 5 (cond (decide ((s.length:Int)>4)) 2 0))
theorem Xlb (s:List UInt8) (hl:s.length≤2147483648):Xg4 s=some (Xv s):=by
 have h:Xg3 s 0=_:=Yvk s Xiq (5:Int) (fun i hi=>by
  simp only[Xg3.B,Ywh hi,Ywe hi,Yvy,toNat_cast,getD_lt _ hi,jA,Yvv (by omega:i<4294967296),Xiq,Yuz]) (by
  simp only[Xg3.B,Ywc (jB _),Yvx])
 simp only[Xg4,h,jA,Xv];cases s.any Xiq
 ·simp only[Yvx,Yv6,Yu2]
 ·rfl
theorem Xlc (s:List UInt8) (hl:s.length≤2147483648):Xc8 s=some (Xv s):=by
 have h:Xc7 s (s.length:Int) 0=_:=Yvk s Xiq (5:Int) (fun i hi=>by
  simp only[Xc7.B,Ywh hi,Ywe hi,Yvy,toNat_cast,getD_lt _ hi,jA,Yvv (by omega:i<4294967296),Xiq,Yuz]) (by
  simp only[Xc7.B,Ywc (jB _),Yvx])
 simp only[Xc8,h,jA,Xv]
 cases s with
 |nil=>rfl
 |cons b s=>
  rw[show((b::s:List UInt8) == [])=false from rfl];simp only[Yvx];cases (b::s).any Xiq
  ·simp only[Yvx,Yv6,Yu2]
  ·rfl
theorem Xjh {s:List UInt8} (h:Xv s=0):s≠[]∧s.length≤4∧s.any Xiq=false:=by
 unfold Xv at h
 cases h1:s.any Xiq with
 |true=>rw[h1] at h;cases h
 |false=>
  rw[h1] at h
  cases h2:(s == []) with
  |true=>rw[h2] at h;cases h
  |false=>
   rw[h2] at h
   cases h3:decide ((s.length:Int)>4) with
   |true=>rw[h3] at h;cases h
   |false=>exact⟨(by intro e;subst e;cases h2),(by simp at h3;omega),rfl⟩
def Xir:List Int→List Int→Bool
 |_,[]=>false
 |a,x::l=>a.contains x || Xir (a++[x]) l
theorem Xbk {α:Type} (p:α→Bool) (l:List α) {o:Option (Int⊕Unit)} (h:o=some (match Yn8 p 0 l with | some j=>.inl (j:Int) | none=>.inr ())):(o.bind fun o=>sel o (fun b=>some b) (fun c=>some (-1))).bind (fun r=>some (decide (r≥0)))=some (l.any p):=by
 rw[h];exact Xis p l
theorem Xkk (l:List Int) (v:Int) (hl:l.length≤2147483648):Xau l v=some (l.contains v):=by
 have h:Xc6 l v (l.length:Int) 0=_:=Yvl l (fun x=>v == x) (fun i hi=>by
  simp only[Xc6.B,Ywh hi,Ywe hi,Yvy,toNat_cast,getD_lt _ hi,jA,Yvv (by omega:i<4294967296)]) (by
  simp only[Xc6.B,Ywc (jB _),Yvx]) 0 (kE _)
 simp only[Xau,Xgl];rw[Xbk _ _ h,List.any_beq,List.drop_zero]
theorem Xmm (l:List Int) (v:Int) (hl:l.length≤2147483648):Xhl l v=some (l.contains v):=by
 have h:Xha l v 0=_:=Yvk l (fun x=>x == v) true (fun i hi=>by
  simp only[Xha.B,Ywh hi,Ywe hi,Yvy,toNat_cast,getD_lt _ hi,jA,Yvv (by omega:i<4294967296)]) (by
  simp only[Xha.B,Ywc (jB _),Yvx])
 simp only[Xhl,h,jA];rw[←List.any_beq,show(fun x:Int=>x == v)=fun x=>v == x from funext fun x=>Bool.beq_comm]
 cases l.any fun x=>v == x<;>rfl
def Xkc (n:Int):Int:=w64 ((w64 ((w64 (n+8))-1)).tdiv 8)
def Xgw (x:Xb):Int:=cond (!inR x.2.1 1 60) 3 (cond (!inR x.2.2.1 0 32) 3 (cond ((x.2.2.2.1.length:Int) != Xkc x.2.2.1) 1 (cond (x.2.2.2.1.any fun b=>!inR b 0 19) 3 (cond (Xir [] x.2.2.2.1) 7 0))))
theorem Xmn (x:Xb) (hl:x.2.2.2.1.length≤2147483648) (n:Nat) (hn:n<x.2.2.2.1.length):Xe9 x (n:Int) 0=some (cond ((x.2.2.2.1.take n).contains x.2.2.2.1[n]) (.inl 7) (.inr ())):=by
 have h:Xe9 x (n:Int) 0=_:=Yvk (x.2.2.2.1.take n) (fun y=>y == x.2.2.2.1[n]) (7:Int) (fun i hi=>by
  have hi':i<n:=by simp at hi;omega
  simp only[Xe9.B,Ywh hi',Ywe (by omega:i<x.2.2.2.1.length),Ywe hn,Yvy,toNat_cast,getD_lt _ (by omega:i<x.2.2.2.1.length),getD_lt _ hn,jA,Yvv (by omega:i<4294967296),List.getElem_take]) (by
  have:(x.2.2.2.1.take n).length=n:=by simp;omega
  rw[this]
  simp only[Xe9.B,Ywc (jB _),Yvx])
 rw[h,←List.any_beq,show(fun y:Int=>y == x.2.2.2.1[n])=fun y=>x.2.2.2.1[n] == y from funext fun y=>Bool.beq_comm]
theorem Xgd (l:List Int):∀ (k n:Nat),n+k=l.length→Ybw (τ:=Unit) (fun i y _=>cond ((l.take i).contains y) (.inr (.inl 7)) (.inl ())) (fun _=>(.inr ():Int⊕Unit)) n (l.drop n) ()=cond (Xir (l.take n) (l.drop n)) (.inl 7) (.inr ())
 |0,n,h=>by
  have:n=l.length:=by omega
  subst this
  simp[Ybw,Xir]
 |k+1,n,h=>by
  have hn:n<l.length:=by omega
  rw[kZ hn];simp only[Ybw,Xir]
  have e:l.take n++[l[n]]=l.take (n+1):=by simp
  rw[e];cases (l.take n).contains l[n]
  ·simp only[Yvx,Yv5,Bool.false_or];exact Xgd l k (n+1) (by omega)
  ·rfl
theorem Xmo (x:Xb) (hl:x.2.2.2.1.length≤2147483648):Xdw x=some (Xgw x):=by
 have h0:Xg2 x 0=_:=Yvk x.2.2.2.1 (fun b=>!inR b 0 19) (3:Int) (fun i hi=>by
  simp only[Xg2.B,Ywh hi,Ywe hi,Yvy,toNat_cast,getD_lt _ hi,Xjx,jA,Yvv (by omega:i<4294967296)]) (by
  simp only[Xg2.B,Ywc (jB _),Yvx])
 have h1:Xfv x 0=some (cond (Xir [] x.2.2.2.1) (.inl 7) (.inr ())):=by
  have:=Yi3 (τ:=Unit) x.2.2.2.1 (f:=fun s=>Xfv.B x s) (fun i _=>(i:Int)) (fun i y _=>cond ((x.2.2.2.1.take i).contains y) (.inr (.inl 7)) (.inl ())) (fun _=>(.inr ():Int⊕Unit)) (fun i hi t=>by
   simp only[Xfv.B,Ywh hi,Yvy,Xmn x hl i hi,jA,Yvv (by omega:i<4294967296)]
   cases (x.2.2.2.1.take i).contains x.2.2.2.1[i]<;>rfl) (fun t=>by
   simp only[Xfv.B,Ywc (jB _),Yvx]) () (s:=0) rfl
  refine Eq.trans this ?_
  congr 1
  exact Xgd x.2.2.2.1 x.2.2.2.1.length 0 (by omega)
 have h8:(!((8:Int) == 0))=true:=rfl;simp only[Xdw,Xiv,Xiw,Xjx,jA,h8,Yvy,h0,h1,Xgw,Xkc,Yu2];cases inR x.2.1 1 60
 ·rfl
 ·cases inR x.2.2.1 0 32
  ·rfl
  ·simp only[jK,Yvx]
   cases ((x.2.2.2.1.length:Int) != w64 ((w64 ((w64 (x.2.2.1+8))-1)).tdiv 8))
   ·simp only[Yvx]
    cases x.2.2.2.1.any fun b=>!inR b 0 19
    ·simp only[Yvx,Yv6]
     cases Xir [] x.2.2.2.1<;>rfl
    ·rfl
   ·rfl
theorem Xmp (x:Xb) (hl:x.2.2.2.1.length≤2147483648):Xbo x=some (Xgw x):=by
 have h0:Xer x.2.2.2.1 ()=some (x.2.2.2.1.any fun b=>!inR b 0 19):=by
  have h:Xhg x.2.2.2.1 () (x.2.2.2.1.length:Int) 0=_:=Yvl x.2.2.2.1 (fun b=>!inR b 0 19) (fun i hi=>by
   simp only[Xhg.B,Ywh hi,Ywe hi,Yvy,toNat_cast,getD_lt _ hi,Xi2,Xjy,jA,Yvv (by omega:i<4294967296)]) (by
   simp only[Xhg.B,Ywc (jB _),Yvx]) 0 (kE _)
  simp only[Xer,Xhh];exact Xbk _ _ h
 have h1:Xbn x x.2.2.2.1 (x.2.2.2.1.length:Int) 0=some (cond (Xir [] x.2.2.2.1) (.inl 7) (.inr ())):=by
  have:=Yi3 (τ:=Unit) x.2.2.2.1 (f:=fun s=>Xbn.B x x.2.2.2.1 (x.2.2.2.1.length:Int) s) (fun i _=>(i:Int)) (fun i y _=>cond ((x.2.2.2.1.take i).contains y) (.inr (.inl 7)) (.inl ())) (fun _=>(.inr ():Int⊕Unit)) (fun i hi t=>by
   have e1:(decide ((0:Int)≤(i:Int))&&decide ((i:Int)≤(x.2.2.2.1.length:Int)))=true:=by simp;omega
   have e2:=Xkk (x.2.2.2.1.take i) x.2.2.2.1[i] (by simp;omega)
   simp only[Xbn.B,Ywh hi,Ywe hi,Yvy,toNat_cast,getD_lt _ hi,e1,List.drop_zero,e2,jA,Yvv (by omega:i<4294967296)]
   cases (x.2.2.2.1.take i).contains x.2.2.2.1[i]<;>rfl) (fun t=>by
   simp only[Xbn.B,Ywc (jB _),Yvx]) () (s:=0) rfl
  refine Eq.trans this ?_
  congr 1
  exact Xgd x.2.2.2.1 x.2.2.2.1.length 0 (by omega)
 have h8:(!((8:Int) == 0))=true:=rfl;simp only[Xbo,Xi1,Xi0,Xjy,jA,h8,Yvy,h0,h1,Xgw,Xkc,Yu2];cases inR x.2.1 1 60
 ·rfl
 ·cases inR x.2.2.1 0 32
  ·rfl
  ·simp only[jK,Yvx]
   cases ((x.2.2.2.1.length:Int) != w64 ((w64 ((w64 (x.2.2.1+8))-1)).tdiv 8))
   ·simp only[Yvx]
    cases x.2.2.2.1.any fun b=>!inR b 0 19
    ·simp only[Yvx]
     cases Xir [] x.2.2.2.1<;>rfl
    ·rfl
   ·rfl
def Xc2 (prev:Option (List UInt8)) (e:Xe):Int:=
 cond (Xv e.1 != 0) (Xv e.1) (cond (!inR e.2.1 0 9) 3 (match prev with | none=>0 | some p=>cond (leB p e.1) 0 1))
def Xaq:Option (List UInt8)→List Xe→Int
 |_,[]=>0
 |p,e::l=>cond (Xc2 p e != 0) (Xc2 p e) (Xaq (some e.1) l)
def Xhz (x:Xb):Int:=cond (decide ((x.2.2.2.2.1.length:Int)>6)) 2 (Xaq none x.2.2.2.2.1)
theorem Xit:∀ (a b:List UInt8),(leB a b || a == b) = !leB b a
 |[],[]=>rfl
 |[],_::_=>rfl
 |_::_,[]=>by simp[leB]
 |x::a,y::b=>by
  have ih:=Xit a b;simp only[leB]
  by_cases e:x=y
  ·subst e
   have h:¬ x<x:=UInt8.lt_irrefl x;simp only[h,decide_false,Bool.false_or,beq_self_eq_true,Bool.true_and]
   rw[←ih,show(x::a == x::b)=(a == b) by simp]
  ·have e':¬ y=x:=fun h=>e h.symm
   rw[show(x == y)=false by simp[e],show(y == x)=false by simp[e'],show(x::a == y::b)=false by simp[e]]
   simp only[Bool.false_and,Bool.or_false]
   by_cases h1:x<y
   ·have:¬ y<x:=fun h=>absurd (UInt8.lt_trans h1 h) (UInt8.lt_irrefl x)
    simp[h1,this]
   ·have:y<x:=by
     rw[UInt8.lt_iff_toNat_lt] at *;have:x.toNat≠y.toNat:=fun h=>e (UInt8.toNat_inj.1 h);omega
    simp[h1,this]
def Xcv (l:List Xe):Nat→Option (List UInt8)
 |0=>none
 |j+1=>(l[j]?).map (·.1)
theorem Xge (l:List Xe):∀ (k n:Nat),n+k=l.length→Ybw (τ:=Unit) (fun i e _=>cond (Xc2 (Xcv l i) e != 0) (.inr (.inl (Xc2 (Xcv l i) e))) (.inl ())) (fun _=>(.inr ():Int⊕Unit)) n (l.drop n) () =
  cond (Xaq (Xcv l n) (l.drop n) != 0) (.inl (Xaq (Xcv l n) (l.drop n))) (.inr ())
 |0,n,h=>by
  have:n=l.length:=by omega
  subst this
  simp[Ybw,Xaq]
 |k+1,n,h=>by
  have hn:n<l.length:=by omega
  have hp:Xcv l (n+1)=some l[n].1:=by simp[Xcv,hn]
  have ih:=Xge l k (n+1) (by omega)
  rw[hp] at ih;rw[kZ hn];simp only[Ybw,Xaq];generalize Xcv l n=p;cases hc:(Xc2 p l[n] != 0)
  ·simp only[Yvx,Yv5];exact ih
  ·simp only[Yvy,Yv6,hc]
theorem Xmq (x:Xb) (hb:Bd Xd x):Xfx x=some (Xhz x):=by
 simp only[Xfx,Xhz]
 cases hd:decide ((x.2.2.2.2.1.length:Int)>6) with
 |true=>rfl
 |false=>
  have hl:x.2.2.2.2.1.length≤6:=by simp at hd;omega
  have h:Xfw x 0=some (cond (Xaq none x.2.2.2.2.1 != 0) (.inl (Xaq none x.2.2.2.2.1)) (.inr ())):=by
   have:=Yi3 (τ:=Unit) x.2.2.2.2.1 (f:=fun s=>Xfw.B x s) (fun i _=>(i:Int)) (fun i e _=>cond (Xc2 (Xcv x.2.2.2.2.1 i) e != 0) (.inr (.inl (Xc2 (Xcv x.2.2.2.2.1 i) e))) (.inl ())) (fun _=>(.inr ():Int⊕Unit)) (fun i hi t=>by
    have hn:(x.2.2.2.2.1[i]).1.length≤2147483648:=(hb.2.2.2.2.1.2 _ (jE hi)).1
    simp only[Xfw.B,Ywh hi,Ywe hi,Yvy,toNat_cast,getD_lt _ hi,Xjx,Xlb _ hn,jA,Yvv (by omega:i<4294967296)]
    simp only[Xc2];cases hc:(Xv (x.2.2.2.2.1[i]).1 != 0)
    ·simp only[Yvx]
     cases inR (x.2.2.2.2.1[i]).2.1 0 9
     ·rfl
     ·simp only[jK,Yvx]
      cases i with
      |zero=>rfl
      |succ j=>
       have hj:j<x.2.2.2.2.1.length:=by omega
       have hw:w64 (((j+1:Nat):Int)-1)=(j:Int):=by rw[Ysf (by omega) (by omega)];omega
       rw[show decide (((j+1:Nat):Int)>0)=true by simp]
       simp only[Yvy,hw,Ywe hj,toNat_cast,getD_lt _ hj,Xcv,kV hj,jT,Xit]
       cases leB (x.2.2.2.2.1[j]).1 (x.2.2.2.2.1[j+1]).1<;>rfl
    ·simp only[Yvy,hc];rfl) (fun t=>by
    simp only[Xfw.B,Ywc (jB _),Yvx]) () (s:=0) rfl
   refine Eq.trans this ?_
   congr 1
   exact Xge x.2.2.2.2.1 x.2.2.2.2.1.length 0 (by omega)
  rw[h,Yvx,Yvx,Xcw,Xaz]
theorem Xmr (x:Xb) (hb:Bd Xd x):Xbq x=some (Xhz x):=by
 simp only[Xbq,Xhz]
 cases hd:decide ((x.2.2.2.2.1.length:Int)>6) with
 |true=>rfl
 |false=>
  have hl:x.2.2.2.2.1.length≤6:=by simp at hd;omega
  have h:Xbp x x.2.2.2.2.1 (x.2.2.2.2.1.length:Int) 0=some (cond (Xaq none x.2.2.2.2.1 != 0) (.inl (Xaq none x.2.2.2.2.1)) (.inr ())):=by
   have:=Yi3 (τ:=Unit) x.2.2.2.2.1 (f:=fun s=>Xbp.B x x.2.2.2.2.1 (x.2.2.2.2.1.length:Int) s) (fun i _=>(i:Int)) (fun i e _=>cond (Xc2 (Xcv x.2.2.2.2.1 i) e != 0) (.inr (.inl (Xc2 (Xcv x.2.2.2.2.1 i) e))) (.inl ())) (fun _=>(.inr ():Int⊕Unit)) (fun i hi t=>by
    have hn:(x.2.2.2.2.1[i]).1.length≤2147483648:=(hb.2.2.2.2.1.2 _ (jE hi)).1
    simp only[Xbp.B,Ywh hi,Ywe hi,Yvy,toNat_cast,getD_lt _ hi,Xjy,Xlc _ hn,jA,Yvv (by omega:i<4294967296)]
    simp only[Xc2];cases hc:(Xv (x.2.2.2.2.1[i]).1 != 0)
    ·simp only[Yvx]
     cases inR (x.2.2.2.2.1[i]).2.1 0 9
     ·rfl
     ·simp only[jK,Yvx]
      cases i with
      |zero=>rfl
      |succ j=>
       have hj:j<x.2.2.2.2.1.length:=by omega
       have hw:w64 (((j+1:Nat):Int)-1)=(j:Int):=by rw[Ysf (by omega) (by omega)];omega
       rw[show decide (((j+1:Nat):Int)>0)=true by simp]
       simp only[Yvy,hw,Ywe hj,toNat_cast,getD_lt _ hj,Xcv,kV hj,jT]
       cases leB (x.2.2.2.2.1[j]).1 (x.2.2.2.2.1[j+1]).1<;>rfl
    ·simp only[Yvy,hc];rfl) (fun t=>by
    simp only[Xbp.B,Ywc (jB _),Yvx]) () (s:=0) rfl
   refine Eq.trans this ?_
   congr 1
   exact Xge x.2.2.2.2.1 x.2.2.2.2.1.length 0 (by omega)
  rw[h,Yvx,Yvx,Xcw,Xaz]
def Xal (x:Xb):Int:=
 cond (!inR x.1 0 2) 1 (cond (cond (cond (x.1 != 1) (cond (cond (x.2.1 != 0) true (x.2.2.1 != 0)) true (decide ((x.2.2.2.1.length:Int)>0))) false) true (cond (x.1 != 2) (decide ((x.2.2.2.2.1.length:Int)>0)) false)) 1
  (cond (x.1 == 1) (Xgw x) (cond (x.1 == 2) (Xhz x) 0)))
theorem Xms (x:Xb) (hb:Bd Xd x):Xig x=some (Xal x):=by
 simp only[Xig,Xal,Xjx,Xmo x hb.2.2.2.1.1,Xmq x hb,jA];simp only[Yu2]
theorem Xj5 (n:Nat):decide ((n:Int)>0) = !((n:Int) == 0):=by
 rw[Bool.eq_iff_iff];simp only[jI,Bool.not_eq_true',beq_eq_false_iff_ne,ne_eq];omega
theorem not_bne (a b:Int):(a == b) = !(a != b):=(Bool.not_not _).symm
theorem Xmt (x:Xb) (hb:Bd Xd x):Xes x=some (Xal x):=by
 simp only[Xes,Xal,Xjy,Xmp x hb.2.2.2.1.1,Xmr x hb,jA];cases inR x.1 0 2
 ·rfl
 ·simp only[jK,Yvx]
  have e1:(cond (cond (x.2.1 == 0) (x.2.2.1 == 0) false) ((x.2.2.2.1.length:Int) == 0) false) = !(cond (cond (x.2.1 != 0) true (x.2.2.1 != 0)) true (decide ((x.2.2.2.1.length:Int)>0))):=by
   rw[show(x.2.1 != 0) = !(x.2.1 == 0) from rfl,show(x.2.2.1 != 0) = !(x.2.2.1 == 0) from rfl,Xj5]
   cases (x.2.1 == 0)<;>cases (x.2.2.1 == 0)<;>cases ((x.2.2.2.1.length:Int) == 0)<;>rfl
  have e2:(!((x.2.2.2.2.1.length:Int) == 0))=decide ((x.2.2.2.2.1.length:Int)>0):=(Xj5 _).symm;rw[e1,e2,Bool.not_not]
  cases (cond (cond (x.2.1 != 0) true (x.2.2.1 != 0)) true (decide ((x.2.2.2.1.length:Int)>0)))<;>cases h1:(x.1 != 1)<;>cases h2:(x.1 != 2)<;>cases hd:decide ((x.2.2.2.2.1.length:Int)>0)<;>simp only[Yvy,Yvx]
  all_goals (rw[not_bne x.1 1,not_bne x.1 2,h1,h2])
  all_goals simp only[jK,kQ,Yvy,Yvx]
  all_goals first | rfl | skip
  all_goals (
   have hz:x.2.2.2.2.1=[]:=by simp at hd;exact hd
   have:Xhz x=0:=by simp[Xhz,hz,Xaq]
   rw[this])
def Xz (l:List Xb):Int:=cond (decide ((l.length:Int)>10)) 2 (Ygs Xal l)
theorem Xmu (l:List Xb) (hb:Bd (.sl Xd) l):Xfy l=some (Xz l):=by
 simp only[Xfy,Xz]
 cases hd:decide ((l.length:Int)>10) with
 |true=>rfl
 |false=>
  have hl:l.length≤10:=by simp at hd;omega
  have h:Xg5 l 0=_:=Yuj l Xal (fun i hi=>by
   simp only[Xg5.B,Ywh hi,Ywe hi,Yvy,toNat_cast,getD_lt _ hi,Xms _ (hb.2 _ (jE hi)),jA,Yvv (by omega:i<4294967296)]) (by
   simp only[Xg5.B,Ywc (jB _),Yvx])
  rw[h,Yvx,Yvx,Xcw,Xaz]
theorem Xmv (l:List Xb) (hb:Bd (.sl Xd) l):Xbr l=some (Xz l):=by
 simp only[Xbr,Xz]
 cases hd:decide ((l.length:Int)>10) with
 |true=>rfl
 |false=>
  have hl:l.length≤10:=by simp at hd;omega
  have h:Xc9 l (l.length:Int) 0=_:=Yuj l Xal (fun i hi=>by
   simp only[Xc9.B,Ywh hi,Ywe hi,Yvy,toNat_cast,getD_lt _ hi,Xmt _ (hb.2 _ (jE hi)),jA,Yvv (by omega:i<4294967296)]) (by
   simp only[Xc9.B,Ywc (jB _),Yvx])
  rw[h,Yvx,Yvx,Xcw,Xaz]
def Xab (l:List Xb):List Int:=l.flatMap fun x=>x.2.2.2.1
theorem Xbi {x:Xb} (h:Xal x=0):x.2.2.2.1.length≤4∧(∀ b∈x.2.2.2.1,0≤b∧b≤19)∧(x.1≠1→x.2.2.2.1=[])∧(x.1=1→Xgw x=0):=by
 unfold Xal at h
 cases h1:inR x.1 0 2 with
 |false=>rw[h1] at h;cases h
 |true=>
  rw[h1] at h;simp only[jK,Yvx] at h
  by_cases e:x.1=1
  ·rw[show(x.1 != 1)=false by simp[e]] at h
   cases h2:cond (cond false (cond (cond (x.2.1 != 0) true (x.2.2.1 != 0)) true (decide ((x.2.2.2.1.length:Int)>0))) false) true (cond (x.1 != 2) (decide ((x.2.2.2.2.1.length:Int)>0)) false) with
   |true=>rw[h2] at h;cases h
   |false=>
    rw[h2,show(x.1 == 1)=true by simp[e]] at h
    simp only[Yvx,Yvy] at h;have hf:=h;unfold Xgw at h
    cases h3:inR x.2.1 1 60 with
    |false=>rw[h3] at h;cases h
    |true=>
     rw[h3] at h
     cases h4:inR x.2.2.1 0 32 with
     |false=>rw[h4] at h;cases h
     |true=>
      rw[h4] at h;simp only[jK,Yvx] at h
      cases h5:((x.2.2.2.1.length:Int) != Xkc x.2.2.1) with
      |true=>rw[h5] at h;cases h
      |false=>
       rw[h5] at h;simp only[Yvx] at h
       cases h6:(x.2.2.2.1.any fun b=>!inR b 0 19) with
       |true=>rw[h6] at h;cases h
       |false=>
        refine⟨?_,fun b hb=>?_,fun h=>absurd e h,fun _=>hf⟩
        ·have hs:=Xfg.1 h4
         have:(x.2.2.2.1.length:Int)=Xkc x.2.2.1:=by simpa using h5
         unfold Xkc at this
         rw[Ysf (x:=x.2.2.1+8) (by omega) (by omega),Ysf (x:=x.2.2.1+8-1) (by omega) (by omega),Int.tdiv_eq_ediv_of_nonneg (by omega),Ysf (by omega) (by omega)] at this
         omega
        ·have:=List.any_eq_false.1 h6 b hb
         exact Xfg.1 (by simpa using this)
  ·rw[show(x.1 != 1)=true by simp[e]] at h
   cases h2:decide ((x.2.2.2.1.length:Int)>0) with
   |true=>
    rw[h2] at h;simp only[Yvy,Yuz] at h
    cases h
   |false=>
    have hz:x.2.2.2.1=[]:=by simp at h2;exact h2
    exact⟨by simp[hz],by simp[hz],fun _=>hz,fun h=>absurd h e⟩
theorem Xdz {α:Type} {c:α→Int}:∀ {l:List α},Ygs c l=0↔∀ x∈l,c x=0
 |[]=>by simp[Ygs]
 |x::l=>by
  simp only[Ygs,List.mem_cons,forall_eq_or_imp];cases h:(c x != 0)
  ·have:c x=0:=by simpa using h
   simp only[Yvx,this,true_and];exact Xdz
  ·have:c x≠0:=by simpa using h
   simp only[Yvy];exact⟨fun e=>absurd e this,fun e=>absurd e.1 this⟩
theorem Xt {l:List Xb} (h:Xz l=0):l.length≤10∧∀ x∈l,Xal x=0:=by
 unfold Xz at h
 cases h1:decide ((l.length:Int)>10) with
 |true=>rw[h1] at h;cases h
 |false=>rw[h1] at h;exact⟨by simp at h1;omega,Xdz.1 h⟩
structure Xdn (l:List Xb):Prop where
 len:l.length≤10
 blk:∀ x∈l,x.2.2.2.1.length≤4∧∀ b∈x.2.2.2.1,0≤b∧b≤19
theorem Xdn.of {l:List Xb} (h:Xz l=0):Xdn l:=
 ⟨(Xt h).1,fun x hx=>⟨(Xbi ((Xt h).2 x hx)).1,(Xbi ((Xt h).2 x hx)).2.1⟩⟩
theorem Xi3:∀ {l:List Xb},(∀ x∈l,x.2.2.2.1.length≤4)→(Xab l).length≤4*l.length
 |[],h=>by simp[Xab]
 |x::l,h=>by
  have h1:=h x (jF ..);have:=Xi3 (l:=l) fun y hy=>h y (jG _ hy);simp only[Xab,List.flatMap_cons,jP,jH] at *;omega
theorem Xdn.all {l:List Xb} (h:Xdn l):(Xab l).length≤40∧∀ b∈Xab l,0≤b∧b≤19:=by
 refine⟨by have:=Xi3 (l:=l) fun x hx=>(h.blk x hx).1;have:=h.len;omega,fun b hb=>?_⟩
 obtain⟨x,hx,hb⟩:=List.mem_flatMap.1 hb;exact(h.blk x hx).2 b hb
theorem Xmw (l:List Xb) (at_:Int) (i:Nat) (hi:i<l.length) (n:Nat) (hb:l[i].2.2.2.1.length≤4) (hn:n≤1000):Xfa l at_ (i:Int) ((n:Int),0)=some (((n+l[i].2.2.2.1.count at_:Nat):Int)):=by
 have h:=Ymz (τ:=Nat) l[i].2.2.2.1 (f:=fun s=>Xfa.B l at_ (i:Int) s.1 s.2) (fun k m=>((m:Int),(k:Int))) (fun _ y m=>.inl (m+(if y == at_ then 1 else 0))) (fun m=>((m:Nat):Int)) (fun k m=>m≤n+k)
  (fun k hk m hm=>by
   simp only[Xfa.B,Ywe hi,Yvy,toNat_cast,getD_lt _ hi,jA,Ywh hk,Ywe hk,getD_lt _ hk,Yvv (by omega:k<4294967296),Yvv (by omega:m<4294967296),sel]
   cases h:(l[i].2.2.2.1[k] == at_)<;>simp[h])
  (fun k hk m m' hm e=>by cases e;split<;>omega)
  (fun m hm=>by
   simp only[Xfa.B,Ywe hi,Yvy,toNat_cast,getD_lt _ hi,jA,Ywc (jB _),Yvx]) n (by omega) (s:=((n:Int),0)) rfl
 refine Eq.trans h ?_;rw[Yip]
 congr 2
 have:∀ (l:List Int) (m:Nat),l.foldl (fun t y=>t+(if y == at_ then 1 else 0)) m=m+l.count at_:=by
  intro l
  induction l with
  |nil=>intro m;simp
  |cons y l ih=>intro m;rw[kI,ih,List.count_cons];omega
 exact this _ _
theorem Xmx (l:List Xb) (hok:Xdn l) (at_:Int):Xih l at_=some ((((Xab l).count at_:Nat):Int)):=by
 have h:=Ymz (τ:=Nat) l (f:=fun s=>Xfz.B l at_ s.1 s.2) (fun k m=>((m:Int),(k:Int))) (fun _ x m=>.inl (m+x.2.2.2.1.count at_)) (fun m=>((m:Nat):Int)) (fun k m=>m≤4*k)
  (fun k hk m hm=>by
   have hl:=hok.len
   simp only[Xfz.B,Ywh hk,Yvy,Xmw l at_ k hk m (hok.blk _ (jE hk)).1 (by omega),jA,Yvv (by omega:k<4294967296),sel])
  (fun k hk m m' hm e=>by cases e;have:=(hok.blk _ (jE hk)).1;have:=List.count_le_length (a:=at_) (l:=l[k].2.2.2.1);omega)
  (fun m hm=>by simp only[Xfz.B,Ywc (jB _),Yvx]) 0 (by omega) (s:=(0,0)) rfl
 have h':Xfz l at_ (0,0)=_:=h;simp only[Xih,h',jA];rw[Yip]
 have:∀ (l:List Xb) (m:Nat),l.foldl (fun t x=>t+x.2.2.2.1.count at_) m=m+(Xab l).count at_:=by
  intro l
  induction l with
  |nil=>intro m;simp[Xab]
  |cons y l ih=>intro m;rw[kI,ih];simp only[Xab,List.flatMap_cons,List.count_append];omega
 rw[this,jJ]
def r20:List Int:=(List.range 20).map Int.ofNat
theorem Xj6:r20.length=20:=by simp[r20]
theorem Xk1 (k:Nat) (h:k<r20.length):r20[k]=(k:Int):=by simp[r20]
theorem Xk2 (a:Int):a∈r20↔0≤a∧a≤19:=by
 simp only[r20,kS,List.mem_range]
 constructor
 ·rintro⟨k,h1,rfl⟩;simp;omega
 ·intro h;exact⟨a.toNat,by omega,by simp;omega⟩
def Xn2 (l:List Xb):List Int:=r20.filter fun b=>(Xab l).contains b
def Xfi (l:List Xb):Bool:=decide (Xab l).Nodup
theorem Xmy (l:List Xb) (hok:Xdn l):Xf0 l=some (Xn2 l,Xfi l):=by
 have h:=Ymz (τ:=Bool×List Int) r20 (f:=fun s=>Xg6.B l s.1 s.2.1 s.2.2) (fun k t=>(t.1,((k:Int),t.2))) (fun _ b t=>.inl (t.1&&decide ((Xab l).count b≤1),cond ((Xab l).contains b) (t.2++[b]) t.2)) (fun t=>t) (fun k t=>t.2.length≤k)
  (fun k hk t ht=>by
   have hk':k<20:=by rw[Xj6] at hk;exact hk
   rw[Xk1 k hk]
   have h20:decide ((k:Int)<20)=true:=by simp;omega
   simp only[Xg6.B,h20,Yvy,Xmx l hok,jA,Yvv (by omega:k<4294967296),sel]
   have e1:decide ((((Xab l).count (k:Int):Nat):Int)>0)=(Xab l).contains (k:Int):=by
    rw[Bool.eq_iff_iff];simp only[jI,List.contains_iff_mem,←List.count_pos_iff];omega
   have e2:cond t.1 (decide ((((Xab l).count (k:Int):Nat):Int)≤1)) false=(t.1&&decide ((Xab l).count (k:Int)≤1)):=by
    cases t.1
    ·rfl
    ·simp only[Yvy,Bool.true_and];rw[Bool.eq_iff_iff];simp;omega
   rw[e1,e2,Xi8 (by simp;omega)]
   cases (Xab l).contains (k:Int)<;>rfl)
  (fun k hk t t' ht e=>by cases e;simp only;cases (Xab l).contains _<;>simp<;>omega)
  (fun t ht=>by
   rw[Xj6];rfl) (true,[]) (by simp) (s:=(true,0,[])) rfl
 have h':Xg6 l (true,0,[])=_:=h;simp only[Xf0,h',jA];rw[Yip]
 have hf:∀ (m:List Int) (t:Bool×List Int),m.foldl (fun t b=>(t.1&&decide ((Xab l).count b≤1),cond ((Xab l).contains b) (t.2++[b]) t.2)) t=(t.1&&m.all fun b=>decide ((Xab l).count b≤1),t.2++m.filter fun b=>(Xab l).contains b):=by
  intro m
  induction m with
  |nil=>intro t;simp
  |cons b m ih=>
   intro t;rw[kI,ih,List.all_cons,List.filter_cons]
   cases (Xab l).contains b<;>simp[Bool.and_assoc]
 rw[hf];simp only[Bool.true_and,jO]
 congr 2
 rw[Bool.eq_iff_iff];simp only[Xfi,List.all_eq_true,jI,List.nodup_iff_count]
 constructor
 ·intro h a
  by_cases ha:a∈Xab l
  ·have:=hok.all.2 a ha
   exact h a ((Xk2 a).2 this)
  ·rw[List.count_eq_zero.2 ha];omega
 ·intro h a _;exact h a
theorem Xhp (s0:List Int) (k0:Nat) (h0:0<k0) (h1:k0<s0.length) (hl:s0.length≤2147483648):∀ (m j k:Nat) (s:List Int),j+m=s0.length-k0→0<j→s.length=s0.length→k<k0+j→∃ (k':Nat) (s':List Int),Xav k0 (s0.length-k0) ((k:Int),(j:Int),s)=some ((k':Int),s')∧s'.length=s0.length∧k'<s0.length
 |0,j,k,s,hj,h2,h3,h4=>by
  refine⟨k,s,Yar ?_,h3,by omega⟩
  simp only[Xav.B,show decide ((j:Int)<((s0.length-k0:Nat):Int))=false by simp;omega,Yvx]
 |m+1,j,k,s,hj,h2,h3,h4=>by
  have hw:w64 ((j:Int)-1)=((j-1:Nat):Int):=by rw[Ysf (by omega) (by omega)];omega
  have hst:∃ k' s',Xav.B k0 (s0.length-k0) (k:Int) (j:Int) s=some (.inl ((k':Nat),((j+1:Nat):Int),s'))∧s'.length=s0.length∧k'<k0+(j+1):=by
   simp only[Xav.B,show decide ((j:Int)<((s0.length-k0:Nat):Int))=true by simp;omega,Ywe (by omega:j<s0.length-k0),hw,Ywe (by omega:j-1<s0.length-k0),Ywe (by omega:k<s.length),Yvy,jA,toNat_cast,Yvv (by omega:j<4294967296),Yvv (by omega:k<4294967296)]
   cases (s.getD (k0+j) 0 != s.getD (k0+(j-1)) 0)
   ·exact⟨k,s,rfl,h3,by omega⟩
   ·exact⟨k+1,_,rfl,by simpa using h3,by omega⟩
  obtain⟨k1,s1,e1,e2,e3⟩:=hst
  obtain⟨k',s',q1,q2,q3⟩:=Xhp s0 k0 h0 h1 hl m (j+1) k1 s1 (by omega) (by omega) e2 (by omega)
  refine⟨k',s',?_,q2,q3⟩;unfold Xav;rw[Ybb (s':=((k1:Int),((j+1:Nat):Int),s1)) e1];exact q1
theorem Xho (s:List Int) (hl:s.length≤2147483648):∀ (m n:Nat),n+m=s.length→0<n→
  (Xaf s (n:Int)=some (.inr ())∧∀ i,n≤i→(h:i<s.length)→s[i]≠s[i-1])∨(∃ (k:Nat) (s':List Int),Xaf s (n:Int)=some (.inl (0,k-0,s'))∧s'.length=s.length∧k<s.length∧∃ i,n≤i∧∃ h:i<s.length,s[i]=s[i-1])
 |0,n,hn,h0=>by
  have:n=s.length:=by omega
  subst this
  refine .inl ⟨Yar ?_,fun i h1 h2=>by omega⟩
  simp only[Xaf.B,Ywc (jB _),Yvx]
 |m+1,n,hn,h0=>by
  have hlt:n<s.length:=by omega
  have hw:w64 ((n:Int)-1)=((n-1:Nat):Int):=by rw[Ysf (by omega) (by omega)];omega
  by_cases he:s[n]=s[n-1]
  ·refine .inr ?_
   obtain⟨k',s',q1,q2,q3⟩:=Xhp s n h0 hlt hl (s.length-n-1) 1 n s (by omega) (by omega) rfl (by omega)
   refine⟨k',splice s' k' (List.replicate (s'.length-k') 0),Yar ?_,by simp[splice];omega,q3,n,jB _,hlt,he⟩
   have q1':Xav n (s.length-n) ((n:Int),1,s)=some ((k':Int),s'):=q1
   simp only[Xaf.B,Ywh hlt,Ywe hlt,hw,Ywe (by omega:n-1<s.length),Yvy,jA,toNat_cast,getD_lt _ hlt,getD_lt _ (by omega:n-1<s.length),he,beq_self_eq_true,q1']
   rw[show(decide ((0:Int)≤(n:Int))&&decide ((n:Int)≤(s.length:Int)))=true by simp;omega,show(decide ((0:Int)≤(k':Int))&&decide ((k':Int)≤(s'.length:Int)))=true by simp;omega,
    show(decide ((0:Int)≤(k':Int))&&decide ((k':Int)≤((splice s' k' (List.replicate (s'.length-k') 0)).length:Int)))=true by simp[splice];omega]
   rfl
  ·have hst:Xaf.B s (n:Int)=some (.inl ((n+1:Nat):Int)):=by
    simp only[Xaf.B,Ywh hlt,Ywe hlt,hw,Ywe (by omega:n-1<s.length),Yvy,jA,toNat_cast,getD_lt _ hlt,getD_lt _ (by omega:n-1<s.length),Yvv (by omega:n<4294967296)]
    rw[show(s[n] == s[n-1])=false by simp[he]]
    rfl
   unfold Xaf;rw[Ybb (f:=fun s_1=>Xaf.B s s_1) hst]
   rcases Xho s hl m (n+1) (by omega) (by omega) with ⟨q1,q2⟩ | ⟨k,s',q1,q2,q3,i,q4,q5,q6⟩
   ·refine .inl ⟨q1,fun i h1 h2=>?_⟩
    by_cases e:i=n
    ·subst e;exact he
    ·exact q2 i (by omega) h2
   ·exact .inr ⟨k,s',q1,q2,q3,i,by omega,q5,q6⟩
theorem Xjq (s:List Int) (hl:s.length≤2147483648) (hs:s.Pairwise fun a b=>a≤b):∃ r,Xev s=some r∧((r.length:Int) == (s.length:Int))=decide s.Nodup:=by
 simp only[Xev]
 by_cases h2:s.length<2
 ·rw[show decide ((s.length:Int)<2)=true by simp;omega]
  refine⟨s,rfl,?_⟩
  have:s.Nodup:=by
   match s,h2 with
   |[],_=>simp
   |[x],_=>simp
  simp[this]
 ·rw[show decide ((s.length:Int)<2)=false by simp;omega]
  simp only[Yvx]
  have hle:∀ i j,(hij:i≤j)→(hj:j<s.length)→s[i]≤s[j]:=by
   intro i j hij hj;rcases Nat.lt_or_eq_of_le hij with h | h
   ·exact List.pairwise_iff_getElem.1 hs i j _ hj h
   ·subst h;exact Int.le_refl _
  rcases Xho s hl (s.length-1) 1 (by omega) (by omega) with ⟨q1,q2⟩ | ⟨k,s',q1,q2,q3,i,q4,q5,q6⟩
  ·have q1':Xaf s 1=some (.inr ()):=q1
   rw[q1'];refine⟨s,rfl,?_⟩
   have:s.Nodup:=by
    rw[List.Nodup,List.pairwise_iff_getElem];intro i j hi hj hij he
    have h1:=hle i (j-1) (by omega) (by omega)
    have h2:=hle (j-1) j (by omega) hj
    exact q2 j (by omega) hj (by omega)
   simp[this]
  ·have q1':Xaf s 1=some (.inl (0,k-0,s')):=q1
   rw[q1'];refine⟨_,rfl,?_⟩
   have:¬ s.Nodup:=by
    intro hn
    exact List.pairwise_iff_getElem.1 hn (i-1) i (by omega) q5 (by omega) q6.symm
   simp only[this,decide_false]
   have hlen:((List.drop 0 s').take (k-0)).length=k:=by simp;omega
   rw[hlen];simp;omega
def Xfk (l:List Int):List Int:=l.mergeSort fun x y=>decide (x≤y)
theorem Xiu (l:List Int):(Xfk l).Pairwise fun a b=>a≤b:=by
 have:=List.pairwise_mergeSort (le:=fun x y:Int=>decide (x≤y)) (fun a b c h1 h2=>by simp at *;omega) (fun a b=>by simp;omega) l
 simpa [Xfk] using this
theorem Xhv (l:List Int):(Xfk l).Perm l:=List.mergeSort_perm _ _
theorem Xh6 (l:List Int):(Xfk l).length=l.length:=(Xhv l).length_eq
theorem Xkx {l:List Int} (h:l.length≤2147483648):Yt1 l=some (Xfk l):=by
 unfold Yt1 Xfk;rw[Xi8 h];rfl
theorem Xmz (l:List Xb) (hok:Xdn l):Xbt l=some (Xfk (Xab l),Xfi l):=by
 have hall:=hok.all
 have h:Xbs l (l.length:Int) (0,[])=some (l.foldl (fun t x=>t++x.2.2.2.1) []):=
  Yoe l (f:=fun s=>Xbs.B l (l.length:Int) s.1 s.2) (fun t x=>t++x.2.2.2.1) id (fun i t=>t.length≤4*i) (fun i hi t ht=>by
   have h4:=(hok.blk _ (jE hi)).1;have hl:=hok.len
   refine⟨?_,by simp;omega⟩
   simp only[Xbs.B,Ywh hi,Ywe hi,Yvy,toNat_cast,getD_lt _ hi,jA,Yvv (by omega:i<4294967296)]
   rw[Xi8 (by simp;omega)];rfl) (fun t ht=>by
   simp only[Xbs.B,Ywc (jB _),Yvx,id]) [] (by simp)
 have h2:∀ (l:List Xb) (t:List Int),l.foldl (fun t x=>t++x.2.2.2.1) t=t++Xab l:=by
  intro l
  induction l with
  |nil=>intro t;simp[Xab]
  |cons x l ih=>intro t;rw[kI,ih];simp[Xab]
 rw[h2,jO] at h
 obtain⟨r,hr1,hr2⟩:=Xjq (Xfk (Xab l)) (by rw[Xh6];omega) (Xiu _)
 simp only[Xbt,h,jA,Xgn,Xkx (by omega:(Xab l).length≤2147483648),Xdc,Xd7 (by rw[Xh6];omega:(Xfk (Xab l)).length≤2147483648),hr1,hr2]
 congr 2
 rw[Bool.eq_iff_iff];simp only[Xfi,jI];exact(Xhv _).nodup_iff
theorem Xja:∀ {p:Option (List UInt8)} {l:List Xe},Xaq p l=0→∀ e∈l,Xv e.1=0∧0≤e.2.1∧e.2.1≤9
 |p,[],h,e,he=>by cases he
 |p,x::l,h,e,he=>by
  simp only[Xaq] at h
  cases hc:(Xc2 p x != 0) with
  |true=>
   rw[hc] at h
   have:Xc2 p x≠0:=by simpa using hc
   exact absurd h this
  |false=>
   rw[hc] at h;rcases List.mem_cons.1 he with rfl | he
   ·have h0:Xc2 p e=0:=by simpa using hc
    unfold Xc2 at h0
    cases h1:(Xv e.1 != 0) with
    |true=>rw[h1] at h0;exact absurd h0 (by simpa using h1)
    |false=>
     rw[h1] at h0
     cases h2:inR e.2.1 0 9 with
     |false=>rw[h2] at h0;cases h0
     |true=>exact⟨by simpa using h1,Xfg.1 h2⟩
   ·exact Xja h e he
theorem X0 {x:Xb} (h:Xal x=0):(0≤x.1∧x.1≤2)∧x.2.2.2.2.1.length≤6∧(x.1≠2→x.2.2.2.2.1=[])∧(x.1=2→Xhz x=0)∧(x.1≠1→x.2.1=0∧x.2.2.1=0)∧∀ e∈x.2.2.2.2.1,Xv e.1=0∧0≤e.2.1∧e.2.1≤9:=by
 unfold Xal at h
 cases h1:inR x.1 0 2 with
 |false=>rw[h1] at h;cases h
 |true=>
  rw[h1] at h;simp only[jK,Yvx] at h;have hk:=Xfg.1 h1
  have hz:x.1≠1→x.2.1=0∧x.2.2.1=0:=by
   intro e
   rw[show(x.1 != 1)=true by simp[e]] at h
   cases h2:(x.2.1 != 0) with
   |true=>rw[h2] at h;cases h
   |false=>
    cases h3:(x.2.2.1 != 0) with
    |true=>rw[h2,h3] at h;cases h
    |false=>exact⟨by simpa using h2,by simpa using h3⟩
  cases h2:cond (cond (x.1 != 1) (cond (cond (x.2.1 != 0) true (x.2.2.1 != 0)) true (decide ((x.2.2.2.1.length:Int)>0))) false) true (cond (x.1 != 2) (decide ((x.2.2.2.2.1.length:Int)>0)) false) with
  |true=>rw[h2] at h;cases h
  |false=>
   rw[h2] at h
   by_cases e:x.1=2
   ·rw[show(x.1 == 1)=false by simp[e],show(x.1 == 2)=true by simp[e]] at h
    simp only[Yvx,Yvy] at h;have hd:=h;unfold Xhz at h
    cases h3:decide ((x.2.2.2.2.1.length:Int)>6) with
    |true=>rw[h3] at h;cases h
    |false=>
     rw[h3] at h
     exact⟨hk,by simp at h3;omega,fun hh=>absurd e hh,fun _=>hd,hz,Xja h⟩
   ·rw[show(x.1 != 2)=true by simp[e]] at h2
    have:x.2.2.2.2.1=[]:=by
     cases h3:decide ((x.2.2.2.2.1.length:Int)>0) with
     |true=>
      rw[h3] at h2;exfalso
      revert h2
      generalize cond (x.1 != 1) (cond (cond (x.2.1 != 0) true (x.2.2.1 != 0)) true (decide ((x.2.2.2.1.length:Int)>0))) false=b
      cases b<;>intro h2<;>cases h2
     |false=>simp at h3;exact h3
    exact⟨hk,by simp[this],fun _=>this,fun hh=>absurd hh e,hz,by simp[this]⟩
def Xaa (l:List Xb) (e:Xe):Bool:=cond (decide (e.2.1≥(l.length:Int))) true ((l.getD e.2.1.toNat Xa).1 == 0)
def Xd3 (f:Fs_):Int:=cond (Xz f.1 != 0) (Xz f.1) (cond (cond (cond ((f.1.length:Int) == 0) true ((f.1.getD 0 Xa).1 != 2)) true ((f.2.1.length:Int) != 20)) 1 0)
def Xcx (f:Fs_):Int:=cond (Xd3 f != 0) (Xd3 f)
 (cond (f.2.1.any fun b=>decide ((b.length:Int)>8)) 2 (cond (!Xfi f.1) 7 (cond (f.1.any fun x=>x.2.2.2.2.1.any (Xaa f.1)) 4 0)))
structure Xed (l:List Xb):Prop where
 ent:∀ x∈l,x.2.2.2.2.1.length≤6∧∀ e∈x.2.2.2.2.1,0≤e.2.1∧e.2.1≤9
theorem Xed.of {l:List Xb} (h:Xz l=0):Xed l:=
 ⟨fun x hx=>⟨(X0 ((Xt h).2 x hx)).2.1,fun e he=>((X0 ((Xt h).2 x hx)).2.2.2.2.2 e he).2⟩⟩
theorem Xm0 (f:Fs_) (hok:Xdn f.1) (hen:Xed f.1) (n:Nat) (hn:n<f.1.length):Xfb f (n:Int) 0=some (cond (f.1[n].2.2.2.2.1.any (Xaa f.1)) (.inl 4) (.inr ())):=
 Yvk f.1[n].2.2.2.2.1 (f:=fun s=>Xfb.B f (n:Int) s) (Xaa f.1) (4:Int) (fun i hi=>by
  have hx:=hen.ent _ (jE hn);have he:=hx.2 _ (jE hi)
  simp only[Xfb.B,Ywe hn,Yvy,toNat_cast,getD_lt _ hn,jA,Ywh hi,Ywe hi,getD_lt _ hi,Yvv (by omega:i<4294967296),Xaa]
  by_cases hh:(f.1[n].2.2.2.2.1[i]).2.1≥(f.1.length:Int)
  ·rw[show decide ((f.1[n].2.2.2.2.1[i]).2.1≥(f.1.length:Int))=true by simp[hh]];rfl
  ·rw[show decide ((f.1[n].2.2.2.2.1[i]).2.1≥(f.1.length:Int))=false by simp;omega,show inB (f.1[n].2.2.2.2.1[i]).2.1 f.1.length=true from Yug he.1 (by omega)]
   rfl) (by
  simp only[Xfb.B,Ywe hn,Yvy,toNat_cast,getD_lt _ hn,jA,Ywc (jB _),Yvx])
theorem Xm1 (f:Fs_) (hb:Bd Xk f):Xdx f=some (Xcx f):=by
 simp only[Xdx,Xcx,Xd3,Xmu f.1 hb.1,jA]
 cases hi:(Xz f.1 != 0) with
 |true=>simp only[Yvy,hi]
 |false=>
  have h0:Xz f.1=0:=by simpa using hi
  have hok:=Xdn.of h0;have hen:=Xed.of h0;simp only[Yvx]
  have e1:cond (!((f.1.length:Int) == 0)) (inB 0 f.1.length) true=true:=by
   cases hl:((f.1.length:Int) == 0) with
   |true=>rfl
   |false=>exact Ywe (i:=0) (by
     have:(f.1.length:Int)≠0:=by simpa using hl
     omega)
  rw[e1];simp only[Yvy,show(0:Int).toNat=0 from rfl]
  cases hr:cond (cond ((f.1.length:Int) == 0) true ((f.1.getD 0 Xa).1 != 2)) true ((f.2.1.length:Int) != 20) with
  |true=>rfl
  |false=>
   have hd:f.2.1.length=20:=by
    cases h20:((f.2.1.length:Int) != 20) with
    |false=>have:(f.2.1.length:Int)=20:=by simpa using h20
            omega
    |true=>rw[h20] at hr;cases hh:(cond ((f.1.length:Int) == 0) true ((f.1.getD 0 Xa).1 != 2))<;>rw[hh] at hr<;>cases hr
   have h1:Xg7 f 0=_:=Yvk f.2.1 (fun b=>decide ((b.length:Int)>8)) (2:Int) (fun i hi=>by
    simp only[Xg7.B,Ywh hi,Ywe hi,Yvy,toNat_cast,getD_lt _ hi,jA,Yvv (by omega:i<4294967296)]) (by
    simp only[Xg7.B,Ywc (jB _),Yvx])
   have h2:Xg8 f 0=_:=Yvk f.1 (fun x=>x.2.2.2.2.1.any (Xaa f.1)) (4:Int) (fun i hi=>by
    have hl:=hok.len
    simp only[Xg8.B,Ywh hi,Yvy,Xm0 f hok hen i hi,jA,Yvv (by omega:i<4294967296)]
    cases (f.1[i].2.2.2.2.1.any (Xaa f.1))<;>rfl) (by
    simp only[Xg8.B,Ywc (jB _),Yvx])
   simp only[Yvx,h1,h2,jA,Xmy f.1 hok];cases f.2.1.any fun b=>decide ((b.length:Int)>8)
   ·simp only[Yvx,Yv6]
    cases Xfi f.1
    ·rfl
    ·simp only[jK,Yvx]
     cases f.1.any fun x=>x.2.2.2.2.1.any (Xaa f.1)<;>rfl
   ·rfl
theorem Xm2 (f:Fs_) (hb:Bd Xk f):Xet f=some (Xd3 f):=by
 simp only[Xet,Xd3,Xmv f.1 hb.1,jA]
 cases hi:(Xz f.1 != 0) with
 |true=>simp only[Yvy]
 |false=>
  simp only[Yvx]
  have e1:cond (!((f.1.length:Int) == 0)) (inB 0 f.1.length) true=true:=by
   cases hl:((f.1.length:Int) == 0) with
   |true=>rfl
   |false=>exact Ywe (i:=0) (by
     have:(f.1.length:Int)≠0:=by simpa using hl
     omega)
  rw[e1];simp only[Yvy,show(0:Int).toNat=0 from rfl,Yu2]
theorem Xjk {f:Fs_} (h:Xd3 f=0):Xz f.1=0∧0<f.1.length∧(f.1.getD 0 Xa).1=2∧f.2.1.length=20:=by
 unfold Xd3 at h
 cases hi:(Xz f.1 != 0) with
 |true=>rw[hi] at h;exact absurd h (by simpa using hi)
 |false=>
  rw[hi] at h
  refine⟨by simpa using hi,?_⟩
  cases h1:((f.1.length:Int) == 0) with
  |true=>rw[h1] at h;cases h
  |false=>
   rw[h1] at h
   cases h2:((f.1.getD 0 Xa).1 != 2) with
   |true=>rw[h2] at h;cases h
   |false=>
    rw[h2] at h
    cases h3:((f.2.1.length:Int) != 20) with
    |true=>rw[h3] at h;cases h
    |false=>
     have a1:(f.1.length:Int)≠0:=by simpa using h1
     have a3:(f.2.1.length:Int)=20:=by simpa using h3
     exact⟨by omega,by simpa using h2,by omega⟩
theorem Xm3 (f:Fs_) (hok:Xdn f.1) (hen:Xed f.1) (v2 v3:Int) (x:Xb) (hx:x∈f.1):Xa0 f f.1 v2 v3 x.2.2.2.2.1 (x.2.2.2.2.1.length:Int) 0=some (cond (x.2.2.2.2.1.any (Xaa f.1)) (.inl 4) (.inr ())):=
 Yvk x.2.2.2.2.1 (f:=fun s=>Xa0.B f f.1 v2 v3 x.2.2.2.2.1 (x.2.2.2.2.1.length:Int) s) (Xaa f.1) (4:Int) (fun i hi=>by
  have hx:=hen.ent _ hx;have he:=hx.2 _ (jE hi)
  simp only[Xa0.B,Xgo,Yvy,toNat_cast,jA,Ywh hi,Ywe hi,getD_lt _ hi,Yvv (by omega:i<4294967296),Xaa]
  by_cases hh:(x.2.2.2.2.1[i]).2.1≥(f.1.length:Int)
  ·rw[show decide ((x.2.2.2.2.1[i]).2.1≥(f.1.length:Int))=true by simp[hh]];rfl
  ·rw[show decide ((x.2.2.2.2.1[i]).2.1≥(f.1.length:Int))=false by simp;omega,show inB (x.2.2.2.2.1[i]).2.1 f.1.length=true from Yug he.1 (by omega)]
   rfl) (by
  simp only[Xa0.B,Ywc (jB _),Yvx])
theorem Xm4 (f:Fs_) (hb:Bd Xk f):Xax f=some (Xcx f):=by
 simp only[Xax,Xcx,Xm2 f hb,jA]
 cases hi:(Xd3 f != 0) with
 |true=>simp only[Yvy]
 |false=>
  have h0:Xd3 f=0:=by simpa using hi
  obtain⟨g1,g2,g3,g4⟩:=Xjk h0;have hok:=Xdn.of g1;have hen:=Xed.of g1
  have h1:Xeu f.2.1 ()=some (f.2.1.any fun b=>decide ((b.length:Int)>8)):=by
   have h:Xda f.2.1 () (f.2.1.length:Int) 0=_:=Yvl f.2.1 (fun b=>decide ((b.length:Int)>8)) (fun i hi=>by
    simp only[Xda.B,Ywh hi,Ywe hi,Yvy,toNat_cast,getD_lt _ hi,Xgm,jA,Yvv (by omega:i<4294967296)]) (by
    simp only[Xda.B,Ywc (jB _),Yvx]) 0 (kE _)
   simp only[Xeu,Xdb];rw[Xbk _ _ h,List.drop_zero]
  have h2:Xdd f f.1 (f.1.length:Int) 0=_:=Yvk f.1 (fun x=>x.2.2.2.2.1.any (Xaa f.1)) (4:Int) (fun i hi=>by
   have hl:=hok.len
   simp only[Xdd.B,Ywh hi,Ywe hi,Yvy,toNat_cast,getD_lt _ hi,jA,Xm3 f hok hen _ _ _ (jE hi),Yvv (by omega:i<4294967296)]
   cases (f.1[i].2.2.2.2.1.any (Xaa f.1))<;>rfl) (by
   simp only[Xdd.B,Ywc (jB _),Yvx])
  simp only[Yvx,h1,h2,jA,Xmz f.1 hok];cases f.2.1.any fun b=>decide ((b.length:Int)>8)
  ·simp only[Yvx]
   cases Xfi f.1
   ·rfl
   ·simp only[jK,Yvx]
    cases f.1.any fun x=>x.2.2.2.2.1.any (Xaa f.1)<;>rfl
  ·rfl
structure X5 (f:Fs_):Prop where
 inod:Xz f.1=0
 pos:0<f.1.length
 root:(f.1.getD 0 Xa).1=2
 dat:f.2.1.length=20
 dl:∀ b∈f.2.1,b.length≤8
 once:Xfi f.1=true
 ent:∀ x∈f.1,∀ e∈x.2.2.2.2.1,0≤e.2.1∧e.2.1<(f.1.length:Int)∧(f.1.getD e.2.1.toNat Xa).1≠0
theorem X5.of {f:Fs_} (h:Xcx f=0):X5 f:=by
 unfold Xcx at h
 cases hi:(Xd3 f != 0) with
 |true=>rw[hi] at h;exact absurd h (by simpa using hi)
 |false=>
  rw[hi] at h
  obtain⟨g1,g2,g3,g4⟩:=Xjk (by simpa using hi:Xd3 f=0)
  cases h1:(f.2.1.any fun b=>decide ((b.length:Int)>8)) with
  |true=>rw[h1] at h;cases h
  |false=>
   rw[h1] at h
   cases h2:Xfi f.1 with
   |false=>rw[h2] at h;cases h
   |true=>
    rw[h2] at h
    cases h3:(f.1.any fun x=>x.2.2.2.2.1.any (Xaa f.1)) with
    |true=>rw[h3] at h;cases h
    |false=>
     refine⟨g1,g2,g3,g4,fun b hb=>?_,h2,fun x hx e he=>?_⟩
     ·have:=List.any_eq_false.1 h1 b hb
      simp at this;omega
     ·have hh:=List.any_eq_false.1 h3 x hx
      have hh2:(x.2.2.2.2.1.any (Xaa f.1))=false:=by simpa using hh
      have hb:=List.any_eq_false.1 hh2 e he
      have hb2:Xaa f.1 e=false:=by simpa using hb
      have h0:=((Xed.of g1).ent x hx).2 e he;unfold Xaa at hb2
      cases h4:decide (e.2.1≥(f.1.length:Int)) with
      |true=>rw[h4] at hb2;cases hb2
      |false=>
       rw[h4] at hb2
       exact⟨h0.1,by simp at h4;omega,by simpa using hb2⟩
abbrev Xw (l:List Xb) (a:Nat):List Xe:=(l.getD a Xa).2.2.2.2.1
inductive Reach (l:List Xb) (s:Nat):Nat→Prop
 |refl:Reach l s s
 |step {a b:Nat}:Reach l s a→(∃ e∈Xw l a,e.2.1=(b:Int))→Reach l s b
def Xc5 (l:List Xb):Prop:=∀ x∈l,x.2.2.2.2.1.length≤6∧∀ e∈x.2.2.2.2.1,0≤e.2.1∧e.2.1<(l.length:Int)
theorem X5.Xi9 {f:Fs_} (h:X5 f):Xc5 f.1:=fun x hx=>⟨((Xed.of h.inod).ent x hx).1,fun e he=>⟨(h.ent x hx e he).1,(h.ent x hx e he).2.1⟩⟩
theorem Xak {l:List Xb} (h:Xc5 l) {a:Nat} {e:Xe} (he:e∈Xw l a):0≤e.2.1∧e.2.1<(l.length:Int):=by
 unfold Xw at he
 by_cases ha:a<l.length
 ·rw[getD_lt _ ha] at he;exact(h _ (jE ha)).2 e he
 ·rw[kT,List.getElem?_eq_none (by omega)] at he;cases he
theorem Reach.lt {l:List Xb} (h:Xc5 l) {s a:Nat} (hs:s<l.length) (hr:Reach l s a):a<l.length:=by
 induction hr with
 |refl=>exact hs
 |step _ he _=>obtain⟨e,he,h2⟩:=he;have:=Xak h he;omega
abbrev on (b:List Bool) (i:Nat):Prop:=b.getD i false=true
theorem Xc4 {b:List Bool} {i j:Nat}:on (b.set i true) j↔on b j∨(i=j∧i<b.length):=by
 unfold on;rw[kT,kT,List.getElem?_set]
 by_cases e:i=j
 ·subst e
  by_cases h:i<b.length
  ·simp[h]
  ·simp[h]
 ·simp[e]
theorem Xkw {b:List Bool} {i:Nat} (h:on b i):i<b.length:=by
 unfold on at h
 by_cases hh:i<b.length
 ·exact hh
 ·rw[kT,List.getElem?_eq_none (by omega)] at h;cases h
theorem Xlp {b:List Bool} {i:Nat} (h:on b i):b.set i true=b:=by
 have hl:=Xkw h;unfold on at h;rw[getD_lt _ hl] at h
 conv=>lhs;rw[←h]
 exact List.set_getElem_self hl
def Xdm (b:List Bool) (es:List Xe):List Bool:=es.foldl (fun b e=>b.set e.2.1.toNat true) b
theorem Xd9:∀ (es:List Xe) (b:List Bool),(Xdm b es).length=b.length
 |[],b=>rfl
 |e::es,b=>by simp only[Xdm,kI];exact(Xd9 es _).trans (by simp)
theorem Xd2:∀ (es:List Xe) (b:List Bool) (j:Nat),on (Xdm b es) j↔on b j∨(j<b.length∧∃ e∈es,e.2.1.toNat=j)
 |[],b,j=>by simp[Xdm]
 |e::es,b,j=>by
  have ih:=Xd2 es (b.set e.2.1.toNat true) j;have:on (Xdm b (e::es)) j↔on (Xdm (b.set e.2.1.toNat true) es) j:=Iff.rfl;rw[this,ih,Xc4,kC]
  constructor
  ·rintro((h | ⟨h1,h2⟩) | ⟨h1,e',h2,h3⟩)
   ·exact .inl h
   ·exact .inr ⟨by omega,e,jF ..,h1⟩
   ·exact .inr ⟨h1,e',jG _ h2,h3⟩
  ·rintro(h | ⟨h1,e',h2,h3⟩)
   ·exact .inl (.inl h)
   ·rcases List.mem_cons.1 h2 with rfl | h2
    ·exact .inl (.inr ⟨h3,by omega⟩)
    ·exact .inr ⟨h1,e',h2,h3⟩
theorem Xhq:∀ (es:List Xe) (b:List Bool),(∀ e∈es,on b e.2.1.toNat)→Xdm b es=b
 |[],b,h=>rfl
 |e::es,b,h=>by
  simp only[Xdm,kI];rw[Xlp (h e (jF ..))];exact Xhq es b fun x hx=>h x (jG _ hx)
def Xad (l:List Xb):List Nat→List Bool→List Bool
 |[],b=>b
 |i::is,b=>Xad l is (cond (b.getD i false) (Xdm b (Xw l i)) b)
def Xd5 (l:List Xb) (b:List Bool):Prop:=∀ i,on b i→∀ e∈Xw l i,on b e.2.1.toNat
def Xds (l:List Xb) (s:Nat) (b:List Bool):Prop:=∀ j,on b j→Reach l s j
theorem Xeo (l:List Xb):∀ (is:List Nat) (b:List Bool),(Xad l is b).length=b.length
 |[],b=>rfl
 |i::is,b=>by simp only[Xad];rw[Xeo l is];cases b.getD i false<;>simp[Xd9]
theorem Xbj (l:List Xb):∀ (is:List Nat) (b:List Bool) (j:Nat),on b j→on (Xad l is b) j
 |[],b,j,h=>h
 |i::is,b,j,h=>by
  refine Xbj l is _ j ?_;cases b.getD i false
  ·exact h
  ·exact(Xd2 _ _ _).2 (.inl h)
theorem Xfj {l:List Xb} (hl:Xc5 l) {s:Nat}:∀ (is:List Nat) (b:List Bool),Xds l s b→Xds l s (Xad l is b)
 |[],b,h=>h
 |i::is,b,h=>by
  refine Xfj hl is _ ?_;cases hi:b.getD i false
  ·exact h
  ·intro j hj
   rcases(Xd2 _ _ _).1 hj with hj | ⟨_,e,he,h2⟩
   ·exact h j hj
   ·have:=Xak hl he
    exact .step (h i hi) ⟨e,he,by omega⟩
theorem Xg0 {l:List Xb}:∀ (is:List Nat) (b:List Bool) (i:Nat),i∈is→on b i→∀ e∈Xw l i,e.2.1.toNat<b.length→on (Xad l is b) e.2.1.toNat
 |k::is,b,i,hi,hb,e,he,hlt=>by
  rcases List.mem_cons.1 hi with rfl | hi
  ·refine Xbj l is _ _ ?_
   rw[hb];exact(Xd2 _ _ _).2 (.inr ⟨hlt,e,he,rfl⟩)
  ·refine Xg0 is _ i hi ?_ e he ?_
   ·cases b.getD k false
    ·exact hb
    ·exact(Xd2 _ _ _).2 (.inl hb)
   ·cases b.getD k false
    ·exact hlt
    ·simpa [Xd9] using hlt
theorem Xam {l:List Xb}:∀ (is:List Nat) (b:List Bool),Xd5 l b→Xad l is b=b
 |[],b,h=>rfl
 |i::is,b,h=>by
  simp only[Xad];cases hi:b.getD i false
  ·exact Xam is b h
  ·simp only[Yvy]
   rw[Xhq _ _ (h i hi)];exact Xam is b h
theorem Xko:∀ (b c:List Bool),b.length=c.length→(∀ j,on b j→on c j)→b.count true≤c.count true
 |[],[],_,_=>jB _
 |x::b,y::c,hl,h=>by
  have ih:=Xko b c (by simpa using hl) fun j hj=>h (j+1) hj
  have h0:=h 0;simp only[List.count_cons]
  cases x<;>cases y<;>simp[on] at h0 ⊢<;>omega
theorem cnt_lt:∀ (b c:List Bool),b.length=c.length→(∀ j,on b j→on c j)→(∃ j,on c j∧¬ on b j)→b.count true<c.count true
 |[],[],_,_,⟨j,h,_⟩=>by have:=Xkw h;simp at this
 |x::b,y::c,hl,h,⟨j,h1,h2⟩=>by
  have h0:=h 0;simp only[List.count_cons]
  cases j with
  |zero=>
   have ih:=Xko b c (by simpa using hl) fun j hj=>h (j+1) hj
   cases x<;>cases y<;>simp[on] at h1 h2 h0 ⊢<;>omega
  |succ j=>
   have ih:=cnt_lt b c (by simpa using hl) (fun j hj=>h (j+1) hj) ⟨j,h1,h2⟩
   cases x<;>cases y<;>simp[on] at h0 ⊢<;>omega
def X9 (l:List Xb):Nat→List Bool→List Bool
 |0,b=>b
 |n+1,b=>X9 l n (Xad l (List.range l.length) b)
theorem Xej {l:List Xb} (hl:Xc5 l):∀ (n:Nat) (b:List Bool),b.length=l.length→l.length≤n+b.count true→Xd5 l (X9 l n b)∧(X9 l n b).length=l.length∧(∀ j,on b j→on (X9 l n b) j)∧∀ s,Xds l s b→Xds l s (X9 l n b)
 |0,b,hb,hn=>by
  refine⟨fun i hi e he=>?_,hb,fun _ h=>h,fun _ h=>h⟩
  have hall:b.count true=b.length:=by have:=List.count_le_length (a:=true) (l:=b);omega
  have hlt:=(Xak hl he)
  have:b.getD e.2.1.toNat false=b[e.2.1.toNat]'(by omega):=getD_lt _ _
  show b.getD e.2.1.toNat false=true;rw[this]
  exact(List.count_eq_length.1 hall _ (jE _)).symm
 |n+1,b,hb,hn=>by
  simp only[X9];have hlen:=Xeo l (List.range l.length) b
  by_cases hc:Xd5 l b
  ·rw[Xam _ _ hc]
   have:∀ n,X9 l n b=b:=by
    intro n
    induction n with
    |zero=>rfl
    |succ n ih=>simp only[X9];rw[Xam _ _ hc];exact ih
   rw[this];exact⟨hc,hb,fun _ h=>h,fun _ h=>h⟩
  ·obtain⟨i,h1,e,h2,h3⟩:∃ i,on b i∧∃ e∈Xw l i,¬ on b e.2.1.toNat:=by
    unfold Xd5 at hc;simp only[Classical.not_forall] at hc;obtain⟨i,h1,e,h2,h3⟩:=hc;exact⟨i,h1,e,h2,h3⟩
   have hlt:=Xak hl h2;have hi:=Xkw h1
   have hs:=cnt_lt b _ hlen.symm (Xbj l _ b) ⟨_,Xg0 (List.range l.length) b i (List.mem_range.2 (by omega)) h1 e h2 (by omega),h3⟩
   obtain⟨q1,q2,q3,q4⟩:=Xej hl n _ (by omega) (by omega:l.length≤n+(Xad l (List.range l.length) b).count true)
   exact⟨q1,q2,fun j hj=>q3 j (Xbj l _ b j hj),fun s hs=>q4 s (Xfj hl _ _ hs)⟩
open Classical in
noncomputable def Xx (l:List Xb) (s:Nat):List Int:=((List.range l.length).filter fun i=>decide (Reach l s i)).map Int.ofNat
theorem Xjv {l:List Xb} (hl:Xc5 l) {s:Nat} (hs:s<l.length) {a:Nat}:(a:Int)∈Xx l s↔Reach l s a:=by
 unfold Xx;simp only[kS,List.mem_filter,List.mem_range,jI]
 constructor
 ·rintro⟨i,⟨_,h⟩,e⟩
  have:i=a:=Int.ofNat.inj e;subst this;exact h
 ·intro h;exact⟨a,⟨h.lt hl hs,h⟩,rfl⟩
theorem Xlo {l:List Xb} {s:Nat} {v:Int} (h:v∈Xx l s):0≤v∧v<(l.length:Int):=by
 unfold Xx at h;simp only[kS,List.mem_filter,List.mem_range] at h;obtain⟨i,⟨h1,_⟩,rfl⟩:=h;simp;omega
theorem Xhs (l:List Xb) (s:Nat):(Xx l s).length≤l.length:=by
 unfold Xx;rw[kP]
 exact jU (List.length_filter_le _ _) (by simp)
open Classical in
theorem Xht {l:List Xb} {s:Nat} {b:List Bool} (hb:b.length=l.length) (hc:Xd5 l b) (hs:Xds l s b) (h0:on b s):((List.range b.length).filter fun i=>b.getD i false).map Int.ofNat=Xx l s:=by
 unfold Xx;rw[hb]
 congr 1
 refine List.filter_congr fun i hi=>?_;clear hi;rw[Bool.eq_iff_iff,jI]
 constructor
 ·exact hs i
 ·intro h
  induction h with
  |refl=>exact h0
  |step _ he ih=>obtain⟨e,he,h2⟩:=he;have:=hc _ ih e he;rw[h2] at this;exact this
theorem Xkv (b:List Bool) {f:Int×List Int→Option ((Int×List Int)⊕List Int)} (hl:b.length≤1000)
  (hs:∀ (i:Nat) (h:i<b.length) (t:List Int),t.length≤i→f ((i:Int),t)=cond b[i] (some (.inl (((i+1:Nat):Int),t++[(i:Int)]))) (some (.inl (((i+1:Nat):Int),t)))) (he:∀ t,f ((b.length:Int),t)=some (.inr t)) :
  Yam f (0,[])=some (((List.range b.length).filter fun i=>b.getD i false).map Int.ofNat):=by
 have h:=Ymz (τ:=List Int) b (f:=f) (fun i t=>((i:Int),t)) (fun i x t=>.inl (cond x (t++[(i:Int)]) t)) id (fun i t=>t.length≤i)
  (fun i hi t ht=>by rw[hs i hi t ht];cases b[i]<;>rfl) (fun i hi t t' ht e=>by cases e;cases b[i]<;>simp<;>omega) (fun t ht=>he t) [] (by simp) (s:=(0,[])) rfl
 rw[h]
 congr 1
 clear h hs he hl
 have:∀ (m:List Bool) (n:Nat) (t:List Int),Ybw (fun i x t=>.inl (cond x (t++[(i:Int)]) t)) id n m t=t++((List.range' n m.length).filter fun i=>m.getD (i-n) false).map Int.ofNat:=by
  intro m
  induction m with
  |nil=>intro n t;simp[Ybw]
  |cons x m ih=>
   intro n t;simp only[Ybw,Yv5];rw[ih,jH,List.range'_succ,List.filter_cons]
   have e:(List.range' (n+1) m.length).filter (fun i=>(x::m).getD (i-n) false)=(List.range' (n+1) m.length).filter (fun i=>m.getD (i-(n+1)) false):=by
    refine List.filter_congr fun i hi=>?_;have:=(List.mem_range'_1.1 hi).1
    rw[show i-n=(i-(n+1))+1 by omega];rfl
   rw[e]
   cases x<;>simp
 rw[this b 0 [],jO,List.range_eq_range'];rfl
theorem Xm5 (f:Fs_) (hl:Xc5 f.1) (hn:f.1.length≤10) (rd:Int) (i:Nat) (hi:i<f.1.length) (b:List Bool) (hb:b.length=f.1.length):Xec f rd (i:Int) (0,b)=some (cond (b.getD i false) (Xdm b (Xw f.1 i)) b):=by
 have hx:=hl _ (jE hi)
 have he:Xw f.1 i=f.1[i].2.2.2.2.1:=by unfold Xw;rw[getD_lt _ hi]
 cases h0:b.getD i false with
 |false=>
  refine Yar ?_
  simp only[Xec.B,Ywe (by omega:i<b.length),Yvy,toNat_cast,h0,Yvx,jA]
 |true=>
  rw[he]
  have h:=Yoe f.1[i].2.2.2.2.1 (f:=fun s=>Xec.B f rd (i:Int) s.1 s.2) (fun(b:List Bool) e=>b.set e.2.1.toNat true) id (fun k c=>c.length=f.1.length∧on c i) (fun k hk c hc=>by
   have hek:=hx.2 _ (jE hk)
   refine⟨?_,by simpa using hc.1,Xc4.2 (.inl hc.2)⟩
   have h1:c.getD i false=true:=hc.2
   simp only[Xec.B,Ywe (by omega:i<c.length),Yvy,toNat_cast,h1,Ywe hi,getD_lt _ hi,Ywh hk,jA,Ywe hk,getD_lt _ hk,Yvv (by omega:k<4294967296)]
   rw[show inB (f.1[i].2.2.2.2.1[k]).2.1 c.length=true from Yug hek.1 (by omega)];rfl) (fun c hc=>by
   have h1:c.getD i false=true:=hc.2
   simp only[Xec.B,Ywe (by omega:i<c.length),Yvy,toNat_cast,h1,Ywe hi,getD_lt _ hi,Ywc (jB _),jA,Yvx,id]) b ⟨hb,h0⟩
  exact h
theorem Xm6 (f:Fs_) (hl:Xc5 f.1) (hn:f.1.length≤10) (rd:Int) (b:List Bool) (hb:b.length=f.1.length):Xfc f rd (0,b)=some (Xad f.1 (List.range f.1.length) b):=by
 have h:=Ymz (τ:=List Bool) f.1 (f:=fun s=>Xfc.B f rd s.1 s.2) (fun i b=>((i:Int),b)) (fun i x b=>.inl (cond (b.getD i false) (Xdm b (Xw f.1 i)) b)) id (fun i b=>b.length=f.1.length)
  (fun i hi c hc=>by
   simp only[Xfc.B,Ywh hi,Yvy,Xm5 f hl hn rd i hi c hc,jA,Yvv (by omega:i<4294967296),sel]) (fun i hi c c' hc e=>by cases e;cases c.getD i false<;>simp[Xd9,hc]) (fun c hc=>by
   simp only[Xfc.B,Ywc (jB _),Yvx,id]) b hb (s:=(0,b)) rfl
 refine Eq.trans h ?_
 congr 1
 have:∀ (m:List Xb) (n:Nat) (b:List Bool),Ybw (fun i (x:Xb) b=>.inl (cond (b.getD i false) (Xdm b (Xw f.1 i)) b)) id n m b=Xad f.1 (List.range' n m.length) b:=by
  intro m
  induction m with
  |nil=>intro n b;rfl
  |cons x m ih=>intro n b;simp only[Ybw,Yv5,jH,List.range'_succ,Xad];exact ih _ _
 rw[this,List.range_eq_range']
theorem Xm7 (f:Fs_) (hl:Xc5 f.1) (hn:f.1.length≤10) (h0:0<f.1.length):Xii f=some (Xx f.1 0):=by
 have hz:(List.replicate f.1.length false).length=f.1.length:=by simp
 let b0:=(List.replicate f.1.length false).set 0 true
 have hb0:b0.length=f.1.length:=by simp[b0]
 have hon:on b0 0:=Xc4.2 (.inr ⟨rfl,by omega⟩)
 have hcnt:1≤b0.count true:=by
  have:true∈b0:=by
   have h1:b0[0]'(by omega)=true:=by rw[←getD_lt false (by omega:0<b0.length)];exact hon
   rw[←h1];exact jE _
  exact List.count_pos_iff.2 this
 have hsnd:Xds f.1 0 b0:=by
  intro j hj;rcases Xc4.1 hj with h | ⟨rfl,_⟩
  ·unfold on at h;rw[kT,List.getElem?_replicate] at h;split at h<;>simp at h
  ·exact .refl
 obtain⟨q1,q2,q3,q4⟩:=Xej hl f.1.length b0 hb0 (by omega)
 have h1:Xf1 f (0,b0)=some (X9 f.1 f.1.length b0):=by
  have h:=Ymz (τ:=List Bool) f.1 (f:=fun s=>Xf1.B f s.1 s.2) (fun i b=>((i:Int),b)) (fun i x b=>.inl (Xad f.1 (List.range f.1.length) b)) id (fun i b=>b.length=f.1.length)
   (fun i hi c hc=>by
    simp only[Xf1.B,Ywh hi,Yvy,Xm6 f hl hn i c hc,jA,Yvv (by omega:i<4294967296),sel]) (fun i hi c c' hc e=>by cases e;rw[Xeo,hc]) (fun c hc=>by
    simp only[Xf1.B,Ywc (jB _),Yvx,id]) b0 hb0 (s:=(0,b0)) rfl
  refine Eq.trans h ?_
  congr 1
  have:∀ (m:List Xb) (n:Nat) (b:List Bool),Ybw (fun i (x:Xb) b=>.inl (Xad f.1 (List.range f.1.length) b)) id n m b=X9 f.1 m.length b:=by
   intro m
   induction m with
   |nil=>intro n b;rfl
   |cons x m ih=>intro n b;simp only[Ybw,Yv5,jH,X9];exact ih _ _
  exact this _ _ _
 have h3:Xf2 (X9 f.1 f.1.length b0) (0,[])=some (Xx f.1 0):=by
  have h:=Xkv (X9 f.1 f.1.length b0) (f:=fun s=>Xf2.B (X9 f.1 f.1.length b0) s.1 s.2) (by omega) (fun i hi t ht=>by
   simp only[Xf2.B,Ywh hi,Ywe hi,Yvy,toNat_cast,getD_lt _ hi,Yvv (by omega:i<4294967296)]
   rw[Xi8 (by simp;omega)];rfl) (fun t=>by
   simp only[Xf2.B,Ywc (jB _),Yvx])
  refine Eq.trans h ?_;rw[Xht q2 q1 (q4 0 hsnd) (q3 0 hon)]
 simp only[Xii]
 rw[show(decide ((0:Int)≤(f.1.length:Int))&&(decide ((f.1.length:Int)≤(f.1.length:Int))&&decide ((f.1.length:Int)≤2147483648)))=true by simp;omega]
 rw[show((f.1.length:Int)).toNat=f.1.length from toNat_cast _,hz,show inB 0 f.1.length=true from Ywe (i:=0) h0];simp only[Yvy,jA,show(0:Int).toNat=0 from rfl];rw[show(List.replicate f.1.length false).set 0 true=b0 from rfl,h1];simp only[jA,h3]
theorem Xj1:∀ (b:List Bool) (i:Nat),i<b.length→b.getD i false=false→(b.set i true).count false+1=b.count false
 |x::b,0,h,hf=>by
  have:x=false:=by simpa using hf
  subst this;simp
 |x::b,i+1,h,hf=>by
  have ih:=Xj1 b i (by simpa using h) (by simpa using hf)
  simp only[List.set_cons_succ,List.count_cons];omega
theorem Xm8 (l:List Xb) (es:List Xe) (v2:Int) (hv:v2=(es.length:Int)) (seen:List Bool) (op:List Int) (h6:es.length≤6) (ho:op.length≤1000):Xa1 l es v2 seen (0,op)=some (op++es.map fun e=>e.2.1):=by
 subst hv
 exact Yu1 es (f:=fun s=>Xa1.B l es (es.length:Int) seen s.1 s.2) (fun e=>e.2.1) id op.length (fun i hi t ht=>by
  simp only[Xa1.B,Ywh hi,Ywe hi,Yvy,toNat_cast,getD_lt _ hi,Yvv (by omega:i<4294967296)]
  rw[Xi8 (by simp;omega)];rfl) (fun t ht=>by
  simp only[Xa1.B,Ywc (jB _),Yvx,id]) op rfl
theorem Xh0 {op:List Int} (h:0<op.length):op.take (op.length-1)++[op.getD (op.length-1) 0]=op:=by
 have h1:op.length-1<op.length:=by omega
 rw[getD_lt _ h1];have:=List.take_append_drop (op.length-1) op
 rw[kZ h1,show op.length-1+1=op.length by omega,List.drop_length] at this
 exact this
theorem Xkl {l:List Xb} (hl:Xc5 l) (hn:l.length≤10) (s:Nat) (hs:s<l.length):∀ (m:Nat) (seen:List Bool) (op:List Int),7*seen.count false+op.length≤m→m≤100→seen.length=l.length→Xds l s seen→
  (∀ v∈op,∃ a:Nat,v=(a:Int)∧Reach l s a)→(∀ i,on seen i→∀ e∈Xw l i,on seen e.2.1.toNat∨e.2.1∈op)→
  ∃ b,Xao l (seen,op)=some b∧b.length=l.length∧Xd5 l b∧Xds l s b∧(∀ j,on seen j→on b j)∧∀ v∈op,on b v.toNat
 |m,seen,op,hm,hm2,h1,h2,h3,h4=>by
  by_cases ho:op.length=0
  ·have:op=[]:=List.length_eq_zero_iff.1 ho
   subst this
   refine⟨seen,Yar ?_,h1,fun i hi e he=>?_,h2,fun _ h=>h,fun v hv=>by cases hv⟩
   ·simp only[Xao.B];rfl
   ·rcases h4 i hi e he with h | h
    ·exact h
    ·cases h
  ·have hpos:0<op.length:=by omega
   have hw:w64 ((op.length:Int)-1)=((op.length-1:Nat):Int):=by rw[Ysf (by omega) (by omega)];omega
   have hsp:=Xh0 hpos;generalize hv:op.getD (op.length-1) 0=v at hsp;generalize hq:op.take (op.length-1)=q at hsp
   have hql:q.length=op.length-1:=by rw[←hq];simp
   obtain⟨a,rfl,ha⟩:=h3 v (by rw[←hsp];simp)
   have hal:=ha.lt hl hs
   have hB:Xao.B l seen op=cond (seen.getD a false) (some (.inl (seen,q))) (some (.inl (seen.set a true,q++(Xw l a).map fun e=>e.2.1))):=by
    have e6:(Xw l a).length≤6:=by unfold Xw;rw[getD_lt _ hal];exact(hl _ (jE hal)).1
    simp only[Xao.B,show decide ((op.length:Int)>0)=true by simp;omega,Yvy,hw,Ywe (by omega:op.length-1<op.length),toNat_cast,hv,jA]
    rw[show(decide ((0:Int)≤((op.length-1:Nat):Int))&&decide (((op.length-1:Nat):Int)≤(op.length:Int)))=true by rw[jC,jI,jI];omega,List.drop_zero,Nat.sub_zero,hq]
    simp only[Yvy,Ywe (by omega:a<seen.length),Ywe hal,Xm8 l (Xw l a) _ rfl _ q e6 (by omega),jA]
   cases hsn:seen.getD a false with
   |true=>
    rw[hsn] at hB
    obtain⟨b,q1,q2,q3,q4,q5,q6⟩:=Xkl hl hn s hs (m-1) seen q (by omega) (by omega) h1 h2 (fun v hv=>h3 v (by rw[←hsp];simp[hv])) (fun i hi e he=>by
     rcases h4 i hi e he with h | h
     ·exact .inl h
     ·rw[←hsp] at h
      rcases List.mem_append.1 h with h | h
      ·exact .inr h
      ·have:e.2.1=(a:Int):=by simpa using h
       rw[this];exact .inl hsn)
    refine⟨b,?_,q2,q3,q4,q5,fun v hv=>?_⟩
    ·unfold Xao
     rw[Ybb (f:=fun s=>Xao.B l s.1 s.2) (s:=(seen,op)) (s':=(seen,q)) hB];exact q1
    ·rw[←hsp] at hv
     rcases List.mem_append.1 hv with h | h
     ·exact q6 v h
     ·have:v=(a:Int):=by simpa using h
      rw[this];exact q5 a hsn
   |false=>
    rw[hsn] at hB
    have e6:(Xw l a).length≤6:=by unfold Xw;rw[getD_lt _ hal];exact(hl _ (jE hal)).1
    have hc:=Xj1 seen a (by omega) hsn
    have hon:on (seen.set a true) a:=Xc4.2 (.inr ⟨rfl,by omega⟩)
    obtain⟨b,q1,q2,q3,q4,q5,q6⟩:=Xkl hl hn s hs (m-1) (seen.set a true) (q++(Xw l a).map fun e=>e.2.1) (by simp;omega) (by omega) (by simpa using h1) (fun j hj=>by
      rcases Xc4.1 hj with h | ⟨rfl,_⟩
      ·exact h2 j h
      ·exact ha) (fun v hv=>by
      rcases List.mem_append.1 hv with h | h
      ·exact h3 v (by rw[←hsp];simp[h])
      ·obtain⟨e,he,rfl⟩:=List.mem_map.1 h
       have:=Xak hl he
       exact⟨e.2.1.toNat,by omega,.step ha ⟨e,he,by omega⟩⟩) (fun i hi e he=>by
      rcases Xc4.1 hi with h | ⟨rfl,_⟩
      ·rcases h4 i h e he with h | h
       ·exact .inl (Xc4.2 (.inl h))
       ·rw[←hsp] at h
        rcases List.mem_append.1 h with h | h
        ·exact .inr (jW _ h)
        ·have:e.2.1=(a:Int):=by simpa using h
         rw[this];exact .inl hon
      ·exact .inr (kB _ (List.mem_map.2 ⟨e,he,rfl⟩)))
    refine⟨b,?_,q2,q3,q4,fun j hj=>q5 j (Xc4.2 (.inl hj)),fun v hv=>?_⟩
    ·unfold Xao
     rw[Ybb (f:=fun s=>Xao.B l s.1 s.2) (s:=(seen,op)) (s':=(seen.set a true,q++(Xw l a).map fun e=>e.2.1)) hB];exact q1
    ·rw[←hsp] at hv
     rcases List.mem_append.1 hv with h | h
     ·exact q6 v (jW _ h)
     ·have:v=(a:Int):=by simpa using h
      rw[this];exact q5 a hon
termination_by m=>m
decreasing_by all_goals omega
theorem Xld {l:List Xb} (hl:Xc5 l) (hn:l.length≤10) (s:Nat) (hs:s<l.length):Xa2 l (s:Int)=some (Xx l s):=by
 obtain⟨b,q1,q2,q3,q4,_,q6⟩:=Xkl hl hn s hs 71 (List.replicate l.length false) [(s:Int)] (by simp;omega) (by omega) (by simp) (fun j hj=>by
   unfold on at hj;rw[kT,List.getElem?_replicate] at hj;split at hj<;>simp at hj) (fun v hv=>⟨s,by simpa using hv,.refl⟩) (fun j hj=>by
   unfold on at hj;rw[kT,List.getElem?_replicate] at hj;split at hj<;>simp at hj)
 have h2:Xbu (b.length:Int) b (0,[])=some (Xx l s):=by
  have h:=Xkv b (f:=fun s=>Xbu.B (b.length:Int) b s.1 s.2) (by omega) (fun i hi t ht=>by
   simp only[Xbu.B,Ywh hi,Ywe hi,Yvy,toNat_cast,getD_lt _ hi,Yvv (by omega:i<4294967296)]
   rw[Xi8 (by simp;omega)];rfl) (fun t=>by
   simp only[Xbu.B,Ywc (jB _),Yvx])
  refine Eq.trans h ?_;rw[Xht q2 q3 q4 (q6 _ (jF ..))]
 simp only[Xa2]
 rw[show(decide ((0:Int)≤(l.length:Int))&&(decide ((l.length:Int)≤(l.length:Int))&&decide ((l.length:Int)≤2147483648)))=true by simp;omega,show((l.length:Int)).toNat=l.length from toNat_cast _]
 simp only[Yvy,q1,jA,h2]
def Xi4 (l:List Xb):List Int:=l.flatMap fun x=>x.2.2.2.2.1.map fun e=>e.2.1
def Xu (l:List Xb) (a:Int):Int:=(((Xi4 l).count a:Nat):Int)
theorem Xhn (a:Int):∀ (l:List Xe) (m:Nat),l.foldl (fun t e=>t+(if e.2.1 == a then 1 else 0)) m=m+(l.map fun e=>e.2.1).count a
 |[],m=>by simp
 |y::l,m=>by rw[kI,Xhn a l,jS,List.count_cons];omega
theorem Xle (l:List Xb) (hl:∀ x∈l,x.2.2.2.2.1.length≤6) (hn:l.length≤10) (a:Int):Xg9 l a=some (Xu l a):=by
 have h1:∀ (i:Nat) (hi:i<l.length) (n:Nat),n≤1000→Xfd l a (i:Int) ((n:Int),0)=some (((n+(l[i].2.2.2.2.1.map fun e=>e.2.1).count a:Nat):Int)):=by
  intro i hi n hn;have h6:=hl _ (jE hi)
  have h:=Ymz (τ:=Nat) l[i].2.2.2.2.1 (f:=fun s=>Xfd.B l a (i:Int) s.1 s.2) (fun k m=>((m:Int),(k:Int))) (fun _ e m=>.inl (m+(if e.2.1 == a then 1 else 0))) (fun m=>((m:Nat):Int)) (fun k m=>m≤n+k)
   (fun k hk m hm=>by
    simp only[Xfd.B,Ywe hi,Yvy,toNat_cast,getD_lt _ hi,jA,Ywh hk,Ywe hk,getD_lt _ hk,Yvv (by omega:k<4294967296),Yvv (by omega:m<4294967296),sel]
    cases h:((l[i].2.2.2.2.1[k]).2.1 == a)<;>simp[h])
   (fun k hk m m' hm e=>by cases e;split<;>omega)
   (fun m hm=>by
    simp only[Xfd.B,Ywe hi,Yvy,toNat_cast,getD_lt _ hi,jA,Ywc (jB _),Yvx]) n (by omega) (s:=((n:Int),0)) rfl
  refine Eq.trans h ?_;rw[Yip,Xhn]
 have h:=Ymz (τ:=Nat) l (f:=fun s=>Xf3.B l a s.1 s.2) (fun k m=>((m:Int),(k:Int))) (fun _ x m=>.inl (m+(x.2.2.2.2.1.map fun e=>e.2.1).count a)) (fun m=>((m:Nat):Int)) (fun k m=>m≤6*k)
  (fun k hk m hm=>by
   simp only[Xf3.B,Ywh hk,Yvy,h1 k hk m (by omega),jA,Yvv (by omega:k<4294967296),sel])
  (fun k hk m m' hm e=>by cases e;have:=hl _ (jE hk);have:=List.count_le_length (a:=a) (l:=l[k].2.2.2.2.1.map fun e=>e.2.1);simp at this;omega)
  (fun m hm=>by simp only[Xf3.B,Ywc (jB _),Yvx]) 0 (by omega) (s:=(0,0)) rfl
 have h':Xf3 l a (0,0)=_:=h;simp only[Xg9,h',jA];rw[Yip]
 have:∀ (l:List Xb) (m:Nat),l.foldl (fun t x=>t+(x.2.2.2.2.1.map fun e=>e.2.1).count a) m=m+(Xi4 l).count a:=by
  intro l
  induction l with
  |nil=>intro m;simp[Xi4]
  |cons y l ih=>intro m;rw[kI,ih];simp only[Xi4,List.flatMap_cons,List.count_append];omega
 rw[this,jJ];rfl
theorem Xlf (l:List Xb) (hl:∀ x∈l,x.2.2.2.2.1.length≤6) (hn:l.length≤10) (a:Int):Xbw l a=some (Xu l a):=by
 have h1:∀ (v v2:Int) (x:Xb) (h6:x.2.2.2.2.1.length≤6) (n:Nat),n≤1000→Xa3 a l v v2 x.2.2.2.2.1 (x.2.2.2.2.1.length:Int) ((n:Int),0)=some (((n+(x.2.2.2.2.1.map fun e=>e.2.1).count a:Nat):Int)):=by
  intro v v2 x h6 n hn
  have h:=Ymz (τ:=Nat) x.2.2.2.2.1 (f:=fun s=>Xa3.B a l v v2 x.2.2.2.2.1 (x.2.2.2.2.1.length:Int) s.1 s.2) (fun k m=>((m:Int),(k:Int))) (fun _ e m=>.inl (m+(if e.2.1 == a then 1 else 0))) (fun m=>((m:Nat):Int)) (fun k m=>m≤n+k)
   (fun k hk m hm=>by
    simp only[Xa3.B,Yvy,toNat_cast,jA,Ywh hk,Ywe hk,getD_lt _ hk,Yvv (by omega:k<4294967296),Yvv (by omega:m<4294967296),sel]
    cases h:((x.2.2.2.2.1[k]).2.1 == a)<;>simp[h])
   (fun k hk m m' hm e=>by cases e;split<;>omega)
   (fun m hm=>by
    simp only[Xa3.B,Ywc (jB _),Yvx]) n (by omega) (s:=((n:Int),0)) rfl
  refine Eq.trans h ?_;rw[Yip,Xhn]
 have h:=Ymz (τ:=Nat) l (f:=fun s=>Xbv.B a l (l.length:Int) s.1 s.2) (fun k m=>((m:Int),(k:Int))) (fun _ x m=>.inl (m+(x.2.2.2.2.1.map fun e=>e.2.1).count a)) (fun m=>((m:Nat):Int)) (fun k m=>m≤6*k)
  (fun k hk m hm=>by
   simp only[Xbv.B,Ywh hk,Ywe hk,Yvy,toNat_cast,getD_lt _ hk,h1 _ _ _ (hl _ (jE hk)) m (by omega),jA,Yvv (by omega:k<4294967296),sel])
  (fun k hk m m' hm e=>by cases e;have:=hl _ (jE hk);have:=List.count_le_length (a:=a) (l:=l[k].2.2.2.2.1.map fun e=>e.2.1);simp at this;omega)
  (fun m hm=>by simp only[Xbv.B,Ywc (jB _),Yvx]) 0 (by omega) (s:=(0,0)) rfl
 have h':Xbv a l (l.length:Int) (0,0)=_:=h;simp only[Xbw,h',jA];rw[Yip]
 have:∀ (l:List Xb) (m:Nat),l.foldl (fun t x=>t+(x.2.2.2.2.1.map fun e=>e.2.1).count a) m=m+(Xi4 l).count a:=by
  intro l
  induction l with
  |nil=>intro m;simp[Xi4]
  |cons y l ih=>intro m;rw[kI,ih];simp only[Xi4,List.flatMap_cons,List.count_append];omega
 rw[this,jJ];rfl
noncomputable def Xc3 (l:List Xb) (i:Nat) (x:Xb):Bool:=
 cond (x.1 == 0) false (cond (x.1 == 1) (cond (Xu l i != x.2.1) true (!(Xx l 0).contains (i:Int))) (cond ((i:Int) == 0) (cond (Xu l i != 0) true (!(Xx l 0).contains (i:Int))) (cond (Xu l i != 1) true (!(Xx l 0).contains (i:Int)))))
noncomputable def Xar (l:List Xb):Bool:=(List.range l.length).any fun i=>Xc3 l i (l.getD i Xa)
theorem Xgi {α ρ:Type} (l:List α) (d:α) {f:Int→Option (Int⊕(ρ⊕Unit))} (p:Nat→α→Bool) (r:ρ)
  (hs:∀ (i:Nat) (h:i<l.length),f (i:Int)=cond (p i l[i]) (some (.inr (.inl r))) (some (.inl ((i+1:Nat):Int)))) (he:f (l.length:Int)=some (.inr (.inr ()))) :
  Yam f 0=some (cond ((List.range l.length).any fun i=>p i (l.getD i d)) (.inl r) (.inr ())):=by
 refine Yvk (List.range l.length) (fun i=>p i (l.getD i d)) r (fun i hi=>?_) (by rw[kJ];exact he)
 have hi':i<l.length:=by simpa using hi
 rw[hs i hi',kA,getD_lt _ hi']
theorem Xm9 (f:Fs_) (h:X5 f):Xf4 f=some (!Xar f.1):=by
 have hn:=(Xdn.of h.inod).len;have h6:∀ x∈f.1,x.2.2.2.2.1.length≤6:=fun x hx=>((Xed.of h.inod).ent x hx).1;have hrl:=Xhs f.1 0
 have hl:Xhb f (Xx f.1 0) 0=_:=Xgi f.1 Xa (Xc3 f.1) false (fun i hi=>by
  simp only[Xhb.B,Ywh hi,Ywe hi,Yvy,toNat_cast,getD_lt _ hi,Xle f.1 h6 hn,Xmm _ _ (by omega:(Xx f.1 0).length≤2147483648),jA,Yvv (by omega:i<4294967296),Xc3]
  cases (f.1[i].1 == 0)
  ·simp only[Yvx]
   cases (f.1[i].1 == 1)
   ·simp only[Yvx]
    cases ((i:Int) == 0)
    ·simp only[Yvx]
     cases (Xu f.1 (i:Int) != 1)
     ·simp only[Yvx]
     ·rfl
    ·simp only[Yvy]
     cases (Xu f.1 (i:Int) != 0)
     ·simp only[Yvx]
     ·rfl
   ·simp only[Yvy]
    cases (Xu f.1 (i:Int) != f.1[i].2.1)
    ·simp only[Yvx]
    ·rfl
  ·rfl) (by simp only[Xhb.B,Ywc (jB _),Yvx])
 simp only[Xf4,Xm7 f h.Xi9 hn h.pos,jA,hl,Xar]
 cases (List.range f.1.length).any fun i=>Xc3 f.1 i (f.1.getD i Xa)<;>rfl
theorem Xna (f:Fs_) (h:X5 f):Xbx f=some (cond (Xar f.1) 1 0):=by
 have hn:=(Xdn.of h.inod).len;have h6:∀ x∈f.1,x.2.2.2.2.1.length≤6:=fun x hx=>((Xed.of h.inod).ent x hx).1;have hrl:=Xhs f.1 0
 have hl:Xde f f.1 (f.1.length:Int) (Xx f.1 0) 0=_:=Xgi f.1 Xa (Xc3 f.1) (1:Int) (fun i hi=>by
  have hk:=(X0 ((Xt h.inod).2 _ (jE hi))).1
  simp only[Xde.B,Ywh hi,Ywe hi,Yvy,toNat_cast,getD_lt _ hi,Xlf f.1 h6 hn,Xkk _ _ (by omega:(Xx f.1 0).length≤2147483648),jA,Yvv (by omega:i<4294967296),Xc3]
  generalize hx:f.1[i]=x at hk
  by_cases e0:x.1=0
  ·rw[show(x.1 == 0)=true by simp[e0],show(x.1 == 1)=false by simp[e0],show(x.1 == 2)=false by simp[e0],show(x.1 != 0)=false by simp[e0]];rfl
  ·by_cases e1:x.1=1
   ·rw[show(x.1 == 0)=false by simp[e0],show(x.1 == 1)=true by simp[e1],show(x.1 == 2)=false by simp[e1],show(x.1 != 0)=true by simp[e0],show(x.2.1 != Xu f.1 (i:Int))=(Xu f.1 (i:Int) != x.2.1) by rw[bne,bne,Bool.beq_comm]]
    simp only[Yvy,Yvx]
    cases (Xu f.1 (i:Int) != x.2.1)<;>rfl
   ·have e2:x.1=2:=by omega
    rw[show(x.1 == 0)=false by simp[e0],show(x.1 == 1)=false by simp[e1],show(x.1 == 2)=true by simp[e2],show(x.1 != 0)=true by simp[e0]]
    simp only[Yvy,Yvx]
    cases i with
    |zero=>
     rw[show(((0:Nat):Int) == 0)=true from rfl,show decide (((0:Nat):Int)>0)=false from rfl];simp only[Yvy,Yvx]
     cases (Xu f.1 ((0:Nat):Int) != 0)<;>rfl
    |succ j=>
     rw[show(((j+1:Nat):Int) == 0)=false by simp;omega,show decide (((j+1:Nat):Int)>0)=true by simp]
     simp only[Yvy,Yvx]
     cases (Xu f.1 ((j+1:Nat):Int) != 1)<;>rfl) (by simp only[Xde.B,Ywc (jB _),Yvx])
 have hr:Xa2 f.1 0=some (Xx f.1 0):=Xld h.Xi9 hn 0 h.pos;simp only[Xbx,hr,jA,hl,Xar]
 cases (List.range f.1.length).any fun i=>Xc3 f.1 i (f.1.getD i Xa)<;>rfl
def Xjg (a b:Int):Int:=cond (decide (a<b)) a b
theorem Xnb (a b:Int):Xij a b=some (Xjg a b):=by simp only[Xij,Xjg,Yu2]
theorem Xku (a b:Int):cond (decide (a<b)) a b=Xjg b a:=by
 unfold Xjg
 by_cases h1:a<b
 ·rw[show decide (a<b)=true by simp[h1],show decide (b<a)=false by simp;omega];rfl
 ·by_cases h2:b<a
  ·rw[show decide (a<b)=false by simp;omega,show decide (b<a)=true by simp[h2]];rfl
  ·have:a=b:=by omega
   subst this;simp
def Xd4 (x:Xb):Nat→List Int→List Int→List Int
 |_,[],w=>w
 |k,b::bs,w=>Xd4 x (k+1) bs (w.set b.toNat (Xjg 8 (w64 (x.2.2.1-w64 ((k:Int)*8)))))
def Xh7:List Xb→List Int→List Int
 |[],w=>w
 |x::l,w=>Xh7 l (Xd4 x 0 x.2.2.2.1 w)
def Xcy (l:List Xb):List Int:=Xh7 l (List.replicate 20 0)
theorem Xea (x:Xb):∀ (bs:List Int) (k:Nat) (w:List Int),(Xd4 x k bs w).length=w.length
 |[],k,w=>rfl
 |b::bs,k,w=>by simp only[Xd4];rw[Xea x bs];simp
theorem Xh8:∀ (l:List Xb) (w:List Int),(Xh7 l w).length=w.length
 |[],w=>rfl
 |x::l,w=>by simp only[Xh7];rw[Xh8 l,Xea]
theorem Xkh (l:List Xb):(Xcy l).length=20:=by unfold Xcy;rw[Xh8];simp
theorem Xep (x:Xb):∀ (bs:List Int) (k:Nat) (w:List Int),Ybw (fun k b w=>.inl (w.set b.toNat (Xjg 8 (w64 (x.2.2.1-w64 ((k:Int)*8)))))) id k bs w=Xd4 x k bs w
 |[],k,w=>rfl
 |b::bs,k,w=>by simp only[Ybw,Yv5,Xd4];exact Xep x bs _ _
theorem Xeq:∀ (l:List Xb) (k:Nat) (w:List Int),Ybw (fun _ x w=>.inl (Xd4 x 0 x.2.2.2.1 w)) id k l w=Xh7 l w
 |[],k,w=>rfl
 |x::l,k,w=>by simp only[Ybw,Yv5,Xh7];exact Xeq l _ _
theorem Xnc (f:Fs_) (i:Int) (x:Xb) (h4:x.2.2.2.1.length≤4) (hb:∀ b∈x.2.2.2.1,0≤b∧b≤19) (w:List Int) (hw:w.length=20):Xfe f i x (0,w)=some (Xd4 x 0 x.2.2.2.1 w):=by
 have h:=Ymz (τ:=List Int) x.2.2.2.1 (f:=fun s=>Xfe.B f i x s.1 s.2) (fun k w=>((k:Int),w)) (fun k b w=>.inl (w.set b.toNat (Xjg 8 (w64 (x.2.2.1-w64 ((k:Int)*8)))))) id (fun k w=>w.length=20)
  (fun k hk w hw=>by
   have h2:=hb _ (jE hk)
   simp only[Xfe.B,Ywh hk,Ywe hk,Yvy,toNat_cast,getD_lt _ hk,Xnb,jA,Yvv (by omega:k<4294967296),sel]
   rw[show inB (x.2.2.2.1[k]) w.length=true from Yug h2.1 (by omega)];rfl) (fun k hk w w' hw e=>by cases e;simpa using hw) (fun w hw=>by
   simp only[Xfe.B,Ywc (jB _),Yvx,id]) w hw (s:=(0,w)) rfl
 rw[Xep] at h;exact h
theorem Xnd (l:List Xb) (v v2:Int) (v3:List Int) (x:Xb) (h4:x.2.2.2.1.length≤4) (hb:∀ b∈x.2.2.2.1,0≤b∧b≤19) (w:List Int) (hw:w.length=20):Xa4 l v v2 x.2.2.2.1 (x.2.2.2.1.length:Int) v3 x (0,w)=some (Xd4 x 0 x.2.2.2.1 w):=by
 have h:=Ymz (τ:=List Int) x.2.2.2.1 (f:=fun s=>Xa4.B l v v2 x.2.2.2.1 (x.2.2.2.1.length:Int) v3 x s.1 s.2) (fun k w=>((k:Int),w)) (fun k b w=>.inl (w.set b.toNat (Xjg 8 (w64 (x.2.2.1-w64 ((k:Int)*8)))))) id (fun k w=>w.length=20)
  (fun k hk w hw=>by
   have h2:=hb _ (jE hk)
   simp only[Xa4.B,Ywh hk,Ywe hk,Yvy,toNat_cast,getD_lt _ hk,Xku,jA,Yvv (by omega:k<4294967296),sel]
   rw[show inB (x.2.2.2.1[k]) 20=true from Yug h2.1 (by omega)];rfl) (fun k hk w w' hw e=>by cases e;simpa using hw) (fun w hw=>by
   simp only[Xa4.B,Ywc (jB _),Yvx,id]) w hw (s:=(0,w)) rfl
 rw[Xep] at h;exact h
theorem Xne (l:List Xb) (hok:Xdn l):Xew l=some (Xcy l):=by
 have hl:=hok.len
 have h:=Ymz (τ:=List Int) l (f:=fun s=>Xby.B l (l.length:Int) (List.replicate 20 0) s.1 s.2) (fun k w=>((k:Int),w)) (fun _ x w=>.inl (Xd4 x 0 x.2.2.2.1 w)) id (fun k w=>w.length=20)
  (fun k hk w hw=>by
   have h2:=hok.blk _ (jE hk)
   simp only[Xby.B,Ywh hk,Ywe hk,Yvy,toNat_cast,getD_lt _ hk,jA,Xnd l _ _ _ _ h2.1 h2.2 w hw,Yvv (by omega:k<4294967296),sel]) (fun k hk w w' hw e=>by cases e;rw[Xea];exact hw) (fun w hw=>by
   simp only[Xby.B,Ywc (jB _),Yvx,id]) (List.replicate 20 0) (by simp) (s:=(0,List.replicate 20 0)) rfl
 rw[Xeq] at h;have h':Xby l (l.length:Int) (List.replicate 20 0) (0,List.replicate 20 0)=some (Xcy l):=h;simp only[Xew,h',jA]
def Xas (f:Fs_):Bool:=(List.range 20).any fun i=>((f.2.1.getD i []).length:Int) != (Xcy f.1).getD i 0
theorem Xnf (f:Fs_) (h:X5 f):Xdy f=some (!Xas f):=by
 have hok:=Xdn.of h.inod;have hl:=hok.len;have hd:=h.dat
 have h1:=Ymz (τ:=List Int) f.1 (f:=fun s=>Xf5.B f s.1 s.2) (fun k w=>((k:Int),w)) (fun _ x w=>.inl (Xd4 x 0 x.2.2.2.1 w)) id (fun k w=>w.length=20)
  (fun k hk w hw=>by
   have h2:=hok.blk _ (jE hk)
   simp only[Xf5.B,Ywh hk,Ywe hk,Yvy,toNat_cast,getD_lt _ hk,jA,Xnc f _ _ h2.1 h2.2 w hw,Yvv (by omega:k<4294967296),sel]) (fun k hk w w' hw e=>by cases e;rw[Xea];exact hw) (fun w hw=>by
   simp only[Xf5.B,Ywc (jB _),Yvx,id]) (List.replicate 20 0) (by simp) (s:=(0,List.replicate 20 0)) rfl
 rw[Xeq] at h1;have h1':Xf5 f (0,List.replicate 20 0)=some (Xcy f.1):=h1;have hwl:=Xkh f.1
 have h2:Xhc f (Xcy f.1) 0=_:=Xgi f.2.1 [] (fun i b=>(b.length:Int) != (Xcy f.1).getD i 0) false (fun i hi=>by
  simp only[Xhc.B,Ywh hi,Ywe hi,Ywe (by omega:i<(Xcy f.1).length),Yvy,toNat_cast,getD_lt _ hi,jA,Yvv (by omega:i<4294967296)]) (by
  simp only[Xhc.B,Ywc (jB _),Yvx])
 simp only[Xdy];rw[show(decide ((0:Int)≤(20:Int))&&(decide ((20:Int)≤(20:Int))&&decide ((20:Int)≤2147483648)))=true from rfl,show(20:Int).toNat=20 from rfl];simp only[Yvy,h1',jA,h2,Xas,hd]
 cases (List.range 20).any fun i=>((f.2.1.getD i []).length:Int) != (Xcy f.1).getD i 0<;>rfl
theorem Xng (f:Fs_) (h:X5 f):Xbz f=some (cond (Xas f) 1 0):=by
 have hok:=Xdn.of h.inod;have hd:=h.dat
 have h2:Xdt f (Xcy f.1) 0=_:=Yvk (List.range 20) (fun i=>((f.2.1.getD i []).length:Int) != (Xcy f.1).getD i 0) (1:Int) (fun i hi=>by
  have hi':i<20:=by simpa using hi
  simp only[Xdt.B,show decide ((i:Int)<20)=true by simp;omega,Ywe hi',Ywe (by omega:i<f.2.1.length),Yvy,toNat_cast,Xgp,jA,Yvv (by omega:i<4294967296),kA]) (by
  rw[kJ];rfl)
 simp only[Xbz,Xne f.1 hok,jA,h2,Xas]
 cases (List.range 20).any fun i=>((f.2.1.getD i []).length:Int) != (Xcy f.1).getD i 0<;>rfl
noncomputable def fsF (f:Fs_):Int:=cond (Xcx f != 0) (Xcx f) (cond (Xar f.1) 1 (cond (Xas f) 1 0))
theorem Xlg (f:Fs_) (hb:Bd Xk f):Xik f=some (fsF f):=by
 simp only[Xik,fsF,Xm1 f hb,jA]
 cases h:(Xcx f != 0) with
 |true=>simp only[Yvy]
 |false=>
  have ht:=X5.of (by simpa using h:Xcx f=0)
  simp only[Yvx,Xm9 f ht,Xnf f ht,jA,Bool.not_not,Yu2]
theorem Xlh (f:Fs_) (hb:Bd Xk f):Xex f=some (fsF f):=by
 simp only[Xex,fsF,Xm4 f hb,jA]
 cases h:(Xcx f != 0) with
 |true=>simp only[Yvy]
 |false=>
  have ht:=X5.of (by simpa using h:Xcx f=0)
  simp only[Yvx,Xna f ht,Xng f ht,jA]
  cases Xar f.1<;>cases Xas f<;>rfl
structure Xkj (f:Fs_):Prop where
 tree:X5 f
 lnk:Xar f.1=false
 siz:Xas f=false
theorem Xkj.of {f:Fs_} (h:fsF f=0):Xkj f:=by
 unfold fsF at h
 cases h0:(Xcx f != 0) with
 |true=>rw[h0] at h;exact absurd h (by simpa using h0)
 |false=>
  rw[h0] at h
  cases h1:Xar f.1 with
  |true=>rw[h1] at h;cases h
  |false=>
   rw[h1] at h
   cases h2:Xas f with
   |true=>rw[h2] at h;cases h
   |false=>exact⟨X5.of (by simpa using h0),h1,h2⟩
theorem Xfm (k:IntKind):∀ xs:List Int,(xs.map (wt (.int k))).sum=xs.length
 |[]=>rfl
 |x::xs=>by rw[jS,List.sum_cons,Xfm k xs,Yuw,jH];omega
structure X7 (x:Xb):Prop where
 blk:x.2.2.2.1.length≤4
 ent:x.2.2.2.2.1.length≤6
 nam:∀ e∈x.2.2.2.2.1,e.1.length≤4
theorem X7.of {x:Xb} (h:Xal x=0):X7 x:=
 ⟨(Xbi h).1,(X0 h).2.1,fun e he=>(Xjh ((X0 h).2.2.2.2.2 e he).1).2.1⟩
theorem Xlm {α β:Type}:∀ (l:List α) (a:List α) (b:β),l.foldl (fun(t:List α×β) x=>(t.1++[x],t.2)) (a,b)=(a++l,b)
 |[],a,b=>by simp
 |x::l,a,b=>by rw[kI,Xlm l];simp
theorem Xln {α β γ:Type}:∀ (l:List α) (a:β) (b:List α) (c:γ),l.foldl (fun(t:β×List α×γ) x=>(t.1,t.2.1++[x],t.2.2)) (a,b,c)=(a,b++l,c)
 |[],a,b,c=>by simp
 |x::l,a,b,c=>by rw[kI,Xln l];simp
structure FsB (f:Fs_):Prop where
 l:f.1.length≤10
 s:∀ x∈f.1,X7 x
 d:f.2.1.length=20
 dl:∀ b∈f.2.1,b.length≤64
theorem FsB.wt {f:Fs_} (h:FsB f):wt Xk f≤100000:=by
 have e1:∀ w:List Int,(w.map (Mf.wt (.int .i64))).sum=w.length:=fun w=>Xfm .i64 w;have e2:∀ w:List Int,(w.map (Mf.wt (.int .u8))).sum=w.length:=fun w=>Xfm .u8 w
 have h1:=Ytp (Mf.wt Xd) 100 (xs:=f.1) (fun x hx=>by
  have hs:=h.s x hx;have hb:=hs.blk;have he:=hs.ent
  have h2:=Ytp (Mf.wt Xh) 6 (xs:=x.2.2.2.2.1) (fun e hee=>by
   have:=hs.nam e hee
   simp only[Yl9,Yot,Yuw,Ytu];omega)
  have e:Mf.wt Xd x=1+(1+(1+((x.2.2.2.1.map (Mf.wt (.int .i64))).sum+1+((x.2.2.2.2.1.map (Mf.wt Xh)).sum+1+0)))):=rfl;rw[e,e1]
  omega)
 have h2:=Ytp (Mf.wt (.sl (.int .u8))) 65 (xs:=f.2.1) (fun b hb=>by
  have:=h.dl b hb
  rw[Ysi,e2];omega)
 have hl:=h.l;have hd:=h.d;rw[Yl9,Yl9,Ytu,Ysi,Ysi];rw[hd] at h2;have:f.1.length*100≤10*100:=jR _ hl;omega
theorem Xnh {x:Xb} (h:X7 x):Xim x=some x:=by
 have h1:=h.blk;have h2:=h.ent;simp only[Xim,Xiy,jO]
 rw[jZ (by omega:x.2.2.2.1.length≤2147483648)]
 simp only[Yvy,jA]
 rw[jZ (by omega:x.2.2.2.2.1.length≤2147483648)]
 rfl
theorem Xli {f:Fs_} (h:FsB f):Xcz f=some f:=by
 obtain⟨bs,ps,⟨⟩⟩:=f;have hl1:bs.length≤10:=h.l;have hl2:ps.length=20:=h.d
 have h0:Xf9 (bs,ps,()) ([],[],()) (0,([],[],()))=some (bs.foldl (fun(t:Fs_) x=>(t.1++[x],t.2)) ([],[],())):=
  Yoe bs (f:=fun s=>Xf9.B (bs,ps,()) ([],[],()) s.1 s.2) _ (fun t=>t) (fun i t=>t.1.length≤i) (fun i hi t ht=>by
   have hw:=Xnh (h.s _ (jE hi))
   constructor
   ·simp only[Xf9.B,Ywh hi,Ywe hi,Yvy,toNat_cast,getD_lt _ hi,hw,jA,Yvv (by omega:i<4294967296)]
    rw[show decide ((t.1++[(bs[i].1,bs[i].2.1,bs[i].2.2.1,bs[i].2.2.2.1,bs[i].2.2.2.2.1,bs[i].2.2.2.2.2)]).length≤2147483648)=true by simp;omega];rfl
   ·simp;omega) (fun t ht=>by simp only[Xf9.B,Ywc (jB _),Yvx]) _ (jB _)
 have h1:Xga (bs,ps,()) ([],[],()) (0,(bs,[],()))=some (ps.foldl (fun(t:Fs_) x=>(t.1,t.2.1++[x],t.2.2)) (bs,[],())):=
  Yoe ps (f:=fun s=>Xga.B (bs,ps,()) ([],[],()) s.1 s.2) _ (fun t=>t) (fun i t=>t.2.1.length≤i) (fun i hi t ht=>by
   have hw:ps[i].length≤64:=h.dl _ (jE hi)
   constructor
   ·simp only[Xga.B,Ywh hi,Ywe hi,Yvy,toNat_cast,getD_lt _ hi,jO,jZ (show ps[i].length≤2147483648 by omega),jA,Yvv (by omega:i<4294967296)]
    rw[show decide ((t.2.1++[ps[i]]).length≤2147483648)=true by simp;omega];rfl
   ·simp;omega) (fun t ht=>by simp only[Xga.B,Ywc (jB _),Yvx]) _ (jB _)
 rw[Xlm] at h0;rw[Xln] at h1;simp only[jO] at h0 h1;simp only[Xcz,h0,jA,h1]
def Xy (c:UInt8):List UInt8→List UInt8→List (List UInt8)
 |acc,[]=>[acc]
 |acc,b::l=>match b == c with
  |true=>acc::Xy c [] l
  |false=>Xy c (acc++[b]) l
theorem Xkp (c:UInt8):∀ (l acc:List UInt8),(Xy c acc l).length=l.count c+1:=by
 intro l
 induction l with
 |nil=>intro acc;rfl
 |cons b l ih=>
  intro acc;simp only[Xy]
  cases h:b == c with
  |true=>simp only[jH,ih,List.count_cons,h,if_true]
  |false=>simp[ih,List.count_cons,h]
theorem Xi5 (c:UInt8):∀ (m l acc:List UInt8),(∀ x∈m,(x == c)=false)→Xy c acc (m++l)=Xy c (acc++m) l:=by
 intro m
 induction m with
 |nil=>intro l acc h;simp
 |cons b m ih=>
  intro l acc h;simp only[jQ,Xy,h b (jF),ih _ _ (fun x hx=>h x (jG _ hx)),kO,jO]
theorem Xj3 (c:UInt8) (l acc:List UInt8):Xy c acc (c::l)=acc::Xy c [] l:=by simp[Xy]
theorem Xfh (c:UInt8):∀ (l:List UInt8),(Go.Lib.indexByte l c = -1∧l.count c=0∧∀ x∈l,(x == c)=false)∨
  ∃ k:Nat,Go.Lib.indexByte l c=k∧k<l.length∧(∀ x∈l.take k,(x == c)=false)∧l=l.take k++c::l.drop (k+1)∧l.count c=(l.drop (k+1)).count c+1:=by
 intro l
 induction l with
 |nil=>exact .inl ⟨rfl,rfl,fun x hx=>by cases hx⟩
 |cons b l ih=>
  cases h:b == c with
  |true=>
   have e:b=c:=by simpa using h
   subst e
   exact .inr ⟨0,by simp[Go.Lib.indexByte],by simp,by simp,by simp,by simp⟩
  |false=>
   rcases ih with ⟨i1,i2,i3⟩ | ⟨k,i1,i2,i3,i4,i5⟩
   ·refine .inl ⟨by simp[Go.Lib.indexByte,h,i1],by simp[List.count_cons,h,i2],fun x hx=>?_⟩
    rcases List.mem_cons.1 hx with rfl | hx
    ·exact h
    ·exact i3 x hx
   ·refine .inr ⟨k+1,?_,by simpa using i2,fun x hx=>?_,?_,?_⟩
    ·have:¬ ((k:Int) = -1):=by omega
     simp[Go.Lib.indexByte,h,i1,this]
    ·rw[List.take_succ_cons] at hx
     rcases List.mem_cons.1 hx with rfl | hx
     ·exact h
     ·exact i3 x hx
    ·rw[List.take_succ_cons,List.drop_succ_cons,jQ,←i4]
    ·rw[List.drop_succ_cons,List.count_cons,h,i5];simp
theorem Xni (l:List UInt8) (c:UInt8) (hl:l.length≤1048576):Xhw l (c.toNat:Int)=some (Xy c [] l):=by
 have fin:∀ (fr:Int) (out:List (List UInt8)),Xem l (c.toNat:Int) (fr,((l.length+1:Nat):Int),out)=some out:=fun fr out=>by
  refine Yar ?_;simp only[Xem.B]
  rw[show decide (((l.length+1:Nat):Int)≤(l.length:Int))=false by simp;omega]
  rfl
 have key:∀ (m fr i:Nat) (out:List (List UInt8)),m=l.length-i→fr≤i→i≤l.length→out.length≤fr→
   Xem l (c.toNat:Int) ((fr:Int),(i:Int),out)=some (out++Xy c ((l.take i).drop fr) (l.drop i)):=by
  intro m
  induction m with
  |zero=>
   intro fr i out hm h1 h2 h3
   have hi:i=l.length:=by omega
   subst hi;refine(Ybb (s':=(((l.length+1:Nat):Int),((l.length+1:Nat):Int),out++[(l.take l.length).drop fr])) ?_).trans ?_
   ·simp only[Xem.B]
    rw[show decide ((l.length:Int)≤(l.length:Int))=true by simp,show((l.length:Int) == (l.length:Int))=true by simp,
     show(decide ((0:Int)≤(l.length:Int))&&true&&(decide ((0:Int)≤(fr:Int))&&decide ((fr:Int)≤(l.length:Int))))=true by simp;omega]
    simp only[Yvy,jK,Yvx,jA,toNat_cast]
    rw[show decide ((out++[(l.take l.length).drop fr]).length≤2147483648)=true by simp;omega,Yvv (by omega)]
    rfl
   ·refine(fin _ _).trans ?_;simp[Xy]
  |succ m ih=>
   intro fr i out hm h1 h2 h3
   have hlt:i<l.length:=by omega
   have hd:l.drop i=l[i]::l.drop (i+1):=kZ hlt
   have hg:((l.getD (i:Int).toNat 0).toNat:Int)=(l[i].toNat:Int):=by simp[List.getD,hlt]
   have hb:inB (i:Int) l.length=true:=Yug (by omega) (by omega)
   have q1:decide ((i:Int)≤(l.length:Int))=true:=by simp;omega
   have q2:((i:Int) == (l.length:Int))=false:=by simp;omega
   cases hc:l[i] == c with
   |true=>
    have e:l[i]=c:=by simpa using hc
    refine(Ybb (s':=(((i+1:Nat):Int),((i+1:Nat):Int),out++[(l.take i).drop fr])) ?_).trans ?_
    ·simp only[Xem.B]
     rw[q1,q2,hb,hg,e,show((c.toNat:Int) == (c.toNat:Int))=true by simp,
      show(decide ((0:Int)≤(i:Int))&&true&&(decide ((0:Int)≤(fr:Int))&&decide ((fr:Int)≤(i:Int))))=true by simp;omega]
     simp only[Yvy,kQ,Yvx,jA,toNat_cast]
     rw[show decide ((out++[(l.take i).drop fr]).length≤2147483648)=true by simp;omega,Yvv (by omega)]
     rfl
    ·refine(ih (i+1) (i+1) _ (by omega) (jB _) (by omega) (by simp;omega)).trans ?_
     rw[hd,e,Xj3]
     simp
   |false=>
    have ne:¬ l[i].toNat=c.toNat:=fun e=>by
     have:l[i]=c:=UInt8.toNat_inj.1 e;simp[this] at hc
    refine(Ybb (s':=((fr:Int),((i+1:Nat):Int),out)) ?_).trans ?_
    ·simp only[Xem.B]
     rw[q1,q2,hb,hg,show((l[i].toNat:Int) == (c.toNat:Int))=false by simp;omega]
     simp only[Yvy,kQ,Yvx,jA,toNat_cast]
     rw[Yvv (by omega)]
    ·refine(ih fr (i+1) _ (by omega) (by omega) (by omega) h3).trans ?_
     rw[hd];simp only[Xy,hc]
     congr 2
     rw[List.take_succ_eq_append_getElem hlt,List.drop_append_of_le_length (by simp;omega)]
 simp only[Xhw]
 rw[show((0:Int),(0:Int),([]:List (List UInt8)))=(((0:Nat):Int),((0:Nat):Int),[]) from rfl,key l.length 0 0 [] (by omega) (jB _) (kE _) (jB _)]
 rfl
theorem Xnj (l:List UInt8) (c:UInt8):Xe0 l [c]=some (Go.Lib.indexByte l c):=by
 have h1:Xn l ((([c]:List UInt8).getD (0:Int).toNat 0).toNat:Int)=some (Go.Lib.indexByte l c):=by
  show some (Go.Lib.indexByte l (c.toNat:Int).toNat.toUInt8)=_
  congr 2
  simp
 simp only[Xe0,Xo,jA]
 cases h:([c]:List UInt8) == l with
 |true=>
  have e:[c]=l:=by simpa using h
  subst e
  simp[Go.Lib.indexByte]
 |false=>
  rw[h1];simp[inB]
theorem Xnk (l:List UInt8) (c:UInt8) (hl:l.length≤1048576):Xe1 l [c]=some (Xy c [] l):=by
 have hcl:l.count c≤l.length:=List.count_le_length
 have key:∀ (m:Nat) (s:List UInt8) (i:Nat) (dn:List (List UInt8)),m=s.count c→i+m=l.count c→dn.length=i→dn++Xy c [] s=Xy c [] l→s.length≤l.length→
   ∃ s' dn',Xb4 [c] 0 (l.count c:Int) (s,(i:Int),dn++List.replicate (m+1) [])=some (s',(l.count c:Int),dn'++[([]:List UInt8)])∧dn'.length=l.count c∧dn'++[s']=Xy c [] l:=by
  intro m
  induction m with
  |zero=>
   intro s i dn hm hi hd hc hs
   refine⟨s,dn,Yar ?_,by omega,?_⟩
   ·simp only[Xb4.B]
    rw[show decide ((i:Int)<(l.count c:Int))=false by simp;omega]
    have:(i:Int)=(l.count c:Int):=by omega
    simp[this]
   ·rw[←hc]
    rcases Xfh c s with ⟨_,_,q⟩ | ⟨k,_,_,_,_,q⟩
    ·have:=Xi5 c s [] [] q
     simp only[qC,jO] at this;rw[this];rfl
    ·omega
  |succ m ih=>
   intro s i dn hm hi hd hc hs;rcases Xfh c s with ⟨_,q,_⟩ | ⟨k,k1,k2,k3,k4,k5⟩
   ·omega
   ·obtain⟨s',dn',r1,r2,r3⟩:=ih (s.drop (k+1)) (i+1) (dn++[s.take k]) (by omega) (by omega) (by simp;omega)
     (by
      rw[←hc,kO]
      congr 1
      conv=>rhs;rw[k4]
      rw[Xi5 c _ _ _ k3,Xj3]
      simp) (by simp;omega)
    refine⟨s',dn',(Ybb ?_).trans r1,r2,r3⟩;have hcl2:=hcl;simp only[Xb4.B,Xnj,jA,k1]
    have e0:w64 ((k:Int)+0)=(k:Int):=Ysf (by omega) (by omega)
    have e1:w64 ((k:Int)+(([c]:List UInt8).length:Int))=((k+1:Nat):Int):=by
     rw[show((k:Int)+(([c]:List UInt8).length:Int))=((k+1:Nat):Int) by simp]
     exact Ysf (by omega) (by omega)
    rw[show decide ((i:Int)<(l.count c:Int))=true by simp;omega,show decide ((k:Int)<0)=false by simp,e0,e1,
     show(decide ((0:Int)≤(k:Int))&&decide ((k:Int)≤(s.length:Int)))=true by simp;omega,
     show inB (i:Int) (dn++List.replicate (m+1+1) ([]:List UInt8)).length=true from Yug (by omega) (by simp;omega),
     show(decide ((0:Int)≤((k+1:Nat):Int))&&decide (((k+1:Nat):Int)≤(s.length:Int)))=true by simp;omega,
     Yvv (by omega)]
    simp only[Yvy,Yvx,jA,toNat_cast,List.drop_zero,List.take_length]
    have e2:(dn++List.replicate (m+1+1) ([]:List UInt8)).set i (s.take k)=(dn++[s.take k])++List.replicate (m+1) []:=by
     rw[List.set_append,jM (by omega),hd,Nat.sub_self,List.replicate_succ]
     simp
    rw[e2]
 obtain⟨s',dn',r1,r2,r3⟩:=key (l.count c) l 0 [] rfl (by omega) rfl rfl (jB _)
 have hv:(cond (decide (w64 ((l.length:Int)+1)<w64 ((l.count c:Int)+1))) (w64 ((l.length:Int)+1)) (w64 ((l.count c:Int)+1)))=((l.count c+1:Nat):Int):=by
  rw[show((l.length:Int)+1)=((l.length+1:Nat):Int) by simp,show((l.count c:Int)+1)=((l.count c+1:Nat):Int) by simp,Ysf (x:=((l.length+1:Nat):Int)) (by omega) (by omega),Ysf (x:=((l.count c+1:Nat):Int)) (by omega) (by omega)]
  rw[show decide (((l.length+1:Nat):Int)<((l.count c+1:Nat):Int))=false by simp;omega]
  rfl
 simp only[Xe1,Xdf,Xhj,countP,jA]
 rw[hv,show w64 (((l.count c+1:Nat):Int)-1)=(l.count c:Int) by rw[Ysf (by omega) (by omega)];omega]
 rw[show((-1:Int) == 0)=false by rfl,show(([c]:List UInt8) == [])=false by rfl,show decide ((-1:Int)<0)=true by rfl,
  show(decide ((0:Int)≤((l.count c+1:Nat):Int))&&(decide (((l.count c+1:Nat):Int)≤((l.count c+1:Nat):Int))&&decide (((l.count c+1:Nat):Int)≤2147483648)))=true by simp;omega]
 simp only[Yvy,Yvx,toNat_cast];simp only[jO] at r1;rw[show((0:Int))=((0:Nat):Int) from rfl] at *;rw[r1];simp only[jA,toNat_cast]
 rw[show inB (l.count c:Int) (dn'++[([]:List UInt8)]).length=true from Yug (by omega) (by simp;omega),Yvv (by omega)]
 have e2:(dn'++[([]:List UInt8)]).set (l.count c) s'=Xy c [] l:=by
  rw[List.set_append,jM (by omega),r2,Nat.sub_self,←r3];rfl
 have e3:(Xy c [] l).length=l.count c+1:=Xkp c l []
 rw[e2,e3,show(decide (((0:Nat):Int)≤((l.count c+1:Nat):Int))&&decide (((l.count c+1:Nat):Int)≤((l.count c+1:Nat):Int)))=true by simp;omega]
 simp only[Yvy,jA,toNat_cast,List.drop_zero,Nat.sub_zero];rw[←e3,List.take_length]
def Xc (l:List Xb) (a:Int):List Xe:=(l.getD a.toNat Xa).2.2.2.2.1
def Xn9 (ns:List (List UInt8)):List UInt8:=(ns.map fun n=>47::n).flatten
structure Xdo (l:List Xb):Prop where
 len:l.length≤10
 pos:0<l.length
 six:∀ x∈l,x.2.2.2.2.1.length≤6
 fil:∀ x∈l,x.1≠2→x.2.2.2.2.1=[]
 nam:∀ x∈l,∀ e∈x.2.2.2.2.1,Xv e.1=0
 ent:∀ x∈l,∀ e∈x.2.2.2.2.1,0≤e.2.1∧e.2.1<(l.length:Int)
theorem Xdo.of {f:Fs_} (h:X5 f):Xdo f.1 where
 len:=(Xdn.of h.inod).len
 pos:=h.pos
 six:=fun x hx=>(X0 ((Xt h.inod).2 x hx)).2.1
 fil:=fun x hx=>(X0 ((Xt h.inod).2 x hx)).2.2.1
 nam:=fun x hx e he=>((X0 ((Xt h.inod).2 x hx)).2.2.2.2.2 e he).1
 ent:=fun x hx e he=>⟨(h.ent x hx e he).1,(h.ent x hx e he).2.1⟩
theorem getD_in {l:List Xb} {a:Int} (h0:0≤a) (h1:a<(l.length:Int)):l.getD a.toNat Xa∈l:=by
 have h:a.toNat<l.length:=by omega
 rw[getD_lt _ h];exact jE h
theorem Xdo.at_ {l:List Xb} (h:Xdo l) {a:Int} (h0:0≤a) (h1:a<(l.length:Int)) :
  (Xc l a).length≤6∧((l.getD a.toNat Xa).1≠2→Xc l a=[])∧∀ e∈Xc l a,Xv e.1=0∧0≤e.2.1∧e.2.1<(l.length:Int):=
 have hm:=getD_in h0 h1
 ⟨h.six _ hm,h.fil _ hm,fun e he=>⟨h.nam _ hm e he,(h.ent _ hm e he).1,(h.ent _ hm e he).2⟩⟩
theorem Xh2 {α ρ:Type} (p:α→Bool) (g:α→ρ):∀ (l:List α) (i:Nat),Ybw (τ:=Unit) (fun _ x _=>cond (p x) (.inr (.inl (g x))) (.inl ())) (fun _=>(.inr ():ρ⊕Unit)) i l ()=(match l.find? p with | some x=>.inl (g x) | none=>.inr ())
 |[],i=>rfl
 |x::l,i=>by
  simp only[Ybw,List.find?_cons]
  cases h:p x with
  |true=>rfl
  |false=>simp only[cond_false,sel];exact Xh2 p g l (i+1)
theorem Xkt {α ρ:Type} (l:List α) {f:Int→Option (Int⊕(ρ⊕Unit))} (p:α→Bool) (g:α→ρ)
  (hs:∀ (i:Nat) (h:i<l.length),f (i:Int)=cond (p l[i]) (some (.inr (.inl (g l[i])))) (some (.inl ((i+1:Nat):Int)))) (he:f (l.length:Int)=some (.inr (.inr ()))) :
  Yam f 0=some (match l.find? p with | some x=>.inl (g x) | none=>.inr ()):=by
 have h:=Yi3 (τ:=Unit) l (fun i _=>(i:Int)) (fun _ x _=>cond (p x) (.inr (.inl (g x))) (.inl ())) (fun _=>(.inr ():ρ⊕Unit)) (fun i hi t=>by rw[hs i hi];cases (p l[i])<;>rfl) (fun t=>he) () (s:=0) rfl
 rw[h,Xh2]
def Xp (es:List Xe) (n:List UInt8):Int:=match es.find? (fun e=>e.1 == n) with | some e=>e.2.1 | none=>-1
theorem Xd0 {α:Type} (p:α→Bool) (d:α):∀ (l:List α) (i:Nat),(match Yn8 p i l with | some j=>(l.find? p=some (l.getD (j-i) d)∧i≤j∧j-i<l.length) | none=>l.find? p=none)
 |[],i=>rfl
 |x::l,i=>by
  simp only[Yn8,List.find?_cons]
  cases h:p x with
  |true=>simp
  |false=>
   simp only[cond_false];have ih:=Xd0 p d l (i+1)
   cases hj:Yn8 p (i+1) l with
   |none=>rw[hj] at ih;exact ih
   |some j=>
    rw[hj] at ih;obtain⟨h1,h2,h3⟩:=ih
    have e:j-i=(j-(i+1))+1:=by omega
    refine⟨?_,by omega,by simp only[jH];omega⟩
    rw[h1,e];simp[List.getD]
theorem Xjz (f:Fs_) (a:Int) (n:List UInt8) (h0:0≤a) (h1:a<(f.1.length:Int)) (hl:(Xc f.1 a).length≤6):Xaw f a n=some (Xp (Xc f.1 a) n):=by
 have h:Xdg n (Xc f.1 a) ((Xc f.1 a).length:Int) 0=_:=Xkt (Xc f.1 a) (fun e=>e.1 == n) (fun e=>e.2.1) (fun i hi=>by
  simp only[Xdg.B,Ywh hi,Ywe hi,Yvy,toNat_cast,getD_lt _ hi,Yvv (by omega:i<4294967296)]) (by
  simp only[Xdg.B,Ywc (jB _),Yvx])
 simp only[Xaw,Yug h0 h1,Yvy,jA];unfold Xp
 exact(congrArg (fun o=>Option.bind o fun o=>sel o (fun b=>some b) (fun c=>some (-1))) h).trans (by cases (Xc f.1 a).find? (fun e=>e.1 == n)<;>rfl)
theorem Xlj (es:List Xe) (n:List UInt8) (hl:es.length≤6):Xct es n=some (match Yn8 (fun e=>e.1 == n) 0 es with | some j=>(j:Int) | none=>-1):=by
 have h:Xhe es n 0=_:=Yvl es (fun e=>e.1 == n) (fun i hi=>by
  simp only[Xhe.B,Ywh hi,Ywe hi,Yvy,toNat_cast,getD_lt _ hi,Yvv (by omega:i<4294967296)]) (by
  simp only[Xhe.B,Ywc (jB _),Yvx]) 0 (kE _)
 simp only[Xct];rw[h,List.drop_zero]
 cases Yn8 (fun e=>e.1 == n) 0 es<;>rfl
def Xaj (l:List Xb):List (List UInt8)→Int→Int×Int
 |[],a=>(a,0)
 |n::ns,a=>cond ((l.getD a.toNat Xa).1 != 2) (0,9) (cond (decide (Xp (Xc l a) n<0)) (0,4) (Xaj l ns (Xp (Xc l a) n)))
theorem Xcu {l:List Xb} (h:Xdo l) {a:Int} (h0:0≤a) (h1:a<(l.length:Int)) (n:List UInt8) (hn:decide (Xp (Xc l a) n<0)=false):0≤Xp (Xc l a) n∧Xp (Xc l a) n<(l.length:Int):=by
 unfold Xp at *
 cases hf:(Xc l a).find? (fun e=>e.1 == n) with
 |none=>rw[hf] at hn;simp at hn
 |some e=>exact((h.at_ h0 h1).2.2 e (List.mem_of_find?_eq_some hf)).2
def Xel (l:List Xb) (n:List UInt8) (a:Int):Int⊕((Int×Int)⊕Int):=cond ((l.getD a.toNat Xa).1 != 2) (.inr (.inl (0,9))) (cond (decide (Xp (Xc l a) n<0)) (.inr (.inl (0,4))) (.inl (Xp (Xc l a) n)))
theorem Xgk (l:List Xb):∀ (ns:List (List UInt8)) (i:Nat) (a:Int),sel (Ybw (τ:=Int) (fun _ n a=>Xel l n a) (fun a=>(.inr a:(Int×Int)⊕Int)) i ns a) (fun b=>b) (fun c=>(c,0))=Xaj l ns a
 |[],i,a=>rfl
 |n::ns,i,a=>by
  simp only[Ybw,Xaj,Xel]
  cases h1:((l.getD a.toNat Xa).1 != 2) with
  |true=>rfl
  |false=>
   cases h2:decide (Xp (Xc l a) n<0) with
   |true=>rfl
   |false=>simp only[cond_false,sel];exact Xgk l ns (i+1) _
theorem Xjm {l:List Xb} (h:Xdo l) {a t:Int} {n:List UInt8} (h0:0≤a∧a<(l.length:Int)) (e:Xel l n a=.inl t):0≤t∧t<(l.length:Int):=by
 unfold Xel at e
 cases h1:((l.getD a.toNat Xa).1 != 2) with
 |true=>rw[h1] at e;cases e
 |false=>
  rw[h1] at e
  cases h2:decide (Xp (Xc l a) n<0) with
  |true=>rw[h2] at e;cases e
  |false=>rw[h2] at e;cases e;exact Xcu h h0.1 h0.2 n h2
theorem Xnl (f:Fs_) (h:Xdo f.1) (ns:List (List UInt8)) (hn:ns.length≤1048577):Xb8 f ns=some (Xaj f.1 ns 0):=by
 have hp:=h.pos
 have h1:=Ymz (τ:=Int) ns (f:=fun s=>Xb7.B f ns (ns.length:Int) s.1 s.2) (fun k a=>(a,(k:Int))) (fun _ n a=>Xel f.1 n a) (fun a=>(.inr a:(Int×Int)⊕Int)) (fun _ a=>0≤a∧a<(f.1.length:Int))
  (fun k hk a ha=>by
   have hq:=h.at_ ha.1 ha.2
   simp only[Xb7.B,Ywh hk,Ywe hk,Yvy,toNat_cast,getD_lt _ hk,Yug ha.1 ha.2,Xjz f a _ ha.1 ha.2 hq.1,jA,Yvv (by omega:k<4294967296),Xel]
   cases ((f.1.getD a.toNat Xa).1 != 2)<;>cases decide (Xp (Xc f.1 a) ns[k]<0)<;>rfl)
  (fun k hk a a' ha e=>Xjm h ha e) (fun a ha=>by simp only[Xb7.B,Ywc (jB _),Yvx]) 0 ⟨Int.le_refl _,by omega⟩ (s:=(0,0)) rfl
 have h1':Xb7 f ns (ns.length:Int) (0,0)=_:=h1;simp only[Xb8];rw[h1',←Xgk f.1 ns 0 0]
 cases Ybw (τ:=Int) (fun _ n a=>Xel f.1 n a) (fun a=>(.inr a:(Int×Int)⊕Int)) 0 ns 0<;>rfl
theorem Xnm (f:Fs_) (h:Xdo f.1) (ns:List (List UInt8)) (hn:ns.length≤1048577):Xf8 f ns=some (Xaj f.1 ns 0):=by
 have hp:=h.pos
 have h1:=Ymz (τ:=Int) ns (f:=fun s=>Xf7.B f ns s.1 s.2) (fun k a=>(a,(k:Int))) (fun _ n a=>Xel f.1 n a) (fun a=>(.inr a:(Int×Int)⊕Int)) (fun _ a=>0≤a∧a<(f.1.length:Int))
  (fun k hk a ha=>by
   have hq:=h.at_ ha.1 ha.2;have hx:=Xd0 (fun e:Xe=>e.1 == ns[k]) Xj (Xc f.1 a) 0;have e8:=Xlj (Xc f.1 a) ns[k] hq.1;have en:(f.1.getD a.toNat Xa).2.2.2.2.1=Xc f.1 a:=rfl;simp only[Xf7.B,Ywh hk,Ywe hk,Yvy,toNat_cast,getD_lt _ hk,Yug ha.1 ha.2,en,e8,jA,Xel,Xp]
   cases hi:Yn8 (fun e:Xe=>e.1 == ns[k]) 0 (Xc f.1 a) with
   |none=>
    rw[hi] at hx;simp only[hx]
    cases ((f.1.getD a.toNat Xa).1 != 2)<;>rfl
   |some j=>
    rw[hi] at hx;obtain⟨x1,x2,x3⟩:=hx
    have hm:(Xc f.1 a).getD j Xj∈Xc f.1 a:=by rw[getD_lt _ (by omega:j<(Xc f.1 a).length)];exact jE _
    have hs:=(hq.2.2 _ hm).2.1;rw[Nat.sub_zero] at x1
    simp only[x1,show decide ((j:Int)<0)=false by simp,show decide (((Xc f.1 a).getD j Xj).2.1<0)=false from qA (by omega),Yvx,toNat_cast,Ywe (by omega:j<(Xc f.1 a).length),Yvy,jA,Yvv (by omega:k<4294967296)]
    cases ((f.1.getD a.toNat Xa).1 != 2)<;>rfl)
  (fun k hk a a' ha e=>Xjm h ha e) (fun a ha=>by simp only[Xf7.B,Ywc (jB _),Yvx]) 0 ⟨Int.le_refl _,by omega⟩ (s:=(0,0)) rfl
 have h1':Xf7 f ns (0,0)=_:=h1;simp only[Xf8];rw[h1',←Xgk f.1 ns 0 0]
 cases Ybw (τ:=Int) (fun _ n a=>Xel f.1 n a) (fun a=>(.inr a:(Int×Int)⊕Int)) 0 ns 0<;>rfl
def Xk0 (p:List UInt8):Bool:=p.isEmpty || p.getD 0 0 != 47 || p.getD (p.length-1) 0 == 47
def Xr (p:List UInt8):List (List UInt8)×Int:=
 cond (decide ((p.length:Int)>30)) ([],2) (cond (p == [47]) ([],0) (cond (Xk0 p) ([],5) (cond (decide (((Xy 47 [] (p.drop 1)).length:Int)>6)) ([],2) (cond (Ygs Xv (Xy 47 [] (p.drop 1)) != 0) ([],Ygs Xv (Xy 47 [] (p.drop 1))) (Xy 47 [] (p.drop 1),0)))))
theorem Xd8:∀ (s acc:List UInt8),(Xy 47 acc s).length≤s.length+1∧∀ n∈Xy 47 acc s,n.length≤acc.length+s.length
 |[],acc=>by simp[Xy]
 |x::s,acc=>by
  simp only[Xy]
  cases x == 47 with
  |true=>
   have h:=Xd8 s [];simp only[cond_true,jH,List.mem_cons]
   refine⟨by omega,fun n hn=>?_⟩
   rcases hn with rfl | hn
   ·omega
   ·have:=h.2 n hn;simp only[kD] at this;omega
  |false=>
   have h:=Xd8 s (acc++[x]);simp only[cond_false,jH,jP,kD] at h ⊢
   refine⟨by omega,fun n hn=>?_⟩
   have:=h.2 n hn;omega
theorem Xj8 (x:UInt8):((x.toNat:Int) == 47)=(x == 47):=by
 rw[Bool.eq_iff_iff];simp only[beq_iff_eq]
 constructor
 ·intro h
  have:x.toNat=47:=by omega
  exact UInt8.toNat_inj.1 this
 ·rintro rfl;rfl
theorem Xnn (ns:List (List UInt8)) (hn:ns.length≤1048576) (hl:∀ n∈ns,n.length≤2147483648):Xf6 ns=some (cond (decide ((ns.length:Int)>6)) 2 (Ygs Xv ns)):=by
 have h:Xhd ns 0=_:=Yuj ns Xv (fun i hi=>by
  simp only[Xhd.B,Ywh hi,Ywe hi,Yvy,toNat_cast,getD_lt _ hi,Xlb _ (hl _ (jE hi)),jA,Yvv (by omega:i<4294967296)]) (by
  simp only[Xhd.B,Ywc (jB _),Yvx])
 simp only[Xf6];rw[h,Xcw,Xaz]
 cases decide ((ns.length:Int)>6)<;>rfl
theorem Xno (p:List UInt8):∃ ns,Xil p=some (ns,(Xr p).2)∧((Xr p).2=0→ns=(Xr p).1):=by
 unfold Xr Xil
 cases h30:decide ((p.length:Int)>30) with
 |true=>exact⟨_,rfl,fun h=>by cases h⟩
 |false=>
  have hl:p.length≤30:=by simp at h30;omega
  simp only[Yvx]
  cases h1:p == ([47]:List UInt8) with
  |true=>exact⟨_,rfl,fun _=>rfl⟩
  |false=>
   simp only[Yvx]
   cases p with
   |nil=>exact⟨_,rfl,fun h=>by cases h⟩
   |cons x t=>
    have hc:=Xd8 t []
    have hlt:t.length≤29:=by simp at hl;omega
    have hcut:=Xni t 47 (by omega)
    have hnames:=Xnn (Xy 47 [] t) (by omega) (fun n hn=>by have:=hc.2 n hn;simp at this;omega)
    have e0:(((t.length+1:Nat):Int) == 0)=false:=by rw[beq_eq_false_iff_ne];omega
    have e1:w64 (((t.length+1:Nat):Int)-1)=(t.length:Int):=by rw[Ysf (by omega) (by omega)];omega
    have e2:inB 0 (t.length+1)=true:=by simp[inB]
    have e3:inB (t.length:Int) (t.length+1)=true:=by simp[inB];omega
    have e4:((x::t).getD (0:Int).toNat 0)=x:=rfl;have e5:(x::t).getD 0 0=x:=rfl
    have e6:(decide ((0:Int)≤1)&&decide ((1:Int)≤((t.length+1:Nat):Int)))=true:=by simp;omega
    have e7:((x::t).take (t.length+1)).drop (1:Int).toNat=t:=by simp
    have ex:(((x.toNat:Nat):Int) != 47)=(x != 47):=congrArg Bool.not (Xj8 x);have hcut':Xhw t 47=some (Xy 47 [] t):=hcut;simp only[jH,e0,e1,e2,e3,e4,e5,e6,e7,ex,Xj8,kQ,Yvy,Yvx,jA,toNat_cast,Xk0,List.isEmpty_cons,Bool.false_or,Nat.add_sub_cancel,Yuz,List.drop_succ_cons,List.drop_zero,hcut',hnames]
    cases x != 47 with
    |true=>exact⟨_,rfl,fun h=>by cases h⟩
    |false=>
     simp only[kQ,Yvy,Yvx,Bool.false_or,e3]
     cases (x::t).getD t.length 0 == 47 with
     |true=>exact⟨_,rfl,fun h=>by cases h⟩
     |false=>
      simp only[Yvx]
      cases decide (((Xy 47 [] t).length:Int)>6) with
      |true=>exact⟨_,rfl,fun h=>by cases h⟩
      |false=>
       simp only[Yvx]
       cases h5:Ygs Xv (Xy 47 [] t) != 0 with
       |true=>exact⟨_,rfl,fun h=>absurd h (by simpa using h5)⟩
       |false=>exact⟨_,rfl,fun _=>rfl⟩
theorem Xkf (p:List UInt8):Xey p [47]=some (!p.isEmpty&&p.getD 0 0 == 47):=by
 cases p with
 |nil=>rfl
 |cons x t=>
  have e1:decide (((x::t).length:Int)≥(([47]:List UInt8).length:Int))=true:=by simp;omega
  have e2:(decide ((0:Int)≤(([47]:List UInt8).length:Int))&&decide ((([47]:List UInt8).length:Int)≤((x::t).length:Int)))=true:=by simp;omega
  simp only[Xey,Xl,jA,e1,e2,Yvy];simp
theorem Xkg (p:List UInt8) (hl:p.length≤30):Xez p [47]=some (!p.isEmpty&&p.getD (p.length-1) 0 == 47):=by
 cases p with
 |nil=>rfl
 |cons x t=>
  have e1:decide (((x::t).length:Int)≥(([47]:List UInt8).length:Int))=true:=by simp;omega
  have e0:w64 (((x::t).length:Int)-(([47]:List UInt8).length:Int))=(t.length:Int):=by
   simp only[jH,kD] at hl ⊢
   rw[Ysf (by omega) (by omega)];omega
  have e2:(decide ((0:Int)≤(t.length:Int))&&decide ((t.length:Int)≤((x::t).length:Int)))=true:=by simp;omega
  have e3:(x::t).drop t.length=[(x::t).getD t.length 0]:=by
   rw[kZ (by simp),List.drop_eq_nil_of_le (by simp)]
   simp[List.getD]
  simp only[Xez,Xm,jA];rw[e1];simp only[Yvy];rw[e0,e2];simp only[Yvy,toNat_cast,List.take_length,e3,jA,List.isEmpty_cons,kQ,Bool.true_and,jH,Nat.add_sub_cancel]
  rw[show(x::t).take (t.length+1)=x::t from List.take_of_length_le (by simp),e3]
  simp
theorem Xnp (p:List UInt8):Xb6 p=some (Xr p):=by
 unfold Xr Xb6
 cases h30:decide ((p.length:Int)>30) with
 |true=>rfl
 |false=>
  have hl:p.length≤30:=by simp at h30;omega
  simp only[Yvx]
  cases h1:p == ([47]:List UInt8) with
  |true=>rfl
  |false=>
   simp only[Yvx,Xkf,Xkg p hl,jA]
   cases p with
   |nil=>rfl
   |cons x t=>
    have hc:=Xd8 t []
    have hlt:t.length≤29:=by simp at hl;omega
    have hsp:=Xnk t 47 (by omega)
    have e6:(decide ((0:Int)≤1)&&decide ((1:Int)≤((t.length+1:Nat):Int)))=true:=by simp;omega
    have e7:((x::t).take (t.length+1)).drop (1:Int).toNat=t:=by simp
    have hloop:Xb5 ((Xy 47 [] t).length:Int) (Xy 47 [] t) 0=some (Ybw (τ:=Unit) (fun _ n _=>cond (Xv n != 0) (.inr (.inl (Xv n,[]))) (.inl ())) (fun _=>(.inr ():(Int×List (List UInt8))⊕Unit)) 0 (Xy 47 [] t) ()):=
     Yi3 (τ:=Unit) (Xy 47 [] t) (f:=fun s=>Xb5.B ((Xy 47 [] t).length:Int) (Xy 47 [] t) s) (fun i _=>(i:Int)) (fun _ x _=>cond (Xv x != 0) (.inr (.inl (Xv x,[]))) (.inl ())) (fun _=>(.inr ():(Int×List (List UInt8))⊕Unit)) (fun i hi t'=>by
      have h4:=hc.2 _ (jE hi);simp only[kD] at h4
      simp only[Xb5.B,Ywh hi,Ywe hi,Yvy,toNat_cast,getD_lt _ hi,Xlc _ (by omega:((Xy 47 [] t)[i]).length≤2147483648),jA,Yvv (by omega:i<4294967296)]
      cases (Xv (Xy 47 [] t)[i] != 0)<;>rfl) (fun t'=>by simp only[Xb5.B,Ywc (jB _),Yvx]) () (s:=0) rfl
    have hfold:∀ (l:List (List UInt8)) (i:Nat),Ybw (τ:=Unit) (fun _ n _=>cond (Xv n != 0) (.inr (.inl (Xv n,[]))) (.inl ())) (fun _=>(.inr ():(Int×List (List UInt8))⊕Unit)) i l ()=cond (Ygs Xv l != 0) (.inl (Ygs Xv l,[])) (.inr ()):=by
     intro l
     induction l with
     |nil=>intro i;rfl
     |cons n l ih=>
      intro i;simp only[Ybw,Ygs]
      cases h:Xv n != 0 with
      |true=>simp[sel,h]
      |false=>simp only[Yvx,sel];exact ih (i+1)
    simp only[jH,Xk0,List.isEmpty_cons,kQ,Bool.true_and,Bool.false_or,Nat.add_sub_cancel,e6,e7,hsp,jA,hloop,hfold,Yvy,List.drop_succ_cons,List.drop_zero,show((x::t).getD 0 0)=x from rfl]
    cases hx:x == 47 with
    |false=>simp[bne,hx]
    |true=>
     simp only[bne,hx,jK,Yvx,Bool.false_or]
     cases (x::t).getD t.length 0 == 47 with
     |true=>rfl
     |false=>
      simp only[Yvx]
      cases decide (((Xy 47 [] t).length:Int)>6) with
      |true=>rfl
      |false=>
       simp only[Yvx]
       cases Ygs Xv (Xy 47 [] t) == 0<;>rfl
theorem Xgj {p:List UInt8} (h:(Xr p).2=0):(Xr p).1.length≤6∧∀ n∈(Xr p).1,Xv n=0:=by
 unfold Xr at *
 cases h30:decide ((p.length:Int)>30) with
 |true=>rw[h30] at h;cases h
 |false=>
  rw[h30] at h;simp only[Yvx] at h ⊢
  cases h1:p == ([47]:List UInt8) with
  |true=>simp
  |false=>
   rw[h1] at h;simp only[Yvx] at h ⊢
   cases h2:Xk0 p with
   |true=>rw[h2] at h;cases h
   |false=>
    rw[h2] at h;simp only[Yvx] at h ⊢
    cases h3:decide (((Xy 47 [] (p.drop 1)).length:Int)>6) with
    |true=>rw[h3] at h;cases h
    |false=>
     rw[h3] at h;simp only[Yvx] at h ⊢
     cases h4:Ygs Xv (Xy 47 [] (p.drop 1)) != 0 with
     |true=>rw[h4] at h;exact absurd h (by simpa using h4)
     |false=>exact⟨by simp at h3;simp;omega,Xdz.1 (by simpa using h4)⟩
def X3 (l:List Xb) (p:List UInt8):Int×List UInt8×Int:=
 cond ((Xr p).2 != 0) (0,[],(Xr p).2) (cond (((Xr p).1.length:Int) == 0) (0,[],4) (cond ((Xaj l (Xr p).1.dropLast 0).2 != 0) (0,[],(Xaj l (Xr p).1.dropLast 0).2)
  (cond ((l.getD (Xaj l (Xr p).1.dropLast 0).1.toNat Xa).1 != 2) (0,[],9) ((Xaj l (Xr p).1.dropLast 0).1,(Xr p).1.getLast?.getD [],0))))
theorem Xfl {l:List Xb} (h:Xdo l):∀ (ns:List (List UInt8)) (a:Int),0≤a∧a<(l.length:Int)→0≤(Xaj l ns a).1∧(Xaj l ns a).1<(l.length:Int)
 |[],a,ha=>ha
 |n::ns,a,ha=>by
  have hp:=h.pos;simp only[Xaj]
  cases h1:((l.getD a.toNat Xa).1 != 2) with
  |true=>simp only[Yvy];omega
  |false=>
   cases h2:decide (Xp (Xc l a) n<0) with
   |true=>simp only[Yvy,Yvx];omega
   |false=>simp only[Yvx];exact Xfl h ns _ (Xcu h ha.1 ha.2 n h2)
theorem Xje {α:Type} {ns:List α} (h:((ns.length:Int) == 0)=false) (hl:ns.length≤6):w64 ((ns.length:Int)-1)=((ns.length-1:Nat):Int)∧inB ((ns.length-1:Nat):Int) ns.length=true∧(decide ((0:Int)≤((ns.length-1:Nat):Int))&&decide (((ns.length-1:Nat):Int)≤(ns.length:Int)))=true:=by
 have h1:ns.length≠0:=fun e=>by rw[e] at h;cases h
 refine⟨by rw[Ysf (by omega) (by omega)];omega,by simp[inB]<;>omega,by simp<;>omega⟩
theorem Xjd (ns:List (List UInt8)):ns.getD (ns.length-1) []=ns.getLast?.getD []:=by
 rw[List.getLast?_eq_getElem?];rfl
theorem Xnq (f:Fs_) (h:Xdo f.1) (p:List UInt8):Xhx f p=some (X3 f.1 p):=by
 obtain⟨ns,e,hns⟩:=Xno p;have hp:=h.pos;simp only[Xhx,Xix,e,jA,X3]
 cases hc:((Xr p).2 != 0) with
 |true=>simp only[Yvy,jA,hc]
 |false=>
  have h0:(Xr p).2=0:=by simpa using hc
  have h6:=(Xgj h0).1;rw[hns h0]
  cases hz:(((Xr p).1.length:Int) == 0) with
  |true=>rfl
  |false=>
   obtain⟨e1,e2,e3⟩:=Xje hz h6;simp only[Yvx,e1,e2,e3,Yvy,jA,toNat_cast,List.drop_zero,Nat.sub_zero,Xjd,←List.dropLast_eq_take]
   rw[Xnm f h _ (by simp;omega)]
   have hi:=Xfl h (Xr p).1.dropLast 0 ⟨Int.le_refl _,by omega⟩
   simp only[jA,Yug hi.1 hi.2,Yvy,bne_self_eq_false,Yvx]
   cases (Xaj f.1 (Xr p).1.dropLast 0).2 != 0 with
   |true=>rfl
   |false=>
    simp only[Yvx]
    cases ((f.1.getD (Xaj f.1 (Xr p).1.dropLast 0).1.toNat Xa).1 != 2)<;>rfl
theorem Xnr (f:Fs_) (h:Xdo f.1) (p:List UInt8):Xee f p=some (X3 f.1 p):=by
 have hp:=h.pos;simp only[Xee,Xnp,jA,X3]
 cases hc:((Xr p).2 != 0) with
 |true=>rfl
 |false=>
  have h0:(Xr p).2=0:=by simpa using hc
  have h6:=(Xgj h0).1
  cases hz:(((Xr p).1.length:Int) == 0) with
  |true=>rfl
  |false=>
   obtain⟨e1,e2,e3⟩:=Xje hz h6;simp only[Yvx,e1,e2,e3,Yvy,jA,toNat_cast,List.drop_zero,Nat.sub_zero,Xjd,←List.dropLast_eq_take]
   rw[Xnl f h _ (by simp;omega)]
   have hi:=Xfl h (Xr p).1.dropLast 0 ⟨Int.le_refl _,by omega⟩
   simp only[jA,Yug hi.1 hi.2,Yvy]
   cases (Xaj f.1 (Xr p).1.dropLast 0).2 != 0 with
   |true=>rfl
   |false=>
    simp only[Yvx]
    cases ((f.1.getD (Xaj f.1 (Xr p).1.dropLast 0).1.toNat Xa).1 != 2)<;>rfl
theorem Xhr {l:List Xb} (h:Xdo l) {p:List UInt8} (hp:(X3 l p).2.2=0):0≤(X3 l p).1∧(X3 l p).1<(l.length:Int)∧(l.getD (X3 l p).1.toNat Xa).1=2∧Xv (X3 l p).2.1=0:=by
 have hpos:=h.pos;unfold X3 at *
 cases hc:((Xr p).2 != 0) with
 |true=>rw[hc] at hp;exact absurd hp (by simpa using hc)
 |false=>
  rw[hc] at hp
  have h0:(Xr p).2=0:=by simpa using hc
  obtain⟨h6,hn⟩:=Xgj h0
  cases hz:(((Xr p).1.length:Int) == 0) with
  |true=>rw[hz] at hp;cases hp
  |false=>
   rw[hz] at hp;simp only[Yvx] at hp ⊢
   cases h1:(Xaj l (Xr p).1.dropLast 0).2 != 0 with
   |true=>rw[h1] at hp;exact absurd hp (by simpa using h1)
   |false=>
    rw[h1] at hp;simp only[Yvx] at hp ⊢
    cases h2:((l.getD (Xaj l (Xr p).1.dropLast 0).1.toNat Xa).1 != 2) with
    |true=>rw[h2] at hp;cases hp
    |false=>
     have hi:=Xfl h (Xr p).1.dropLast 0 ⟨Int.le_refl _,by omega⟩
     refine⟨hi.1,hi.2,by simpa using h2,?_⟩
     simp only[Yvx]
     cases hl:(Xr p).1.getLast? with
     |none=>
      rw[List.getLast?_eq_none_iff.1 hl] at hz
      cases hz
     |some n=>exact hn n (List.mem_of_getLast? hl)
def Xji (f:Fs_) (dir:Int) (nm:List UInt8) (a:Int):Fs_:=(f.1.set dir.toNat (Yj1 (f.1.getD dir.toNat Xa) (Yp0 (Xc f.1 dir) nm a)),f.2.1,())
theorem Xns (f:Fs_) {dir:Int} (nm:List UInt8) (a:Int) (h0:0≤dir) (h1:dir<(f.1.length:Int)) (hl:f.1.length≤1048576) (he:(Xc f.1 dir).length≤1048576):Xap f dir nm a=some (Xji f dir nm a):=by
 have e1:decide (List.length f.1≤1152921504606846976)=true:=jZ (by omega)
 have e2:decide ((Xc f.1 dir).length≤1048576)=true:=jZ he;simp only[Xap,Yew,e1,Yvy];rw[show decide (List.length (f.1.getD dir.toNat (0,0,0,[],[],())).2.2.2.2.1≤1048576)=true from e2,Yug h0 h1];rfl
theorem Xhi (nm:List UInt8):∀ es:List Xe,Yuh nm es≤es.length
 |[]=>jB _
 |e::es=>by
  simp only[Yuh]
  cases leB e.1 nm with
  |true=>have:=Xhi nm es;simp only[cond_true,jH];omega
  |false=>simp
theorem Xjb (nm:List UInt8):∀ (l:List Xe) (i:Nat) (n:Int),n=((i+l.length:Nat):Int)→Ybw (τ:=Unit) (fun i e _=>cond (leB e.1 nm) (.inl ()) (.inr (i:Int))) (fun _=>n) i l ()=((i+Yuh nm l:Nat):Int)
 |[],i,n,h=>by simp[Ybw,Yuh,h]
 |e::l,i,n,h=>by
  simp only[Ybw,Yuh]
  cases leB e.1 nm with
  |true=>
   simp only[cond_true,sel]
   rw[Xjb nm l (i+1) n (by rw[h];simp only[jH];omega)]
   omega
  |false=>simp[sel]
theorem Xnt (es:List Xe) (nm:List UInt8) (a:Int) (hl:es.length≤1048576):Xen es (nm,a,())=some (Yp0 es nm a):=by
 have h:Xgc es (nm,a,()) 0=some (Ybw (τ:=Unit) (fun i e _=>cond (leB e.1 nm) (.inl ()) (.inr (i:Int))) (fun _=>(es.length:Int)) 0 es ()):=
  Yi3 (τ:=Unit) es (f:=fun s=>Xgc.B es (nm,a,()) s) (fun i _=>(i:Int)) (fun i e _=>cond (leB e.1 nm) (.inl ()) (.inr (i:Int))) (fun _=>(es.length:Int)) (fun i hi t=>by
   simp only[Xgc.B,Ywh hi,Ywe hi,Yvy,toNat_cast,getD_lt _ hi,jA,Yvv (by omega:i<4294967296)]
   cases leB (es[i]).1 nm<;>rfl) (fun t=>by simp only[Xgc.B,Ywc (jB _),Yvx,Yvy,jA]) () (s:=0) rfl
 have hi:=Xhi nm es
 rw[Xjb nm es 0 _ (by simp),jJ] at h
 simp only[Xen,h,jA,toNat_cast,jO,List.drop_zero];have hi:=Xhi nm es
 rw[show(decide ((0:Int)≤(Yuh nm es:Int))&&decide ((Yuh nm es:Int)≤(es.length:Int)))=true by simp;omega,jZ (by rw[kK];omega:(es.take (Yuh nm es)).length≤2147483648),
  jZ (by simp;omega:(es.take (Yuh nm es)++[(nm,a,())]).length≤2147483648)]
 simp only[Yvy,jA,List.take_length]
 rw[jZ (by simp;omega:(es.take (Yuh nm es)++[(nm,a,())]++es.drop (Yuh nm es)).length≤2147483648)]
 simp[Yp0]
def atI (es:List Xe) (nm:List UInt8):Int:=match Yn8 (fun e:Xe=>e.1 == nm) 0 es with | some j=>(j:Int) | none=>-1
theorem Xj0 (es:List Xe) (nm:List UInt8) (hl:es.length≤6):Xct es nm=some (atI es nm):=(Xlj es nm hl).trans (by unfold atI;cases Yn8 (fun e:Xe=>e.1 == nm) 0 es<;>rfl)
theorem Xd1 (es:List Xe) (nm:List UInt8) (he:∀ e∈es,0≤e.2.1):decide (atI es nm≥0)=decide (Xp es nm≥0):=by
 have hx:=Xd0 (fun e:Xe=>e.1 == nm) Xj es 0;unfold Xp atI
 cases hi:Yn8 (fun e:Xe=>e.1 == nm) 0 es with
 |none=>
  rw[hi] at hx
  simp only[hx]
 |some j=>
  rw[hi] at hx;obtain⟨x1,x2,x3⟩:=hx;rw[x1]
  have hm:es.getD (j-0) Xj∈es:=by rw[getD_lt _ x3];exact jE _
  have:=he _ hm
  rw[jZ (by simp:(j:Int)≥0),jZ (this:(es.getD (j-0) Xj).2.1≥0)]
theorem FsB.ofT {f:Fs_} (h:X5 f):FsB f:=⟨(Xt h.inod).1,fun x hx=>X7.of ((Xt h.inod).2 x hx),h.dat,fun b hb=>by have:=h.dl b hb;omega⟩
theorem FsB.set {f:Fs_} (h:FsB f) (i:Nat) {x:Xb} (hx:X7 x) (u:Unit):FsB (f.1.set i x,f.2.1,u):=
 ⟨by simpa using h.l,fun y hy=>by
  rcases List.mem_or_eq_of_mem_set hy with hy | rfl
  ·exact h.s y hy
  ·exact hx,h.d,h.dl⟩
theorem X7.at_ {f:Fs_} (h:FsB f) (i:Nat):X7 (f.1.getD i Xa):=by
 by_cases hi:i<f.1.length
 ·rw[getD_lt _ hi];exact h.s _ (jE hi)
 ·rw[show f.1.getD i Xa=Xa by simp[List.getD,List.getElem?_eq_none (by omega:f.1.length≤i)]]
  exact⟨by decide,by decide,fun e he=>by cases he⟩
theorem Xkr {es:List Xe} {nm:List UInt8} {a:Int} {e:Xe} (h:e∈Yp0 es nm a):e∈es∨e=(nm,a,()):=by
 unfold Yp0 at h;rcases List.mem_append.1 h with h | h
 ·exact .inl (List.mem_of_mem_take h)
 ·rcases List.mem_cons.1 h with h | h
  ·exact .inr h
  ·exact .inl (List.mem_of_mem_drop h)
theorem Xkq (es:List Xe) (nm:List UInt8) (a:Int):(Yp0 es nm a).length=es.length+1:=by
 have:=Xhi nm es;simp[Yp0];omega
def Xh1 (code rep val:Int) (f:Fs_):Xq:=(code,rep,val,[],[],f,())
theorem X8 {f:Fs_} (h:FsB f) (c r v:Int):wt Xi (Xh1 c r v f)≤2147483648:=by
 have:=h.wt;simp only[Xh1,Yl9,Yuw,Ytu,Ysi,qB,List.sum_nil] at *;omega
def Xah (l:List Xb) (t:Int):Nat→Int→Bool
 |0,a=>t == a
 |d+1,a=>t == a || (Xc l a).any fun e=>Xah l t d e.2.1
theorem Xnu (f:Fs_) (ht:Xdo f.1) (t:Int):∀ (d k:Nat) (a:Int),d<k→d≤10→0≤a→a<(f.1.length:Int)→Xac.R k f t a (d:Int)=some (Xah f.1 t d a):=by
 intro d
 induction d with
 |zero=>
  intro k a hk _ a0 a1
  obtain⟨k,rfl⟩:∃ m,k=m+1:=⟨k-1,by omega⟩
  simp only[Xac.R,Xac.step,Xah]
  have h:Xff (Xac.R k) f t a ((0:Nat):Int) 0=some (.inr ()):=Yar (by simp only[Xff.B];rfl)
  rw[h]
  cases t == a<;>rfl
 |succ d ih=>
  intro k a hk hd a0 a1
  obtain⟨k,rfl⟩:∃ m,k=m+1:=⟨k-1,by omega⟩
  obtain⟨q1,-,q3⟩:=ht.at_ a0 a1
  have e1:decide (((d+1:Nat):Int)>0)=true:=jZ (by omega)
  have e2:w64 (((d+1:Nat):Int)-1)=(d:Int):=by rw[Ysf (by omega) (by omega)];omega
  have en:(f.1.getD a.toNat Xa).2.2.2.2.1=Xc f.1 a:=rfl
  have h:Xff (Xac.R k) f t a ((d+1:Nat):Int) 0=_:=Yvk (Xc f.1 a) (fun e=>Xah f.1 t d e.2.1) true (fun i hi=>by
   have he:=q3 _ (jE hi)
   simp only[Xff.B,e1,e2,Yvy,Yug a0 a1,en,Ywh hi,Ywe hi,toNat_cast,getD_lt _ hi,jA,ih k _ (by omega) (by omega) he.2.1 he.2.2,Yvv (by omega:i<4294967296)]) (by
   simp only[Xff.B,e1,Yvy,Yug a0 a1,en,Ywc (jB _),jA,Yvx])
  simp only[Xac.R,Xac.step,Xah];rw[h]
  cases t == a with
  |true=>rfl
  |false=>cases (Xc f.1 a).any fun e=>Xah f.1 t d e.2.1<;>rfl
theorem Xj2 {α:Type} (p q:α→Bool):∀ l:List α,(∀ x∈l,p x=true→q x=true)→l.countP p≤l.countP q∧(l.countP q≤l.countP p→∀ x∈l,q x=true→p x=true)
 |[],_=>⟨jB _,fun _ x hx=>nomatch hx⟩
 |y::l,h=>by
  obtain⟨h1,h2⟩:=Xj2 p q l fun x hx=>h x (jG _ hx);have hy:=h y (jF ..);simp only[List.countP_cons]
  cases e1:p y with
  |true=>
   rw[hy e1]
   refine⟨by omega,fun hle x hx hq=>?_⟩
   rcases List.mem_cons.1 hx with rfl | hx
   ·exact e1
   ·exact h2 (by omega) x hx hq
  |false=>
   cases e2:q y with
   |true=>exact⟨by simp;omega,fun hle=>by simp at hle;omega⟩
   |false=>
    refine⟨by simp;omega,fun hle x hx hq=>?_⟩
    rcases List.mem_cons.1 hx with rfl | hx
    ·rw[e2] at hq;cases hq
    ·exact h2 (by simpa using hle) x hx hq
theorem Xjo (l:List Xb) (t:Int):∀ (d:Nat) (a:Int),Xah l t d a=true→Xah l t (d+1) a=true:=by
 intro d
 induction d with
 |zero=>intro a h;simp only[Xah] at *;rw[h];rfl
 |succ d ih=>
  intro a h;rw[Xah,Bool.or_eq_true] at h ⊢;refine h.imp id fun h=>?_;obtain⟨e,he,h2⟩:=List.any_eq_true.1 h;exact List.any_eq_true.2 ⟨e,he,ih _ h2⟩
theorem Xlq (l:List Xb) (t:Int) {d d':Nat} (h:d≤d') (a:Int) (hw:Xah l t d a=true):Xah l t d' a=true:=by
 induction h with
 |refl=>exact hw
 |step _ ih=>exact Xjo l t _ a ih
theorem Xki {l:List Xb} (hl:Xc5 l) (hn:l.length≤10) {a t:Nat} (ha:a<l.length) (ht:t<l.length):Xah l (t:Int) 10 (a:Int)=true↔Reach l a t:=by
 have sound:∀ (d:Nat) (b:Nat),b<l.length→Xah l (t:Int) d (b:Int)=true→∀ s,Reach l s b→Reach l s t:=by
  intro d
  induction d with
  |zero=>
   intro b hb h s hs;simp only[Xah,beq_iff_eq] at h
   have:t=b:=by omega
   rw[this];exact hs
  |succ d ih=>
   intro b hb h s hs;rw[Xah,Bool.or_eq_true] at h;rcases h with h | h
   ·simp only[beq_iff_eq] at h
    have:t=b:=by omega
    rw[this];exact hs
   ·obtain⟨e,he,h2⟩:=List.any_eq_true.1 h
    have he':e∈Xw l b:=he;have hi:=Xak hl he'
    obtain⟨c,hc⟩:∃ c:Nat,e.2.1=(c:Int):=⟨e.2.1.toNat,by omega⟩
    rw[hc] at h2 hi
    exact ih c (by omega) h2 s (.step hs ⟨e,he',hc⟩)
 have key:∀ m,m≤10→(∃ d,d<m∧∀ i,i<l.length→Xah l (t:Int) (d+1) (i:Int)=true→Xah l (t:Int) d (i:Int)=true)∨m+1≤(List.range l.length).countP fun i:Nat=>Xah l (t:Int) m (i:Int):=by
  intro m
  induction m with
  |zero=>
   intro _;refine .inr (List.countP_pos_iff.2 ⟨t,List.mem_range.2 ht,?_⟩)
   simp[Xah]
  |succ m ih=>
   intro hm
   rcases ih (by omega) with ⟨d,hd,h⟩ | h
   ·exact .inl ⟨d,by omega,h⟩
   ·obtain⟨h1,h2⟩:=Xj2 (fun i:Nat=>Xah l (t:Int) m (i:Int)) (fun i:Nat=>Xah l (t:Int) (m+1) (i:Int)) (List.range l.length) fun i _ hi=>Xjo l _ m _ hi
    by_cases hle:(List.range l.length).countP (fun i:Nat=>Xah l (t:Int) (m+1) (i:Int))≤(List.range l.length).countP fun i:Nat=>Xah l (t:Int) m (i:Int)
    ·exact .inl ⟨m,by omega,fun i hi hq=>h2 hle i (List.mem_range.2 hi) hq⟩
    ·exact .inr (by omega)
 refine⟨fun h=>sound 10 a ha h a .refl,fun hr=>?_⟩;rcases key 10 (jB _) with ⟨d,hd,hcl⟩ | h
 ·have back:∀ b,Reach l a b→Xah l (t:Int) d (b:Int)=true→Xah l (t:Int) d (a:Int)=true:=by
   intro b hb
   induction hb with
   |refl=>exact id
   |step h1 h2 ih=>
    rename_i x y;intro hy;obtain⟨e,he,h3⟩:=h2;have hx:=Reach.lt hl ha h1;refine ih (hcl x hx ?_);rw[Xah,Bool.or_eq_true]
    exact .inr (List.any_eq_true.2 ⟨e,he,by rw[h3];exact hy⟩)
  refine Xlq l _ (by omega:d≤10) _ (back t hr ?_)
  cases d<;>simp[Xah]
 ·have:=List.countP_le_length (p:=fun i:Nat=>Xah l (t:Int) 10 (i:Int)) (l:=List.range l.length)
  simp only[kJ] at this;omega
theorem Xjn (f:Fs_) (hT:X5 f) {a t:Int} (a0:0≤a) (a1:a<(f.1.length:Int)) (t0:0≤t) (t1:t<(f.1.length:Int)) :
  ∃ b r,Xac f t a 10=some b∧Xa2 f.1 a=some r∧Xau r t=some b:=by
 have hn:f.1.length≤10:=(Xt hT.inod).1
 obtain⟨x,rfl⟩:∃ x:Nat,a=(x:Int):=⟨a.toNat,by omega⟩
 obtain⟨y,rfl⟩:∃ y:Nat,t=(y:Int):=⟨t.toNat,by omega⟩
 have hx:x<f.1.length:=by omega
 have hy:y<f.1.length:=by omega
 refine⟨_,_,Xnu f (Xdo.of hT) y 10 40 x (by omega) (by omega) a0 a1,Xld hT.Xi9 hn x hx,?_⟩
 have hlen:(Xx f.1 x).length≤2147483648:=by
  unfold Xx;rw[kP];refine jU (List.length_filter_le _ _) ?_;rw[kJ];omega
 rw[Xkk _ _ hlen]
 congr 1
 rw[Bool.eq_iff_iff,List.contains_iff_mem,Xki hT.Xi9 hn hx hy];exact Xjv hT.Xi9 hx
theorem Xj4 (a:List UInt8):leB a a=false:=by
 have:=Xit a a;simp only[beq_self_eq_true,Bool.or_true] at this
 cases h:leB a a with
 |false=>rfl
 |true=>rw[h] at this;cases this
theorem Xh4:∀ (a b c:List UInt8),leB a b=true→leB b c=true→leB a c=true
 |a,b,[],_,h=>by cases b<;>cases h
 |[],b,_::_,_,_=>rfl
 |x::a,[],_::_,h,_=>by cases h
 |x::a,y::b,z::c,h1,h2=>by
  simp only[leB,Bool.or_eq_true,jI,jC,beq_iff_eq] at *;rcases h1 with h1 | ⟨rfl,h1⟩
  ·rcases h2 with h2 | ⟨rfl,h2⟩
   ·exact .inl (UInt8.lt_trans h1 h2)
   ·exact .inl h1
  ·rcases h2 with h2 | ⟨rfl,h2⟩
   ·exact .inl h2
   ·exact .inr ⟨rfl,Xh4 a b c h1 h2⟩
theorem Xgv:∀ (es:List Xe) (p:List UInt8),Xaq (some p) es=0→(∀ e∈es,leB p e.1=true)∧(es.map (·.1)).Nodup
 |[],p,_=>⟨fun e h=>(nomatch h),List.nodup_nil⟩
 |e::es,p,h=>by
  simp only[Xaq] at h
  cases h1:Xc2 (some p) e != 0 with
  |true=>rw[h1] at h;exact absurd h (by simpa using h1)
  |false=>
   rw[h1] at h;obtain⟨i1,i2⟩:=Xgv es e.1 h
   have hp:leB p e.1=true:=by
    have h2:Xc2 (some p) e=0:=by simpa using h1
    unfold Xc2 at h2
    cases h3:Xv e.1 != 0 with
    |true=>rw[h3] at h2;exact absurd h2 (by simpa using h3)
    |false=>
     rw[h3] at h2
     cases h4:(!inR e.2.1 0 9) with
     |true=>rw[h4] at h2;cases h2
     |false=>
      rw[h4] at h2
      cases h5:leB p e.1 with
      |true=>rfl
      |false=>simp[h5] at h2
   refine⟨fun x hx=>?_,?_⟩
   ·rcases List.mem_cons.1 hx with rfl | hx
    ·exact hp
    ·exact Xh4 _ _ _ hp (i1 x hx)
   ·rw[jS,List.nodup_cons]
    refine⟨fun hm=>?_,i2⟩;obtain⟨x,hx,e1⟩:=List.mem_map.1 hm;have:=i1 x hx;rw[e1,Xj4] at this;cases this
def Xd6 (l:List Xb):Prop:=∀ x∈l,(x.2.2.2.2.1.map (·.1)).Nodup
theorem Xd6.of {l:List Xb} (h:Xz l=0):Xd6 l:=fun x hx=>by
 have hx0:=(Xt h).2 x hx
 by_cases e:x.1=2
 ·have hd:=(X0 hx0).2.2.2.1 e
  unfold Xhz at hd
  cases h1:decide ((x.2.2.2.2.1.length:Int)>6) with
  |true=>rw[h1] at hd;cases hd
  |false=>
   rw[h1] at hd;have hd:Xaq none x.2.2.2.2.1=0:=hd
   cases hes:x.2.2.2.2.1 with
   |nil=>exact List.nodup_nil
   |cons y es=>
    rw[hes] at hd;simp only[Xaq] at hd
    cases h2:Xc2 none y != 0 with
    |true=>rw[h2] at hd;exact absurd hd (by simpa using h2)
    |false=>
     rw[h2] at hd;obtain⟨i1,i2⟩:=Xgv es y.1 hd;rw[jS,List.nodup_cons];refine⟨fun hm=>?_,i2⟩;obtain⟨z,hz,e1⟩:=List.mem_map.1 hm;have:=i1 z hz;rw[e1,Xj4] at this;cases this
 ·rw[(X0 hx0).2.2.1 e];exact List.nodup_nil
theorem Xkb {es:List Xe} {nm:List UInt8} (h:∀ e∈es,(e.1 == nm)=false):Ygq es nm=es:=by
 unfold Ygq;rw[List.filter_eq_self];intro e he;rw[h e he];rfl
theorem Xi7 (nm:List UInt8):∀ (es:List Xe) (i j:Nat),(es.map (·.1)).Nodup→Yn8 (fun e:Xe=>e.1 == nm) i es=some j→i≤j∧j-i<es.length∧Ygq es nm=es.take (j-i)++es.drop (j-i+1)
 |[],i,j,_,h=>nomatch h
 |e::es,i,j,hn,h=>by
  rw[jS,List.nodup_cons] at hn;simp only[Yn8] at h
  cases he:e.1 == nm with
  |true=>
   rw[he] at h;cases h
   refine⟨jB _,by simp,?_⟩
   have hr:Ygq es nm=es:=Xkb fun x hx=>by
    cases h2:x.1 == nm with
    |false=>rfl
    |true=>
     have e1:e.1=nm:=by simpa using he
     have e2:x.1=nm:=by simpa using h2
     exact absurd (List.mem_map.2 ⟨x,hx,e2.trans e1.symm⟩) hn.1
   rw[show Ygq (e::es) nm=Ygq es nm by simp[Ygq,List.filter_cons,he],hr]
   simp
  |false=>
   rw[he] at h;obtain⟨h1,h2,h3⟩:=Xi7 nm es (i+1) j hn.2 h
   refine⟨by omega,by simp only[jH];omega,?_⟩
   rw[show Ygq (e::es) nm=e::Ygq es nm by simp[Ygq,List.filter_cons,he],h3,show j-i=(j-(i+1))+1 by omega]
   rfl
def X6 (f:Fs_) (dir:Int) (nm:List UInt8):Fs_:=(f.1.set dir.toNat (Yj1 (f.1.getD dir.toNat Xa) (Ygq (Xc f.1 dir) nm)),f.2.1,())
theorem Xlk (f:Fs_) {dir:Int} (nm:List UInt8) (h0:0≤dir) (h1:dir<(f.1.length:Int)) (hl:f.1.length≤1048576) (he:(Xc f.1 dir).length≤1048576):Xae f dir nm=some (X6 f dir nm):=by
 have e1:decide (List.length f.1≤1152921504606846976)=true:=jZ (by omega)
 have e2:decide ((Xc f.1 dir).length≤1048576)=true:=jZ he;simp only[Xae,Yd2,e1,Yvy];rw[show decide (List.length (f.1.getD dir.toNat (0,0,0,[],[],())).2.2.2.2.1≤1048576)=true from e2,Yug h0 h1];rfl
theorem Xll (f:Fs_) {dir:Int} (nm:List UInt8) (h0:0≤dir) (h1:dir<(f.1.length:Int)) (hl:(Xc f.1 dir).length≤6) (hn:((Xc f.1 dir).map (·.1)).Nodup) (hi:decide (atI (Xc f.1 dir) nm≥0)=true) :
  Xc0 f dir (atI (Xc f.1 dir) nm)=some (Xp (Xc f.1 dir) nm,X6 f dir nm):=by
 have hx:=Xd0 (fun e:Xe=>e.1 == nm) Xj (Xc f.1 dir) 0;have en:(f.1.getD dir.toNat Xa).2.2.2.2.1=Xc f.1 dir:=rfl;unfold atI at hi ⊢
 cases hj:Yn8 (fun e:Xe=>e.1 == nm) 0 (Xc f.1 dir) with
 |none=>rw[hj] at hi;simp at hi
 |some j=>
  obtain⟨-,i2,i3⟩:=Xi7 nm (Xc f.1 dir) 0 j hn hj;rw[hj] at hx;obtain⟨x1,-,-⟩:=hx;rw[Nat.sub_zero] at i2 i3 x1
  have e1:w64 ((j:Int)+1)=((j+1:Nat):Int):=Yvv (by omega)
  have ev:Xp (Xc f.1 dir) nm=((Xc f.1 dir).getD j Xj).2.1:=by unfold Xp;rw[x1]
  simp only[Xc0,Yug h0 h1,en,Ywe i2,Yvy,toNat_cast,jA,e1,List.drop_zero,Nat.sub_zero,jO]
  rw[show(decide ((0:Int)≤(j:Int))&&decide ((j:Int)≤((Xc f.1 dir).length:Int)))=true by simp;omega,jZ (by rw[kK];omega:((Xc f.1 dir).take j).length≤2147483648),
   show(decide ((0:Int)≤((j+1:Nat):Int))&&decide (((j+1:Nat):Int)≤((Xc f.1 dir).length:Int)))=true by simp;omega]
  have et:((Xc f.1 dir).drop (j+1)).take ((Xc f.1 dir).length-(j+1))=(Xc f.1 dir).drop (j+1):=List.take_of_length_le (by simp)
  simp only[Yvy,jA,toNat_cast,et]
  rw[jZ (by simp;omega:((Xc f.1 dir).take j++(Xc f.1 dir).drop (j+1)).length≤2147483648)]
  simp only[Yvy,←i3,ev];rfl
def Xgx (bs:List Int) (ds:List (List Int)):List (List Int):=bs.foldl (fun d b=>d.set b.toNat []) ds
def Xei (f:Fs_) (a:Int):Fs_:=(f.1.set a.toNat (0,0,0,[],[],()),Xgx (f.1.getD a.toNat Xa).2.2.2.1 f.2.1,f.2.2)
theorem Xgf (u:List Xb) (w:Unit):∀ (bs:List Int) (ds:List (List Int)),bs.foldl (fun(t:Fs_) b=>(t.1,t.2.1.set b.toNat [],t.2.2)) (u,ds,w)=(u,Xgx bs ds,w)
 |[],ds=>rfl
 |b::bs,ds=>by simp only[kI,Xgx];exact Xgf u w bs _
theorem Xh3:∀ (bs:List Int) (ds:List (List Int)),(Xgx bs ds).length=ds.length
 |[],ds=>rfl
 |b::bs,ds=>by simp only[Xgx,kI];exact(Xh3 bs _).trans (by simp)
theorem Xgy:∀ (bs:List Int) {ds:List (List Int)} {k:Nat},(∀ d∈ds,d.length≤k)→∀ d∈Xgx bs ds,d.length≤k
 |[],_,_,h=>h
 |b::bs,ds,k,h=>by
  simp only[Xgx,kI];refine Xgy bs fun d hd=>?_;rcases List.mem_or_eq_of_mem_set hd with hd | rfl
  ·exact h d hd
  ·simp
structure Xbm (f:Fs_):Prop where
 dat:f.2.1.length=20
 len:∀ i,(f.1.getD i Xa).2.2.2.1.length≤4
 blk:∀ i,∀ b∈(f.1.getD i Xa).2.2.2.1,0≤b∧b≤19
theorem Xbm.of {f:Fs_} (h:X5 f):Xbm f:=by
 have hok:=Xdn.of h.inod;refine⟨h.dat,fun i=>?_,fun i b hb=>?_⟩
 ·by_cases hi:i<f.1.length
  ·rw[getD_lt _ hi];exact(hok.blk _ (jE hi)).1
  ·rw[show f.1.getD i Xa=Xa by simp[List.getD,List.getElem?_eq_none (by omega:f.1.length≤i)]];decide
 ·by_cases hi:i<f.1.length
  ·rw[getD_lt _ hi] at hb;exact(hok.blk _ (jE hi)).2 b hb
  ·rw[show f.1.getD i Xa=Xa by simp[List.getD,List.getElem?_eq_none (by omega:f.1.length≤i)]] at hb;cases hb
theorem Xbm.set {f:Fs_} (h:Xbm f) (i:Nat) {x:Xb} (hx:x.2.2.2.1=(f.1.getD i Xa).2.2.2.1) (u:Unit):Xbm (f.1.set i x,f.2.1,u):=by
 have key:∀ j,((f.1.set i x).getD j Xa).2.2.2.1=(f.1.getD j Xa).2.2.2.1:=fun j=>by
  by_cases e:i=j
  ·subst e
   by_cases hi:i<f.1.length
   ·rw[←hx];simp[List.getD,hi]
   ·rw[List.set_eq_of_length_le (by omega)]
  ·simp[List.getD,List.getElem?_set_ne e]
 exact⟨h.dat,fun j=>by rw[key];exact h.len j,fun j b hb=>by rw[key] at hb;exact h.blk j b hb⟩
theorem Xnv (f:Fs_) (h:Xbm f) {a:Int} (a0:0≤a) (a1:a<(f.1.length:Int)):Xhy f a=some (Xei f a):=by
 have hl:=h.len a.toNat;have hb:=h.blk a.toNat
 have h1:Xgb a (0,f)=_:=Yoe (f.1.getD a.toNat Xa).2.2.2.1 (f:=fun s=>Xgb.B a s.1 s.2) (fun(t:Fs_) b=>(t.1,t.2.1.set b.toNat [],t.2.2)) id (fun _ t=>t.1=f.1∧t.2.1.length=20) (fun i hi t ht=>by
  obtain⟨t1,t2⟩:=ht;have hbi:=hb _ (jE hi)
  refine⟨?_,t1,by simpa using t2⟩
  simp only[Xgb.B,t1,Yug a0 a1,Yvy,jA,Ywh hi,Ywe hi,toNat_cast,getD_lt _ hi,Yug hbi.1 (by rw[t2];omega:_<(t.2.1.length:Int)),Yvv (by omega:i<4294967296)]) (fun t ht=>by
  simp only[Xgb.B,ht.1,Yug a0 a1,Yvy,jA,Ywc (jB _),Yvx,id]) f ⟨rfl,h.dat⟩
 simp only[Xhy];rw[h1];obtain⟨xs,ds,w⟩:=f;simp only[id,Xgf,jA,Yug a0 a1,Yvy,Xei]
theorem Xnw (f:Fs_) (h:Xbm f) {a:Int} (a0:0≤a) (a1:a<(f.1.length:Int)):Xef f a=some (Xei f a):=by
 have hl:=h.len a.toNat;have hb:=h.blk a.toNat
 have h1:Xb9 a.toNat ((f.1.getD a.toNat Xa).2.2.2.1.length:Int) (0,f)=_:=Yoe (f.1.getD a.toNat Xa).2.2.2.1 (f:=fun s=>Xb9.B a.toNat ((f.1.getD a.toNat Xa).2.2.2.1.length:Int) s.1 s.2) (fun(t:Fs_) b=>(t.1,t.2.1.set b.toNat [],t.2.2)) id (fun _ t=>t.1=f.1∧t.2.1.length=20) (fun i hi t ht=>by
  obtain⟨t1,t2⟩:=ht;have hbi:=hb _ (jE hi)
  refine⟨?_,t1,by simpa using t2⟩
  simp only[Xb9.B,t1,Yvy,jA,Ywh hi,Ywe hi,toNat_cast,getD_lt _ hi,Yug hbi.1 (by rw[t2];omega:_<(t.2.1.length:Int)),Yvv (by omega:i<4294967296)]) (fun t ht=>by
  simp only[Xb9.B,Ywc (jB _),Yvx,id]) f ⟨rfl,h.dat⟩
 simp only[Xef,Xgs,Yug a0 a1,Yvy,jA];rw[h1];obtain⟨xs,ds,w⟩:=f;simp only[id,Xgf,jA,Yug a0 a1,Yvy,Xei]
def Xag (f:Fs_) (a:Int):Fs_:=cond ((f.1.getD a.toNat Xa).1 != 1) f (cond (decide ((f.1.getD a.toNat Xa).2.1>1)) (f.1.set a.toNat ((f.1.getD a.toNat Xa).1,w64 ((f.1.getD a.toNat Xa).2.1-1),(f.1.getD a.toNat Xa).2.2),f.2) (cond (Xu f.1 a == 0) (Xei f a) f))
theorem Xju (l:List Xb) (i:Nat) (x:Xb) (hx:x.2.2.2.2.1=(l.getD i Xa).2.2.2.2.1) (a:Int):Xu (l.set i x) a=Xu l a:=by
 unfold Xu Xi4
 have:(l.set i x).flatMap (fun y=>y.2.2.2.2.1.map fun e=>e.2.1)=l.flatMap fun y=>y.2.2.2.2.1.map fun e=>e.2.1:=by
  induction l generalizing i with
  |nil=>rfl
  |cons y l ih=>
   cases i with
   |zero=>simp only[List.set_cons_zero,List.flatMap_cons];rw[hx];rfl
   |succ i=>simp only[List.set_cons_succ,List.flatMap_cons];rw[ih i (by simpa using hx)]
 rw[this]
theorem Xnx (f:Fs_) (h:Xbm f) (hl:∀ x∈f.1,x.2.2.2.2.1.length≤6) (hn:f.1.length≤10) {a:Int} (a0:0≤a) (a1:a<(f.1.length:Int)) :
  (cond (inB a f.1.length) (cond (((f.1.getD a.toNat Xa).1) != 1) (some f) (cond (decide ((((f.1.getD a.toNat Xa).2).1)>1)) ((some (f.1.set a.toNat ((f.1.getD a.toNat Xa).1,w64 ((((f.1.getD a.toNat Xa).2).1)-1),((f.1.getD a.toNat Xa).2).2))).bind fun f_=>some (f_,f.2)) ((Xbw f.1 a).bind fun r3=>cond (r3 == 0) ((Xef f a).bind fun r4=>some r4) (some f)))) none)=some (Xag f a):=by
 simp only[Yug a0 a1,Yvy,jA,Xlf f.1 hl hn,Xnw f h a0 a1,Xag]
 cases ((f.1.getD a.toNat Xa).1 != 1)<;>cases decide ((f.1.getD a.toNat Xa).2.1>1)<;>cases Xu f.1 a == 0<;>rfl
theorem Xny (f:Fs_) (h:Xbm f) (hl:∀ x∈f.1,x.2.2.2.2.1.length≤6) (hn:f.1.length≤10) {a:Int} (a0:0≤a) (a1:a<(f.1.length:Int)) (hk:(f.1.getD a.toNat Xa).1=1→1≤(f.1.getD a.toNat Xa).2.1∧(f.1.getD a.toNat Xa).2.1≤60):Xio f a=some (Xag f a):=by
 have ha:a.toNat<f.1.length:=by omega
 simp only[Xio,Yug a0 a1,Yvy,jA,Xag]
 cases h1:((f.1.getD a.toNat Xa).1 != 1) with
 |true=>rfl
 |false=>
  obtain⟨k1,k2⟩:=hk (by simpa using h1)
  have e1:w64 ((f.1.getD a.toNat Xa).2.1-1)=(f.1.getD a.toNat Xa).2.1-1:=Ysf (by omega) (by omega)
  have eg:(f.1.set a.toNat ((f.1.getD a.toNat Xa).1,(f.1.getD a.toNat Xa).2.1-1,(f.1.getD a.toNat Xa).2.2)).getD a.toNat Xa=((f.1.getD a.toNat Xa).1,(f.1.getD a.toNat Xa).2.1-1,(f.1.getD a.toNat Xa).2.2):=by
   simp[List.getD,ha]
  have el:(f.1.set a.toNat ((f.1.getD a.toNat Xa).1,(f.1.getD a.toNat Xa).2.1-1,(f.1.getD a.toNat Xa).2.2)).length=f.1.length:=by simp
  have hl':∀ x∈f.1.set a.toNat ((f.1.getD a.toNat Xa).1,(f.1.getD a.toNat Xa).2.1-1,(f.1.getD a.toNat Xa).2.2),x.2.2.2.2.1.length≤6:=fun x hx=>by
   rcases List.mem_or_eq_of_mem_set hx with hx | rfl
   ·exact hl x hx
   ·show(f.1.getD a.toNat Xa).2.2.2.2.1.length≤6
    rw[getD_lt _ ha];exact hl _ (jE ha)
  have hB:=h.set a.toNat (x:=((f.1.getD a.toNat Xa).1,(f.1.getD a.toNat Xa).2.1-1,(f.1.getD a.toNat Xa).2.2)) rfl f.2.2
  have hd:=Xnv _ hB a0 (by rw[el];exact a1)
  have hls:Xu (f.1.set a.toNat ((f.1.getD a.toNat Xa).1,(f.1.getD a.toNat Xa).2.1-1,(f.1.getD a.toNat Xa).2.2)) a=Xu f.1 a:=Xju f.1 a.toNat ((f.1.getD a.toNat Xa).1,(f.1.getD a.toNat Xa).2.1-1,(f.1.getD a.toNat Xa).2.2) rfl a
  have hdd:Xei (f.1.set a.toNat ((f.1.getD a.toNat Xa).1,(f.1.getD a.toNat Xa).2.1-1,(f.1.getD a.toNat Xa).2.2),f.2.1,f.2.2) a=Xei f a:=by
   simp only[Xei,eg,kM]
  have hd':Xhy (f.1.set a.toNat ((f.1.getD a.toNat Xa).1,(f.1.getD a.toNat Xa).2.1-1,(f.1.getD a.toNat Xa).2.2),f.2) a=some (Xei f a):=hd.trans (congrArg some hdd)
  simp only[Yvx,e1,el,Yug a0 a1,Yvy,eg,Xle _ hl' (by rw[el];exact hn),hls,jA,hd']
  by_cases hgt:(f.1.getD a.toNat Xa).2.1>1
  ·rw[jZ hgt,jZ (by omega:(f.1.getD a.toNat Xa).2.1-1>0)]
   rfl
  ·have e2:(f.1.getD a.toNat Xa).2.1=1:=by omega
   rw[qA hgt,qA (by omega:¬ (f.1.getD a.toNat Xa).2.1-1>0)]
   simp only[Yvx]
   have h0:0≤Xu f.1 a:=by unfold Xu;omega
   by_cases hz:Xu f.1 a=0
   ·rw[hz];rfl
   ·rw[jZ (by omega:Xu f.1 a>0),show(Xu f.1 a == 0)=false by simpa using hz]
    simp only[Yvy,Yvx,kM]
    have:((f.1.getD a.toNat Xa).1,(1:Int),(f.1.getD a.toNat Xa).2.2)=f.1[a.toNat]:=by rw[←e2,getD_lt _ ha]
    rw[this,List.set_getElem_self]
theorem Xip (es:List Xe) (nm:List UInt8) (he:∀ e∈es,0≤e.2.1):decide (atI es nm<0)=decide (Xp es nm<0):=by
 have h:=Xd1 es nm he
 have e1:∀ x:Int,decide (x<0) = !decide (x≥0):=fun x=>by
  by_cases hx:x<0
  ·rw[jZ hx,qA (by omega)];rfl
  ·rw[qA hx,jZ (by omega)];rfl
 rw[e1,e1,h]
theorem Xkm {es:List Xe} {nm:List UInt8} (h:decide (atI es nm<0)=false):inB (atI es nm) es.length=true∧(es.getD (atI es nm).toNat Xj).2.1=Xp es nm:=by
 have hx:=Xd0 (fun e:Xe=>e.1 == nm) Xj es 0;unfold atI at *
 cases hj:Yn8 (fun e:Xe=>e.1 == nm) 0 es with
 |none=>rw[hj] at h;simp at h
 |some j=>
  rw[hj] at hx;obtain⟨x1,x2,x3⟩:=hx;rw[Nat.sub_zero] at x1 x3;refine⟨Ywe x3,?_⟩;unfold Xp;rw[x1];simp
theorem Xke (es:List Xe) {nm nn:List UInt8} (h:nm≠nn):Xp (Ygq es nn) nm=Xp es nm:=by
 have:(Ygq es nn).find? (fun e=>e.1 == nm)=es.find? fun e=>e.1 == nm:=by
  induction es with
  |nil=>rfl
  |cons e es ih=>
   cases h1:e.1 == nn with
   |true=>
    have h2:(e.1 == nm)=false:=by
     have:e.1=nn:=by simpa using h1
     rw[this];simpa using fun e=>h e.symm
    rw[show Ygq (e::es) nn=Ygq es nn by simp[Ygq,List.filter_cons,h1],ih,List.find?_cons,h2]
   |false=>
    rw[show Ygq (e::es) nn=e::Ygq es nn by simp[Ygq,List.filter_cons,h1],List.find?_cons,List.find?_cons]
    cases e.1 == nm with
    |true=>rfl
    |false=>exact ih
 unfold Xp;rw[this]
theorem getD_set_ne {l:List Xb} {i j:Nat} {x:Xb} (h:i≠j):(l.set i x).getD j Xa=l.getD j Xa:=by simp[List.getD,List.getElem?_set_ne h]
theorem Xbh {l:List Xb} {i:Nat} {x:Xb} (h:i<l.length):(l.set i x).getD i Xa=x:=by simp[List.getD,h]
theorem Xc1 {f:Fs_} (h:FsB f) (dir:Int) (nm:List UInt8):FsB (X6 f dir nm):=by
 have hs:=X7.at_ h dir.toNat;refine FsB.set h dir.toNat (x:=Yj1 (f.1.getD dir.toNat Xa) (Ygq (Xc f.1 dir) nm)) ⟨hs.blk,?_,fun e hm=>?_⟩ ()
 ·exact jU (List.length_filter_le _ _) hs.ent
 ·exact hs.nam e (List.mem_filter.1 (show e∈Ygq (Xc f.1 dir) nm from hm)).1
theorem Xay (f:Fs_) (dir:Int) (nm:List UInt8):(X6 f dir nm).1.length=f.1.length:=by simp[X6]
theorem Xi6 {f:Fs_} (h:Xbm f) (dir:Int) (nm:List UInt8):Xbm (X6 f dir nm):=h.set dir.toNat (x:=Yj1 (f.1.getD dir.toNat Xa) (Ygq (Xc f.1 dir) nm)) rfl ()
theorem Xka (f:Fs_) {dir:Int} (nm:List UInt8) (i:Nat):((X6 f dir nm).1.getD i Xa).1=(f.1.getD i Xa).1∧((X6 f dir nm).1.getD i Xa).2.1=(f.1.getD i Xa).2.1:=by
 unfold X6
 by_cases h:dir.toNat<f.1.length
 ·by_cases e:dir.toNat=i
  ·subst e
   rw[Xbh h];exact⟨rfl,rfl⟩
  ·rw[getD_set_ne e];exact⟨rfl,rfl⟩
 ·rw[List.set_eq_of_length_le (by omega)];exact⟨rfl,rfl⟩
theorem Xj9 (f:Fs_) {dir d:Int} (nm:List UInt8) (h0:0≤dir) (h1:dir<(f.1.length:Int)) (d0:0≤d):Xc (X6 f dir nm).1 d=if d=dir then Ygq (Xc f.1 dir) nm else Xc f.1 d:=by
 by_cases e:d=dir
 ·rw[jL e,e]
  show((f.1.set dir.toNat _).getD dir.toNat Xa).2.2.2.2.1=_
  rw[Xbh (by omega)]
  rfl
 ·rw[jM e]
  show((f.1.set dir.toNat _).getD d.toNat Xa).2.2.2.2.1=_
  rw[getD_set_ne (by omega)]
  rfl
theorem X7.zero:X7 (0,0,0,[],[],()):=⟨by decide,by decide,fun e he=>by cases he⟩
theorem Xjf {f:Fs_} (h:FsB f) (a:Int):FsB (Xag f a):=by
 have hs:=X7.at_ h a.toNat;unfold Xag
 cases ((f.1.getD a.toNat Xa).1 != 1) with
 |true=>exact h
 |false=>
  cases decide ((f.1.getD a.toNat Xa).2.1>1) with
  |true=>exact FsB.set h a.toNat (x:=((f.1.getD a.toNat Xa).1,w64 ((f.1.getD a.toNat Xa).2.1-1),(f.1.getD a.toNat Xa).2.2)) ⟨hs.blk,hs.ent,hs.nam⟩ ()
  |false=>
   cases Xu f.1 a == 0 with
   |true=>
    have h2:=FsB.set h a.toNat X7.zero ()
    exact⟨h2.l,h2.s,by show(Xgx _ _).length=20;rw[Xh3];exact h.d,Xgy _ h.dl⟩
   |false=>exact h
theorem Xgh (f:Fs_) (a:Int):(Xag f a).1.length=f.1.length:=by
 unfold Xag
 cases ((f.1.getD a.toNat Xa).1 != 1)<;>cases decide ((f.1.getD a.toNat Xa).2.1>1)<;>cases Xu f.1 a == 0<;>simp[Xei]
theorem Xgz (f:Fs_) {a d:Int} (h:a.toNat≠d.toNat):(Xag f a).1.getD d.toNat Xa=f.1.getD d.toNat Xa:=by
 unfold Xag
 cases ((f.1.getD a.toNat Xa).1 != 1) with
 |true=>rfl
 |false=>
  cases decide ((f.1.getD a.toNat Xa).2.1>1) with
  |true=>exact getD_set_ne h
  |false=>
   cases Xu f.1 a == 0 with
   |true=>exact getD_set_ne h
   |false=>rfl
theorem Xjt (f:Fs_) {a:Int} (ha:a.toNat<f.1.length):(((Xag f a).1.getD a.toNat Xa).1 == 2)=((f.1.getD a.toNat Xa).1 == 2):=by
 unfold Xag
 cases h1:((f.1.getD a.toNat Xa).1 != 1) with
 |true=>rfl
 |false=>
  have e:(f.1.getD a.toNat Xa).1=1:=by simpa using h1
  rw[e]
  cases decide ((f.1.getD a.toNat Xa).2.1>1) with
  |true=>
   show(((f.1.set a.toNat _).getD a.toNat Xa).1 == 2)=_
   rw[Xbh ha]
  |false=>
   cases Xu f.1 a == 0 with
   |true=>
    show(((f.1.set a.toNat _).getD a.toNat Xa).1 == 2)=_
    rw[Xbh ha];rfl
   |false=>
    show((f.1.getD a.toNat Xa).1 == 2)=_;rw[e]
    try rfl
def X4 (f:Fs_) (nd:Int) (nn:List UInt8) (old:Int) (isDir:Bool):Fs_:=cond isDir ((Xag (X6 f nd nn) old).1.set old.toNat (0,0,0,[],[],()),(Xag (X6 f nd nn) old).2) (Xag (X6 f nd nn) old)
theorem Xjc {f:Fs_} (h:FsB f) (nd:Int) (nn:List UInt8) (old:Int) (b:Bool):FsB (X4 f nd nn old b):=by
 have h1:=Xjf (Xc1 h nd nn) old
 cases b with
 |false=>exact h1
 |true=>exact FsB.set h1 old.toNat X7.zero ()
theorem Xkd (f:Fs_) (nd:Int) (nn:List UInt8) (old:Int) (b:Bool):(X4 f nd nn old b).1.length=f.1.length:=by
 have h1:=Xgh (X6 f nd nn) old;rw[Xay] at h1
 cases b with
 |false=>exact h1
 |true=>show((Xag (X6 f nd nn) old).1.set _ _).length=_;rw[kC];exact h1
theorem Xjr (f:Fs_) {nd old d:Int} (nn:List UInt8) (b:Bool) (h:old.toNat≠d.toNat):Xc (X4 f nd nn old b).1 d=Xc (X6 f nd nn).1 d:=by
 unfold Xc
 cases b with
 |false=>show((Xag (X6 f nd nn) old).1.getD d.toNat Xa).2.2.2.2.1=_;rw[Xgz _ h]
 |true=>show(((Xag (X6 f nd nn) old).1.set old.toNat _).getD d.toNat Xa).2.2.2.2.1=_;rw[getD_set_ne h,Xgz _ h]
theorem Xnz (f:Fs_) (hT:X5 f) {nd:Int} (nn:List UInt8) (d0:0≤nd) (d1:nd<(f.1.length:Int)) (ho:decide (Xp (Xc f.1 nd) nn<0)=false):Xdu f nd nn=some (Xag (X6 f nd nn) (Xp (Xc f.1 nd) nn)):=by
 have ht:=Xdo.of hT;have hq:=ht.at_ d0 d1;have hl:=ht.len;have hi:=Xcu ht d0 d1 nn ho;have hB:=Xc1 (FsB.ofT hT) nd nn;have hln:=Xay f nd nn
 have h:=Xnx (X6 f nd nn) (Xi6 (Xbm.of hT) nd nn) (fun x hx=>(hB.s x hx).ent) (by rw[hln];exact hl) (a:=Xp (Xc f.1 nd) nn) hi.1 (by rw[hln];exact hi.2)
 simp only[Xdu,Xjz f nd nn d0 d1 hq.1,Xlk f nn d0 d1 (by omega) (by omega),jA]
 exact h
theorem Xn0 (f:Fs_) (hT:X5 f) {nd:Int} (nn:List UInt8) (d0:0≤nd) (d1:nd<(f.1.length:Int)) (ho:decide (Xp (Xc f.1 nd) nn<0)=false) :
  Xhf f nd (atI (Xc f.1 nd) nn)=some (X4 f nd nn (Xp (Xc f.1 nd) nn) ((f.1.getD (Xp (Xc f.1 nd) nn).toNat Xa).1 == 2)):=by
 have ht:=Xdo.of hT;have hq:=ht.at_ d0 d1;have hl:=ht.len;have hi:=Xcu ht d0 d1 nn ho;have hB:=Xc1 (FsB.ofT hT) nd nn;have hln:=Xay f nd nn
 have hnames:((Xc f.1 nd).map (·.1)).Nodup:=Xd6.of hT.inod _ (getD_in d0 d1)
 have hpos:decide (atI (Xc f.1 nd) nn≥0)=true:=by
  rw[Xd1 _ _ fun e he=>(hq.2.2 e he).2.1];exact jZ hi.1
 have hk:=Xka f (dir:=nd) nn (Xp (Xc f.1 nd) nn).toNat
 have hfile:(f.1.getD (Xp (Xc f.1 nd) nn).toNat Xa).1=1→1≤(f.1.getD (Xp (Xc f.1 nd) nn).toNat Xa).2.1∧(f.1.getD (Xp (Xc f.1 nd) nn).toNat Xa).2.1≤60:=fun e=>by
  have h1:=(Xbi ((Xt hT.inod).2 _ (getD_in hi.1 hi.2))).2.2.2 e;unfold Xgw at h1
  cases h2:inR (f.1.getD (Xp (Xc f.1 nd) nn).toNat Xa).2.1 1 60 with
  |false=>rw[h2] at h1;cases h1
  |true=>exact Xfg.1 h2
 have hless:=Xny (X6 f nd nn) (Xi6 (Xbm.of hT) nd nn) (fun x hx=>(hB.s x hx).ent) (by rw[hln];exact hl) (a:=Xp (Xc f.1 nd) nn) hi.1 (by rw[hln];exact hi.2) (by rw[hk.1,hk.2];exact hfile)
 have hkind:=Xjt (X6 f nd nn) (a:=Xp (Xc f.1 nd) nn) (by rw[hln];omega)
 rw[hk.1] at hkind;simp only[Xhf,Xll f nn d0 d1 hq.1 hnames hpos,jA,hless,Xgh,hln,Yug hi.1 hi.2,Yvy,hkind,X4]
 cases ((f.1.getD (Xp (Xc f.1 nd) nn).toNat Xa).1 == 2)<;>rfl
structure FsC (f:Fs_):Prop where
 l:f.1.length≤10
 s:∀ x∈f.1,x.2.2.2.1.length≤4∧x.2.2.2.2.1.length≤7∧∀ e∈x.2.2.2.2.1,e.1.length≤4
 d:f.2.1.length=20
 dl:∀ b∈f.2.1,b.length≤64
theorem FsC.wt {f:Fs_} (h:FsC f):wt Xk f≤100000:=by
 have e1:∀ w:List Int,(w.map (Mf.wt (.int .i64))).sum=w.length:=fun w=>Xfm .i64 w;have e2:∀ w:List Int,(w.map (Mf.wt (.int .u8))).sum=w.length:=fun w=>Xfm .u8 w
 have h1:=Ytp (Mf.wt Xd) 100 (xs:=f.1) (fun x hx=>by
  obtain⟨hb,he,hnam⟩:=h.s x hx
  have h2:=Ytp (Mf.wt Xh) 6 (xs:=x.2.2.2.2.1) (fun e hee=>by
   have:=hnam e hee
   simp only[Yl9,Yot,Yuw,Ytu];omega)
  have e:Mf.wt Xd x=1+(1+(1+((x.2.2.2.1.map (Mf.wt (.int .i64))).sum+1+((x.2.2.2.2.1.map (Mf.wt Xh)).sum+1+0)))):=rfl;rw[e,e1]
  omega)
 have h2:=Ytp (Mf.wt (.sl (.int .u8))) 65 (xs:=f.2.1) (fun b hb=>by
  have:=h.dl b hb
  rw[Ysi,e2];omega)
 have hl:=h.l;have hd:=h.d;rw[Yl9,Yl9,Ytu,Ysi,Ysi];rw[hd] at h2;have:f.1.length*100≤10*100:=jR _ hl;omega
theorem Xjj {f:Fs_} (h:FsB f) (dir:Int) {nm:List UInt8} (a:Int) (hn:nm.length≤4):FsC (Xji f dir nm a):=by
 have hs:=X7.at_ h dir.toNat
 refine⟨by simpa [Xji] using h.l,fun x hx=>?_,h.d,h.dl⟩
 rcases List.mem_or_eq_of_mem_set (show x∈f.1.set dir.toNat _ from hx) with hx | rfl
 ·have:=h.s x hx;exact⟨this.blk,Nat.le_succ_of_le this.ent,this.nam⟩
 ·refine⟨hs.blk,?_,fun e hm=>?_⟩
  ·show(Yp0 (Xc f.1 dir) nm a).length≤7
   rw[Xkq];exact Nat.succ_le_succ hs.ent
  ·rcases Xkr (show e∈Yp0 (Xc f.1 dir) nm a from hm) with hm | rfl
   ·exact hs.nam e hm
   ·exact hn
theorem Xhu {f:Fs_} (h:FsC f) (c r v:Int):wt Xi (Xh1 c r v f)≤2147483648:=by
 have:=h.wt;simp only[Xh1,Yl9,Yuw,Ytu,Ysi,qB,List.sum_nil] at *;omega
theorem Xh5 {g:Fs_} (hg:FsB g) {dir nd at_:Int} {nm nn:List UInt8} (d0:0≤dir) (d1:dir<(g.1.length:Int)) (n0:0≤nd) (n1:nd<(g.1.length:Int)) (hn:((Xc g.1 dir).map (·.1)).Nodup) (hpos:decide (atI (Xc g.1 dir) nm≥0)=true) (hnn:nn.length≤4) :
  ((Xae g dir nm).bind fun r12=>(Xap r12 nd nn at_).bind fun r13=>some ((0:Int),r13))=some (0,Xji (X6 g dir nm) nd nn at_)∧
  Xc0 g dir (atI (Xc g.1 dir) nm)=some (Xp (Xc g.1 dir) nm,X6 g dir nm)∧Xen (Xc (X6 g dir nm).1 nd) (nn,at_,())=some (Yp0 (Xc (X6 g dir nm).1 nd) nn at_)∧FsC (Xji (X6 g dir nm) nd nn at_):=by
 have hl:=hg.l;have he:(Xc g.1 dir).length≤6:=(X7.at_ hg dir.toNat).ent;have hc:=Xc1 hg dir nm;have he2:(Xc (X6 g dir nm).1 nd).length≤6:=(X7.at_ hc nd.toNat).ent;have hln:=Xay g dir nm
 refine⟨?_,Xll g nm d0 d1 he hn hpos,Xnt _ _ _ (by omega),Xjj hc nd at_ hnn⟩
 rw[Xlk g nm d0 d1 (by omega) (by omega),jA,Xns _ nn at_ n0 (by rw[hln];exact n1) (by rw[hln];omega) (by omega)]
 rfl
theorem Xjs (f:Fs_) (hT:X5 f) {dir nd old at_:Int} {nm nn:List UInt8} (p0:0≤dir) (p1:dir<(f.1.length:Int)) (t0:0≤nd) (t1:nd<(f.1.length:Int)) (hn4:nn.length≤4)
  (hA:Xp (Xc f.1 dir) nm=at_) (l0:0≤at_) (hO:Xp (Xc f.1 nd) nn=old) (o0:0≤old) (he:(old == at_)=false) (hz:decide (((Xc f.1 old).length:Int)>0)=false) (b:Bool) :
  ((Xae (X4 f nd nn old b) dir nm).bind fun r12=>(Xap r12 nd nn at_).bind fun r13=>some ((0:Int),r13))=some (0,Xji (X6 (X4 f nd nn old b) dir nm) nd nn at_)∧
  (∃ v,Xc0 (X4 f nd nn old b) dir (atI (Xc (X4 f nd nn old b).1 dir) nm)=some (v,X6 (X4 f nd nn old b) dir nm))∧Xen (Xc (X6 (X4 f nd nn old b) dir nm).1 nd) (nn,at_,())=some (Yp0 (Xc (X6 (X4 f nd nn old b) dir nm).1 nd) nn at_)∧
  FsC (Xji (X6 (X4 f nd nn old b) dir nm) nd nn at_)∧(Xc (X4 f nd nn old b).1 dir).length≤6∧(X4 f nd nn old b).1.length=f.1.length:=by
 have ht:=Xdo.of hT;have hB:=FsB.ofT hT;have hq:=ht.at_ p0 p1;have hq2:=ht.at_ t0 t1;have hg:=Xjc hB nd nn old b;have hln:=Xkd f nd nn old b
 have hne:old.toNat≠dir.toNat:=fun e=>by
  have e1:Xc f.1 old=Xc f.1 dir:=by unfold Xc;rw[e]
  have e2:Xc f.1 dir=[]:=by
   rw[e1] at hz
   cases hd:Xc f.1 dir with
   |nil=>rfl
   |cons x l=>rw[hd] at hz;exact absurd hz (by simp)
  rw[e2] at hA;have:at_ = -1:=hA.symm;omega
 have hents:Xc (X4 f nd nn old b).1 dir=if dir=nd then Ygq (Xc f.1 nd) nn else Xc f.1 dir:=by
  rw[Xjr f nn b hne,Xj9 f nn t0 t1 p0]
 have hsub:∀ e∈Xc (X4 f nd nn old b).1 dir,e∈Xc f.1 dir:=fun e hm=>by
  rw[hents] at hm
  by_cases hd:dir=nd
  ·rw[jL hd] at hm;rw[hd];exact(List.mem_filter.1 hm).1
  ·rw[jM hd] at hm;exact hm
 have hnod:((Xc (X4 f nd nn old b).1 dir).map (·.1)).Nodup:=by
  rw[hents]
  by_cases hd:dir=nd
  ·rw[jL hd]
   have h1:((Xc f.1 nd).map (·.1)).Nodup:=Xd6.of hT.inod _ (getD_in t0 t1)
   exact List.Nodup.sublist (List.Sublist.map _ List.filter_sublist) h1
  ·rw[jM hd];exact Xd6.of hT.inod _ (getD_in p0 p1)
 have hlook:Xp (Xc (X4 f nd nn old b).1 dir) nm=at_:=by
  rw[hents]
  by_cases hd:dir=nd
  ·rw[jL hd]
   have hnn:nm≠nn:=fun e=>by
    rw[hd,e,hO] at hA;rw[hA] at he;simp at he
   rw[Xke _ hnn,←hd];exact hA
  ·rw[jM hd];exact hA
 have hpos:decide (atI (Xc (X4 f nd nn old b).1 dir) nm≥0)=true:=by
  rw[Xd1 _ _ fun e hm=>(hq.2.2 e (hsub e hm)).2.1,hlook];exact jZ l0
 obtain⟨m1,m2,m3,m4⟩:=Xh5 hg (at_:=at_) (nm:=nm) p0 (by rw[hln];exact p1) t0 (by rw[hln];exact t1) hnod hpos hn4
 exact⟨m1,⟨_,m2⟩,m3,m4,(X7.at_ hg dir.toNat).ent,hln⟩
theorem RenamePath.main (f:Fs_) (p t:List UInt8) (hf:Fit Xk f) (hf1:Fit .str p) (hf2:Fit .str t) (hw:wt Xk f≤1048576) (hw1:wt .str p≤1048576) (hw2:wt .str t≤1048576):∃ r,Xhm f p t=some r∧Xdh f p t=some r∧wt Xi r≤2147483648:=by
 have hb:Bd Xk f:=Yoy rfl (by omega)
 cases h:(fsF f != 0) with
 |true=>
  refine⟨(fsF f,0,0,[],[],([],[],()),()),?_,?_,by simp[Yl9,Yuw,Ytu,Ysi]⟩
  ·simp only[Xhm,Xlg f hb,jA,h,Yvy]
  ·simp only[Xdh,Xlh f hb,jA,h,Yvy]
 |false=>
  have h0:fsF f=0:=by simpa using h
  have hT:=(Xkj.of h0).tree;have ht:=Xdo.of hT;have hB:=FsB.ofT hT
  have e10:∀ c,Xdq f c=some (Xh1 0 c 0 f):=fun c=>by simp only[Xdq,Xli hB,jA,Xh1]
  simp only[Xhm,Xdh,Xlg f hb,Xlh f hb,jA,h,Yvx,Xml f hb,Xiz,Xgt,e10,Xnq f ht,Xnr f ht,Xli hB]
  cases h1:((X3 f.1 p).2.2 != 0) with
  |true=>exact⟨_,rfl,rfl,X8 hB _ _ _⟩
  |false=>
   obtain⟨p0,p1,p2,p3⟩:=Xhr ht (by simpa using h1:(X3 f.1 p).2.2=0)
   generalize hP:X3 f.1 p=P at *;obtain⟨dir,nm,pc⟩:=P;simp only at p0 p1 p2 p3 h1;have hq:=ht.at_ p0 p1;have enD:(f.1.getD dir.toNat Xa).2.2.2.2.1=Xc f.1 dir:=rfl;simp only[Yvx,Yug p0 p1,Yvy,enD,Xj0 _ _ hq.1,Xjz f dir nm p0 p1 hq.1,jA,Xip _ nm fun e he=>(hq.2.2 e he).2.1]
   cases h2:decide (Xp (Xc f.1 dir) nm<0) with
   |true=>exact⟨_,rfl,rfl,X8 hB _ _ _⟩
   |false=>
    have h2':decide (atI (Xc f.1 dir) nm<0)=false:=by rw[Xip _ nm fun e he=>(hq.2.2 e he).2.1];exact h2
    obtain⟨a1,a2⟩:=Xkm h2';obtain⟨l0,l1⟩:=Xcu ht p0 p1 nm h2;generalize hA:Xp (Xc f.1 dir) nm=at_ at *;simp only[Yvx,a1,a2,Yvy,jA]
    cases h3:((X3 f.1 t).2.2 != 0) with
    |true=>exact⟨_,rfl,rfl,X8 hB _ _ _⟩
    |false=>
     obtain⟨t0,t1,t2,t3⟩:=Xhr ht (by simpa using h3:(X3 f.1 t).2.2=0)
     generalize hQ:X3 f.1 t=Q at *;obtain⟨nd,nn,qc⟩:=Q;simp only at t0 t1 t2 t3 h3;have hq2:=ht.at_ t0 t1;have hl:=ht.len;have enT:(f.1.getD nd.toNat Xa).2.2.2.2.1=Xc f.1 nd:=rfl;have hn4:nn.length≤4:=(Xjh t3).2.1
     have hnamD:((Xc f.1 dir).map (·.1)).Nodup:=Xd6.of hT.inod _ (getD_in p0 p1)
     have hposD:decide (atI (Xc f.1 dir) nm≥0)=true:=by
      rw[Xd1 _ _ fun e he=>(hq.2.2 e he).2.1,hA];exact jZ l0
     obtain⟨w,rr,w1,w2,w3⟩:=Xjn f hT l0 l1 t0 t1;obtain⟨bd,hd⟩:∃ b,((f.1.getD at_.toNat Xa).1 == 2)=b:=⟨_,rfl⟩
     have hdir0:Xc f.1 dir≠[]:=fun e=>by
      rw[e] at hA;have:at_ = -1:=hA.symm;omega
     simp only[Yvx,Yug l0 l1,Yvy,enT,Yug t0 t1,Xj0 _ _ hq2.1,Xjz f nd nn t0 t1 hq2.1,jA,w1,w2,w3,hd,Xd1 (Xc f.1 nd) nn fun e he=>(hq2.2.2 e he).2.1,Yuz];have fin:∀ (S I:Option Xq),(∃ r,S=some r∧I=some r∧wt Xi r≤2147483648)→(∃ r,S=some r∧I=some r∧wt Xi r≤2147483648):=fun _ _ h=>h
     cases ho:decide (Xp (Xc f.1 nd) nn<0) with
     |true=>
      have ho':Xp (Xc f.1 nd) nn<0:=of_decide_eq_true ho
      have o1:decide (Xp (Xc f.1 nd) nn≥0)=false:=qA (by omega)
      have o2:(Xp (Xc f.1 nd) nn == at_)=false:=by simp;omega
      obtain⟨m1,m2,m3,m4⟩:=Xh5 hB (at_:=at_) (nm:=nm) p0 p1 t0 t1 hnamD hposD hn4;have m1':=m1;rw[hA] at m2;have hln:=Xay f dir nm
      have h6:decide (((Xc f.1 nd).length:Int)≥6)=(((Xc f.1 nd).length:Int) == 6):=by
       have:=hq2.1;rw[Bool.eq_iff_iff];simp only[jI,beq_iff_eq];omega
      have enC:((X6 f dir nm).1.getD nd.toNat Xa).2.2.2.2.1=Xc (X6 f dir nm).1 nd:=rfl;have m2':Xc0 (f.1,f.2.1,f.2.2) dir (atI (Xc f.1 dir) nm)=some (at_,X6 f dir nm):=m2;simp only[o1,o2,Yvx,Yvy,ho,kQ,m2',m3,hln,hA,enC,enD,Yug p0 p1,Yug t0 t1,jA,m1,h6,Xj0 _ _ hq.1,Yuz];have leaf2:∃ r,some (Xh1 0 2 0 f)=some r∧some (Xh1 0 2 0 f)=some r∧wt Xi r≤2147483648:=⟨_,rfl,rfl,X8 hB _ _ _⟩
      cases bd with
      |true=>
       cases w with
       |true=>exact⟨_,rfl,rfl,X8 hB _ _ _⟩
       |false=>
        simp only[Yvy,Yvx]
        cases (nd != dir)<;>cases ((Xc f.1 nd).length:Int) == 6<;>first | exact⟨_,rfl,rfl,Xhu m4 0 0 0⟩ | exact⟨_,rfl,rfl,X8 hB 0 2 0⟩
      |false=>
       simp only[Yvy,Yvx]
       cases (nd != dir)<;>cases ((Xc f.1 nd).length:Int) == 6<;>first | exact⟨_,rfl,rfl,Xhu m4 0 0 0⟩ | exact⟨_,rfl,rfl,X8 hB 0 2 0⟩
     |false=>
      have ho':¬ Xp (Xc f.1 nd) nn<0:=of_decide_eq_false ho
      have o1:decide (Xp (Xc f.1 nd) nn≥0)=true:=jZ (by omega)
      have o3:decide (atI (Xc f.1 nd) nn<0)=false:=by rw[Xip _ nn fun e he=>(hq2.2.2 e he).2.1];exact ho
      obtain⟨b1,b2⟩:=Xkm o3;obtain⟨i0,i1⟩:=Xcu ht t0 t1 nn ho;have htake:=Xn0 f hT nn t0 t1 ho;have hdrop:=Xnz f hT nn t0 t1 ho;generalize hO:Xp (Xc f.1 nd) nn=old at *;have enO:(f.1.getD old.toNat Xa).2.2.2.2.1=Xc f.1 old:=rfl;simp only[o1,ho,Yvx,Yvy,b1,b2,jA,Yug i0 i1,Xin,Yug l0 l1,enO,hd,Yuz]
      have go:∀ b:Bool,(old == at_)=false→decide (((Xc f.1 old).length:Int)>0)=false→b=bd→((f.1.getD old.toNat Xa).1 == 2)=b→∃ r,
        ((Xhf (f.1,f.2.1,f.2.2) nd (atI (Xc f.1 nd) nn)).bind fun r14=>cond (inB dir r14.1.length) ((Xct (r14.1.getD dir.toNat Xa).2.2.2.2.1 nm).bind fun r15=>(Xc0 r14 dir r15).bind fun r16=>cond (inB nd r16.2.1.length) ((Xen (r16.2.1.getD nd.toNat Xa).2.2.2.2.1 (nn,at_,())).bind fun r17=>cond (inB nd r16.2.1.length) (some (((0:Int),(0:Int),(0:Int),([]:List Int),([]:List (List UInt8)),(r16.2.1.set nd.toNat ((r16.2.1.getD nd.toNat Xa).1,(r16.2.1.getD nd.toNat Xa).2.1,(r16.2.1.getD nd.toNat Xa).2.2.1,(r16.2.1.getD nd.toNat Xa).2.2.2.1,r17,(r16.2.1.getD nd.toNat Xa).2.2.2.2.2),r16.2.2.1,r16.2.2.2),()):Xq)) none) none) none)=some r∧
        ((Xdu f nd nn).bind fun r7=>cond bd (cond (inB old r7.1.length) ((Xae (r7.1.set old.toNat (0,0,0,[],[],()),r7.2) dir nm).bind fun r8=>(Xap r8 nd nn at_).bind fun r9=>some ((0:Int),r9)) none) ((Xae r7 dir nm).bind fun r10=>(Xap r10 nd nn at_).bind fun r11=>some ((0:Int),r11)))=some (0,r.2.2.2.2.2.1)∧r=Xh1 0 0 0 r.2.2.2.2.2.1∧wt Xi r≤2147483648:=by
       intro b he hz hb1 hb2;obtain⟨m1,⟨v,m2⟩,m3,m4,m5,m6⟩:=Xjs f hT (at_:=at_) p0 p1 t0 t1 hn4 hA l0 hO i0 he hz b
       have htake':Xhf (f.1,f.2.1,f.2.2) nd (atI (Xc f.1 nd) nn)=some (X4 f nd nn old b):=by rw[←hb2];exact htake
       have enG:((X4 f nd nn old b).1.getD dir.toNat Xa).2.2.2.2.1=Xc (X4 f nd nn old b).1 dir:=rfl;have enC:((X6 (X4 f nd nn old b) dir nm).1.getD nd.toNat Xa).2.2.2.2.1=Xc (X6 (X4 f nd nn old b) dir nm).1 nd:=rfl;have hlc:=Xay (X4 f nd nn old b) dir nm;refine⟨Xh1 0 0 0 (Xji (X6 (X4 f nd nn old b) dir nm) nd nn at_),?_,?_,rfl,Xhu m4 _ _ _⟩
       ·simp only[htake',jA,m6,Yug p0 p1,Yvy,enG,Xj0 _ _ m5,m2,hlc,Yug t0 t1,enC,m3]
        rfl
       ·rw[hdrop]
        simp only[jA,Xgh,Xay,Yug i0 i1,Yvy];subst hb1
        cases b with
        |true=>exact m1
        |false=>exact m1
      clear hdrop htake
      have hn8:∀ x:Int,(x != 0)=false→x=0:=fun x h=>by simpa using h
      obtain⟨bo,hbo⟩:∃ b,((f.1.getD old.toNat Xa).1 == 2)=b:=⟨_,rfl⟩;simp only[hbo] at go ⊢
      cases he:(old == at_) with
      |true=>
       cases bd with
       |true=>cases w<;>exact⟨_,rfl,rfl,X8 hB _ _ _⟩
       |false=>exact⟨_,rfl,rfl,X8 hB _ _ _⟩
      |false=>
       simp only[Yvx]
       cases hz:decide (((Xc f.1 old).length:Int)>0) with
       |true=>
        cases bd with
        |true=>cases w<;>cases bo<;>exact⟨_,rfl,rfl,X8 hB _ _ _⟩
        |false=>cases bo<;>exact⟨_,rfl,rfl,X8 hB _ _ _⟩
       |false=>
        cases bd with
        |true=>
         cases w with
         |true=>exact⟨_,rfl,rfl,X8 hB _ _ _⟩
         |false=>
          cases bo with
          |false=>exact⟨_,rfl,rfl,X8 hB _ _ _⟩
          |true=>
           obtain⟨r,g1,g2,g3,g4⟩:=go true he hz rfl rfl;generalize r.2.2.2.2.2.1=fs at g2 g3;subst g3;simp only[Yvy,Yvx] at g2;simp only[Yvy,Yvx,beq_self_eq_true,jK,jA,show((0:Int) != 0)=false from rfl,g1,g2]
           exact⟨_,rfl,rfl,g4⟩
        |false=>
         cases bo with
         |true=>exact⟨_,rfl,rfl,X8 hB _ _ _⟩
         |false=>
          obtain⟨r,g1,g2,g3,g4⟩:=go false he hz rfl rfl;generalize r.2.2.2.2.2.1=fs at g2 g3;subst g3;simp only[Yvy,Yvx] at g2;simp only[Yvy,Yvx,beq_self_eq_true,jK,jA,show((0:Int) != 0)=false from rfl,g1,g2];exact⟨_,rfl,rfl,g4⟩
theorem RenamePath.law (x:PT.Els (shs [Xk,.str,.str])) (hf:Ynm [Xk,.str,.str] x) (hw:Ypm [Xk,.str,.str] x≤1048576):Xgu x.1 x.2.1 x.2.2.1=some true:=by
 simp only[Ypm] at hw;have hf0:Fit Xk x.1:=hf.1;have hf1:Fit .str x.2.1:=hf.2.1;have hf2:Fit .str x.2.2.1:=hf.2.2.1
 have hw0:wt Xk x.1≤1048576:=by omega
 have hw1:wt .str x.2.1≤1048576:=by omega
 have hw2:wt .str x.2.2.1≤1048576:=by omega
 clear hw hf;generalize x.2.2.1=a2 at hf2 hw2 ⊢;generalize x.2.1=a1 at hf1 hw1 ⊢;generalize x.1=a0 at hf0 hw0 ⊢;obtain⟨r,hr1,hr2,hr3⟩:=RenamePath.main a0 a1 a2 hf0 hf1 hf2 hw0 hw1 hw2;obtain⟨r_0,r_1,r_2,r_3,r_4,⟨r_5_0,r_5_1,⟨⟩⟩,⟨⟩⟩:=r;replace hr3:wt Xi (r_0,r_1,r_2,r_3,r_4,(r_5_0,r_5_1,()),())≤2147483648:=hr3;replace hr1:Xhm a0 a1 a2=some (r_0,r_1,r_2,r_3,r_4,(r_5_0,r_5_1,()),()):=hr1;replace hr2:Xdh a0 a1 a2=some (r_0,r_1,r_2,r_3,r_4,(r_5_0,r_5_1,()),()):=hr2;have er:=Xme (r_0,r_1,r_2,r_3,r_4,(r_5_0,r_5_1,()),()) hr3
 obtain⟨kr,y0,y1,y2,y3,l1,l2,hm,hh⟩:=Xmj r_0 r_1 r_2 r_3 r_4 r_5_0 r_5_1 1 (by omega) (by omega) hr3
 have to0:=Xl6 a0 (by omega)
 have eq0:=Xk5 a0 (by omega)
 obtain⟨k0,z0_0,z0_1,l0,u0,m0,_⟩:=Xmi a0.1 a0.2.1 1 (by omega) (by show _+((wt Xk a0:Nat):Int)≤_;omega) (by show wt Xk a0≤_;omega)
 have u0:k0≤1+((wt Xk a0:Nat):Int):=u0
 try simp only[Ywr] at m0
 have hsz:∀ g:Option Bool,g=some true→∀ b:Bool,cond b (some true) g=some true:=fun g h b=>by cases b<;>first | rfl | exact h
 simp only[Xgu]
 repeat' (first | with_reducible refine hsz _ ?_ _ | (rw[jA]) | (obtain⟨q,hq⟩:=Xly a0 _ (by omega);rw[hq,jA];clear hq))
 simp only[er,hm,hh,to0,eq0,m0,hr1,hr2,Ywr,jA,jK,Yvx,Yvy,Yu7,Yux,Yuy,Yv4 (by omega:0≤kr),Yv4 (by omega:0≤k0)]
end Mf
