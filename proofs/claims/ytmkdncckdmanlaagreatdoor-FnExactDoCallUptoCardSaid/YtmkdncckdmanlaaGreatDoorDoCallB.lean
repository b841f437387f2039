import Derived.Test.YtmkdncckdmanlaaGreatDoorDoCallA
set_option linter.unusedVariables false
set_option linter.unusedSimpArgs false
noncomputable section
namespace Mf
open Go
set_option maxRecDepth 100000
theorem Xqy (a:(List Int)) (n:Int) (hw:wt (.sl (.int .i64)) a≤2147483648):∃ r,Zq0 a n=some r:=by
 simp only[Zq0]
 repeat' (first | with_reducible exact Ywk _ | with_reducible refine Ywi (Ywk _) fun _=>?_ | with_reducible apply Ywj)
theorem Xqz (a:Xg) (n:Int) (hw:wt Xi a≤2147483648):∃ r,Zq1 a n=some r:=by
 simp only[Zq1]
 repeat' (first | with_reducible exact Ywk _ | with_reducible refine Ywi (Ywk _) fun _=>?_ | with_reducible apply Ywj)
theorem Xq0 (a:(List Xg)) (n:Int) (hw:wt (.sl Xi) a≤2147483648):∃ r,Zq3 a n=some r:=by
 have hw2:=hw;simp only[wA] at hw2
 have hl:a.length≤2147483648:=by have:=Yl1 (wt Xi) (fun x=>by simp only[wA];omega) a;omega
 have lp:∀ k,∃ r,Zq2 a (k,0)=some r:=fun k=>by
  refine Ytg (f:=fun s=>Zq2.B a s.1 s.2) (fun(i:Nat) (k:Int)=>(k,(i:Int))) a.length (fun i k hi=>?_) (fun k=>?_) a.length 0 k (by omega)
  ·have hm:=Yti (wt Xi) a i hi
   have hb:inB (i:Int) a.length=true:=Yuw (by omega) (by omega)
   simp only[Zq2.B,Yw1 hi,hb,Ywg,toNat_cast,getD_lt _ hi,Ywd (by omega:i<4294967296)]
   repeat' (first | with_reducible exact Yws _ | (with_reducible refine .inl ⟨_,rfl,?_⟩;exact⟨_,rfl⟩) | with_reducible refine Yvx (Xqz _ _ (by first | omega | (simp only[wA] at hm ⊢;omega))) fun _=>?_ | with_reducible refine Yvx (Ywk _) fun _=>?_ | with_reducible apply Yvy)
  ·refine⟨.inr k,?_⟩;simp only[Zq2.B,Yww (jB _),Ywf]
 simp only[Zq3]
 repeat' (first | with_reducible exact Ywk _ | with_reducible refine Ywi (lp _) fun o=>?_ | with_reducible refine Ywi (Ywk _) fun _=>?_ | with_reducible apply Ywj | (cases o<;>exact⟨_,rfl⟩))
theorem Xq1 (a:Xb) (n:Int) (hw:wt Xd a≤2147483648):∃ r,Zq4 a n=some r:=by
 simp only[Zq4]
 repeat' (first | with_reducible exact Ywk _ | with_reducible refine Ywi (Xqy _ _ (by first | omega | (simp only[wA] at hw ⊢;omega))) fun _=>?_ | with_reducible refine Ywi (Xq0 _ _ (by first | omega | (simp only[wA] at hw ⊢;omega))) fun _=>?_ | with_reducible refine Ywi (Ywk _) fun _=>?_ | with_reducible apply Ywj)
theorem Xq2 (a:(List Xb)) (n:Int) (hw:wt (.sl Xd) a≤2147483648):∃ r,Zq6 a n=some r:=by
 have hw2:=hw;simp only[wA] at hw2
 have hl:a.length≤2147483648:=by have:=Yl1 (wt Xd) (fun x=>by simp only[wA];omega) a;omega
 have lp:∀ k,∃ r,Zq5 a (k,0)=some r:=fun k=>by
  refine Ytg (f:=fun s=>Zq5.B a s.1 s.2) (fun(i:Nat) (k:Int)=>(k,(i:Int))) a.length (fun i k hi=>?_) (fun k=>?_) a.length 0 k (by omega)
  ·have hm:=Yti (wt Xd) a i hi
   have hb:inB (i:Int) a.length=true:=Yuw (by omega) (by omega)
   simp only[Zq5.B,Yw1 hi,hb,Ywg,toNat_cast,getD_lt _ hi,Ywd (by omega:i<4294967296)]
   repeat' (first | with_reducible exact Yws _ | (with_reducible refine .inl ⟨_,rfl,?_⟩;exact⟨_,rfl⟩) | with_reducible refine Yvx (Xq1 _ _ (by first | omega | (simp only[wA] at hm ⊢;omega))) fun _=>?_ | with_reducible refine Yvx (Ywk _) fun _=>?_ | with_reducible apply Yvy)
  ·refine⟨.inr k,?_⟩;simp only[Zq5.B,Yww (jB _),Ywf]
 simp only[Zq6]
 repeat' (first | with_reducible exact Ywk _ | with_reducible refine Ywi (lp _) fun o=>?_ | with_reducible refine Ywi (Ywk _) fun _=>?_ | with_reducible apply Ywj | (cases o<;>exact⟨_,rfl⟩))
theorem Xpr (a:(List Int)) (n:Int) (hw:wt (.sl (.int .u8)) a≤2147483648):∃ r,Zq7 a n=some r:=by
 simp only[Zq7]
 repeat' (first | with_reducible exact Ywk _ | with_reducible refine Ywi (Ywk _) fun _=>?_ | with_reducible apply Ywj)
theorem Xq3 (a:(List (List Int))) (n:Int) (hw:wt (.sl (.sl (.int .u8))) a≤2147483648):∃ r,Zq9 a n=some r:=by
 have hw2:=hw;simp only[wA] at hw2
 have hl:a.length≤2147483648:=by have:=Yl1 (wt (.sl (.int .u8))) (fun x=>by simp only[wA];omega) a;omega
 have lp:∀ k,∃ r,Zq8 a (k,0)=some r:=fun k=>by
  refine Ytg (f:=fun s=>Zq8.B a s.1 s.2) (fun(i:Nat) (k:Int)=>(k,(i:Int))) a.length (fun i k hi=>?_) (fun k=>?_) a.length 0 k (by omega)
  ·have hm:=Yti (wt (.sl (.int .u8))) a i hi
   have hb:inB (i:Int) a.length=true:=Yuw (by omega) (by omega)
   simp only[Zq8.B,Yw1 hi,hb,Ywg,toNat_cast,getD_lt _ hi,Ywd (by omega:i<4294967296)]
   repeat' (first | with_reducible exact Yws _ | (with_reducible refine .inl ⟨_,rfl,?_⟩;exact⟨_,rfl⟩) | with_reducible refine Yvx (Xpr _ _ (by first | omega | (simp only[wA] at hm ⊢;omega))) fun _=>?_ | with_reducible refine Yvx (Ywk _) fun _=>?_ | with_reducible apply Yvy)
  ·refine⟨.inr k,?_⟩;simp only[Zq8.B,Yww (jB _),Ywf]
 simp only[Zq9]
 repeat' (first | with_reducible exact Ywk _ | with_reducible refine Ywi (lp _) fun o=>?_ | with_reducible refine Ywi (Ywk _) fun _=>?_ | with_reducible apply Ywj | (cases o<;>exact⟨_,rfl⟩))
theorem Xq4 (a:Fs_) (n:Int) (hw:wt Xh a≤2147483648):∃ r,Xmc a n=some r:=by
 simp only[Xmc]
 repeat' (first | with_reducible exact Ywk _ | with_reducible refine Ywi (Xq2 _ _ (by first | omega | (simp only[wA] at hw ⊢;omega))) fun _=>?_ | with_reducible refine Ywi (Xq3 _ _ (by first | omega | (simp only[wA] at hw ⊢;omega))) fun _=>?_ | with_reducible refine Ywi (Ywk _) fun _=>?_ | with_reducible apply Ywj)
theorem Xq5 (a:Xap) (n:Int) (hw:wt Xv a≤2147483648):∃ r,Xmd a n=some r:=by
 simp only[Xmd]
 repeat' (first | with_reducible exact Ywk _ | with_reducible refine Ywi (Xpr _ _ (by first | omega | (simp only[wA] at hw ⊢;omega))) fun _=>?_ | with_reducible refine Ywi (Ywk _) fun _=>?_ | with_reducible apply Ywj)
theorem Xps (a:(List Int)) (hw:wt (.sl (.int .i64)) a≤2147483648):Xhe a=some a:=by
 have hw2:=hw;simp only[wA] at hw2
 have hl:a.length≤2147483648:=by have:=Yl1 (wt (.int .i64)) (fun x=>by simp only[wA];omega) a;omega
 have lp:Xi0 a (0,List.replicate (a.length:Int).toNat 0)=some a:=by
  refine Ywc a (fun s=>Xi0.B a s.1 s.2) 0 (fun i hi out ho=>?_) (fun out ho=>?_)
  ·have hm:=Yti (wt (.int .i64)) a i hi
   have hb:inB (i:Int) a.length=true:=Yuw (by omega) (by omega)
   have hc:inB (i:Int) out.length=true:=Yuw (by omega) (by omega)
   simp only[Xi0.B,Yw1 hi,hb,hc,Ywg,toNat_cast,getD_lt _ hi,jA,Yxc,Ywd (by omega:i<4294967296)]
  ·simp only[Xi0.B];rw[show decide ((a.length:Int)<(a.length:Int))=false by simp];rfl
 simp only[Xhe]
 rw[show(decide ((0:Int)≤(a.length:Int))&&(decide ((a.length:Int)≤(a.length:Int))&&decide ((a.length:Int)≤2147483648)))=true by simp;omega]
 simp only[Ywg,jA,lp]
theorem Xq6 (a:Xg) (hw:wt Xi a≤2147483648):Xme a=some a:=by
 obtain⟨x0,x1,⟨⟩⟩:=a;simp only[wA] at hw;simp only[Xme,jA,Yxc]
theorem Xq7 (a:(List Xg)) (hw:wt (.sl Xi) a≤2147483648):Xi2 a=some a:=by
 have hw2:=hw;simp only[wA] at hw2
 have hl:a.length≤2147483648:=by have:=Yl1 (wt Xi) (fun x=>by simp only[wA];omega) a;omega
 have lp:Xi1 a (0,List.replicate (a.length:Int).toNat Xk)=some a:=by
  refine Ywc a (fun s=>Xi1.B a s.1 s.2) Xk (fun i hi out ho=>?_) (fun out ho=>?_)
  ·have hm:=Yti (wt Xi) a i hi
   have hb:inB (i:Int) a.length=true:=Yuw (by omega) (by omega)
   have hc:inB (i:Int) out.length=true:=Yuw (by omega) (by omega)
   have h0:=Xq6 a[i] (by omega)
   simp only[Xi1.B,Yw1 hi,hb,hc,Ywg,toNat_cast,getD_lt _ hi,h0,jA,Yxc,Ywd (by omega:i<4294967296)]
  ·simp only[Xi1.B];rw[show decide ((a.length:Int)<(a.length:Int))=false by simp];rfl
 simp only[Xi2]
 rw[show(decide ((0:Int)≤(a.length:Int))&&(decide ((a.length:Int)≤(a.length:Int))&&decide ((a.length:Int)≤2147483648)))=true by simp;omega]
 simp only[Ywg,jA,lp]
theorem Xq8 (a:Xb) (hw:wt Xd a≤2147483648):Xmf a=some a:=by
 obtain⟨x0,x1,x2,x3,x4,⟨⟩⟩:=a;simp only[wA] at hw
 have h_x3_0:=Xps x3 (by simp only[wA];omega)
 have h_x4_1:=Xq7 x4 (by simp only[wA];omega)
 simp only[Xmf,h_x3_0,h_x4_1,jA,Yxc]
theorem Xq9 (a:(List Xb)) (hw:wt (.sl Xd) a≤2147483648):Xi4 a=some a:=by
 have hw2:=hw;simp only[wA] at hw2
 have hl:a.length≤2147483648:=by have:=Yl1 (wt Xd) (fun x=>by simp only[wA];omega) a;omega
 have lp:Xi3 a (0,List.replicate (a.length:Int).toNat Xa)=some a:=by
  refine Ywc a (fun s=>Xi3.B a s.1 s.2) Xa (fun i hi out ho=>?_) (fun out ho=>?_)
  ·have hm:=Yti (wt Xd) a i hi
   have hb:inB (i:Int) a.length=true:=Yuw (by omega) (by omega)
   have hc:inB (i:Int) out.length=true:=Yuw (by omega) (by omega)
   have h0:=Xq8 a[i] (by omega)
   simp only[Xi3.B,Yw1 hi,hb,hc,Ywg,toNat_cast,getD_lt _ hi,h0,jA,Yxc,Ywd (by omega:i<4294967296)]
  ·simp only[Xi3.B];rw[show decide ((a.length:Int)<(a.length:Int))=false by simp];rfl
 simp only[Xi4]
 rw[show(decide ((0:Int)≤(a.length:Int))&&(decide ((a.length:Int)≤(a.length:Int))&&decide ((a.length:Int)≤2147483648)))=true by simp;omega]
 simp only[Ywg,jA,lp]
theorem Xpt (a:(List Int)) (hw:wt (.sl (.int .u8)) a≤2147483648):Xkn a=some a:=by
 have hw2:=hw;simp only[wA] at hw2
 have hl:a.length≤2147483648:=by have:=Yl1 (wt (.int .u8)) (fun x=>by simp only[wA];omega) a;omega
 have lp:Xi5 a (0,List.replicate (a.length:Int).toNat 0)=some a:=by
  refine Ywc a (fun s=>Xi5.B a s.1 s.2) 0 (fun i hi out ho=>?_) (fun out ho=>?_)
  ·have hm:=Yti (wt (.int .u8)) a i hi
   have hb:inB (i:Int) a.length=true:=Yuw (by omega) (by omega)
   have hc:inB (i:Int) out.length=true:=Yuw (by omega) (by omega)
   simp only[Xi5.B,Yw1 hi,hb,hc,Ywg,toNat_cast,getD_lt _ hi,jA,Yxc,Ywd (by omega:i<4294967296)]
  ·simp only[Xi5.B];rw[show decide ((a.length:Int)<(a.length:Int))=false by simp];rfl
 simp only[Xkn]
 rw[show(decide ((0:Int)≤(a.length:Int))&&(decide ((a.length:Int)≤(a.length:Int))&&decide ((a.length:Int)≤2147483648)))=true by simp;omega]
 simp only[Ywg,jA,lp]
theorem Xra (a:(List (List Int))) (hw:wt (.sl (.sl (.int .u8))) a≤2147483648):Xi7 a=some a:=by
 have hw2:=hw;simp only[wA] at hw2
 have hl:a.length≤2147483648:=by have:=Yl1 (wt (.sl (.int .u8))) (fun x=>by simp only[wA];omega) a;omega
 have lp:Xi6 a (0,List.replicate (a.length:Int).toNat ([]:List Int))=some a:=by
  refine Ywc a (fun s=>Xi6.B a s.1 s.2) [] (fun i hi out ho=>?_) (fun out ho=>?_)
  ·have hm:=Yti (wt (.sl (.int .u8))) a i hi
   have hb:inB (i:Int) a.length=true:=Yuw (by omega) (by omega)
   have hc:inB (i:Int) out.length=true:=Yuw (by omega) (by omega)
   have h0:=Xpt a[i] (by omega)
   simp only[Xi6.B,Yw1 hi,hb,hc,Ywg,toNat_cast,getD_lt _ hi,h0,jA,Yxc,Ywd (by omega:i<4294967296)]
  ·simp only[Xi6.B];rw[show decide ((a.length:Int)<(a.length:Int))=false by simp];rfl
 simp only[Xi7]
 rw[show(decide ((0:Int)≤(a.length:Int))&&(decide ((a.length:Int)≤(a.length:Int))&&decide ((a.length:Int)≤2147483648)))=true by simp;omega]
 simp only[Ywg,jA,lp]
theorem Xrb (a:Fs_) (hw:wt Xh a≤2147483648):Xko a=some a:=by
 obtain⟨x0,x1,⟨⟩⟩:=a;simp only[wA] at hw
 have h_x0_0:=Xq9 x0 (by simp only[wA];omega)
 have h_x1_1:=Xra x1 (by simp only[wA];omega)
 simp only[Xko,h_x0_0,h_x1_1,jA,Yxc]
theorem Xrc (a:Xap) (hw:wt Xv a≤2147483648):Xkp a=some a:=by
 obtain⟨x0,x1,x2,x3,x4,x5,⟨⟩⟩:=a;simp only[wA] at hw
 have h_x5_0:=Xpt x5 (by simp only[wA];omega)
 simp only[Xkp,h_x5_0,jA,Yxc]
theorem Xop (a:(List Int)) (hw:wt (.sl (.int .u8)) a≤2147483648):Xb9 a a=some true:=by
 have hw2:=hw;simp only[wA] at hw2
 have hl:a.length≤2147483648:=by have:=Yl1 (wt (.int .u8)) (fun x=>by simp only[wA];omega) a;omega
 have lp:Xd7 a a 0=some (.inr ()):=by
  refine Yvw (n:=a.length) (fun s=>Xd7.B a a s) (fun i hi=>?_) ?_
  ·have hm:=Yti (wt (.int .u8)) a i hi
   have hb:inB (i:Int) a.length=true:=Yuw (by omega) (by omega)
   simp only[Xd7.B,Yw1 hi,hb,Ywg,Ywf,toNat_cast,getD_lt _ hi,jA,jK,Yvo,Yvf,Yve,Ywd (by omega:i<4294967296)]
  ·simp only[Xd7.B,Yww (jB _),Ywf]
 simp only[Xb9,Yvo,Ywf,lp,jA,sel]
theorem Xrd (a:(List (List UInt8))) (hw:wt (.sl .str) a≤2147483648):Xif a a=some true:=by
 have hw2:=hw;simp only[wA] at hw2
 have hl:a.length≤2147483648:=by have:=Yl1 (wt .str) (fun x=>by simp only[wA];omega) a;omega
 have lp:Xd8 a a 0=some (.inr ()):=by
  refine Yvw (n:=a.length) (fun s=>Xd8.B a a s) (fun i hi=>?_) ?_
  ·have hm:=Yti (wt .str) a i hi
   have hb:inB (i:Int) a.length=true:=Yuw (by omega) (by omega)
   simp only[Xd8.B,Yw1 hi,hb,Ywg,Ywf,toNat_cast,getD_lt _ hi,jA,jK,Yvo,Yvf,Yve,Ywd (by omega:i<4294967296)]
  ·simp only[Xd8.B,Yww (jB _),Ywf]
 simp only[Xif,Yvo,Ywf,lp,jA,sel]
theorem Xpu (a:(List Int)) (hw:wt (.sl (.int .i64)) a≤2147483648):Xfu a a=some true:=by
 have hw2:=hw;simp only[wA] at hw2
 have hl:a.length≤2147483648:=by have:=Yl1 (wt (.int .i64)) (fun x=>by simp only[wA];omega) a;omega
 have lp:Xd9 a a 0=some (.inr ()):=by
  refine Yvw (n:=a.length) (fun s=>Xd9.B a a s) (fun i hi=>?_) ?_
  ·have hm:=Yti (wt (.int .i64)) a i hi
   have hb:inB (i:Int) a.length=true:=Yuw (by omega) (by omega)
   simp only[Xd9.B,Yw1 hi,hb,Ywg,Ywf,toNat_cast,getD_lt _ hi,jA,jK,Yvo,Yvf,Yve,Ywd (by omega:i<4294967296)]
  ·simp only[Xd9.B,Yww (jB _),Ywf]
 simp only[Xfu,Yvo,Ywf,lp,jA,sel]
theorem Xre (a:Xg) (hw:wt Xi a≤2147483648):Xig a a=some true:=by
 obtain⟨x0,x1,⟨⟩⟩:=a;simp only[wA] at hw;simp only[Xig,jA,jK,Yvo,Yvf,Yve,Ywf,Ywg]
theorem Xrf (a:(List Xg)) (hw:wt (.sl Xi) a≤2147483648):Xeb a a=some true:=by
 have hw2:=hw;simp only[wA] at hw2
 have hl:a.length≤2147483648:=by have:=Yl1 (wt Xi) (fun x=>by simp only[wA];omega) a;omega
 have lp:Xea a a 0=some (.inr ()):=by
  refine Yvw (n:=a.length) (fun s=>Xea.B a a s) (fun i hi=>?_) ?_
  ·have hm:=Yti (wt Xi) a i hi
   have hb:inB (i:Int) a.length=true:=Yuw (by omega) (by omega)
   have h0:=Xre a[i] (by omega)
   simp only[Xea.B,Yw1 hi,hb,Ywg,Ywf,toNat_cast,getD_lt _ hi,h0,jA,jK,Yvo,Yvf,Yve,Ywd (by omega:i<4294967296)]
  ·simp only[Xea.B,Yww (jB _),Ywf]
 simp only[Xeb,Yvo,Ywf,lp,jA,sel]
theorem Xrg (a:Xb) (hw:wt Xd a≤2147483648):Xih a a=some true:=by
 obtain⟨x0,x1,x2,x3,x4,⟨⟩⟩:=a;simp only[wA] at hw
 have h_x3_0:=Xpu x3 (by simp only[wA];omega)
 have h_x4_1:=Xrf x4 (by simp only[wA];omega)
 simp only[Xih,h_x3_0,h_x4_1,jA,jK,Yvo,Yvf,Yve,Ywf,Ywg]
theorem Xrh (a:(List Xb)) (hw:wt (.sl Xd) a≤2147483648):Xed a a=some true:=by
 have hw2:=hw;simp only[wA] at hw2
 have hl:a.length≤2147483648:=by have:=Yl1 (wt Xd) (fun x=>by simp only[wA];omega) a;omega
 have lp:Xec a a 0=some (.inr ()):=by
  refine Yvw (n:=a.length) (fun s=>Xec.B a a s) (fun i hi=>?_) ?_
  ·have hm:=Yti (wt Xd) a i hi
   have hb:inB (i:Int) a.length=true:=Yuw (by omega) (by omega)
   have h0:=Xrg a[i] (by omega)
   simp only[Xec.B,Yw1 hi,hb,Ywg,Ywf,toNat_cast,getD_lt _ hi,h0,jA,jK,Yvo,Yvf,Yve,Ywd (by omega:i<4294967296)]
  ·simp only[Xec.B,Yww (jB _),Ywf]
 simp only[Xed,Yvo,Ywf,lp,jA,sel]
theorem Xri (a:(List (List Int))) (hw:wt (.sl (.sl (.int .u8))) a≤2147483648):Xef a a=some true:=by
 have hw2:=hw;simp only[wA] at hw2
 have hl:a.length≤2147483648:=by have:=Yl1 (wt (.sl (.int .u8))) (fun x=>by simp only[wA];omega) a;omega
 have lp:Xee a a 0=some (.inr ()):=by
  refine Yvw (n:=a.length) (fun s=>Xee.B a a s) (fun i hi=>?_) ?_
  ·have hm:=Yti (wt (.sl (.int .u8))) a i hi
   have hb:inB (i:Int) a.length=true:=Yuw (by omega) (by omega)
   have h0:=Xop a[i] (by omega)
   simp only[Xee.B,Yw1 hi,hb,Ywg,Ywf,toNat_cast,getD_lt _ hi,h0,jA,jK,Yvo,Yvf,Yve,Ywd (by omega:i<4294967296)]
  ·simp only[Xee.B,Yww (jB _),Ywf]
 simp only[Xef,Yvo,Ywf,lp,jA,sel]
theorem Xpv (a:Fs_) (hw:wt Xh a≤2147483648):Xfv a a=some true:=by
 obtain⟨x0,x1,⟨⟩⟩:=a;simp only[wA] at hw
 have h_x0_0:=Xrh x0 (by simp only[wA];omega)
 have h_x1_1:=Xri x1 (by simp only[wA];omega)
 simp only[Xfv,h_x0_0,h_x1_1,jA,jK,Yvo,Yvf,Yve,Ywf,Ywg]
theorem Xrj (a:Xo) (hw:wt Xj a≤2147483648):Xf9 a a=some true:=by
 obtain⟨x0,x1,x2,x3,x4,x5,⟨⟩⟩:=a;simp only[wA] at hw
 have h_x3_0:=Xop x3 (by simp only[wA];omega)
 have h_x4_1:=Xrd x4 (by simp only[wA];omega)
 have h_x5_2:=Xpv x5 (by simp only[wA];omega)
 simp only[Xf9,h_x3_0,h_x4_1,h_x5_2,jA,jK,Yvo,Yvf,Yve,Ywf,Ywg]
theorem Xrk (a:Xap) (hw:wt Xv a≤2147483648):Xii a a=some true:=by
 obtain⟨x0,x1,x2,x3,x4,x5,⟨⟩⟩:=a;simp only[wA] at hw
 have h_x5_0:=Xop x5 (by simp only[wA];omega)
 simp only[Xii,h_x5_0,jA,jK,Yvo,Yvf,Yve,Ywf,Ywg]
theorem Xpw:∀ (n:Nat) (k:Int) (out:List UInt8),0≤k→k<10 ^ n→out.length+n≤2147483648→k≤4611686018427387904→∃ s,Xeg (k,out)=some s∧s.length≤out.length+n
 |0,k,out,h0,h1,h2,h3=>by
  have:k=0:=by simp at h1;omega
  subst this
  exact⟨out,Yas (by simp only[Xeg.B];rfl),by omega⟩
 |n+1,k,out,h0,h1,h2,h3=>by
  by_cases hk:k=0
  ·subst hk;exact⟨out,Yas (by simp only[Xeg.B];rfl),by omega⟩
  ·have hd:k.tdiv 10=k / 10:=Int.tdiv_eq_ediv_of_nonneg h0
   have hq:w64 (k / 10)=k / 10:=Yss (by omega) (by omega)
   have hp:k / 10<10 ^ n:=by rw[Int.pow_succ] at h1;omega
   obtain⟨s,hs,hl⟩:=Xpw n (k / 10) ((([IntKind.u8.wrap (w64 ((48:Int)+(k.tmod 10)))]).map fun n=>UInt8.ofNat n.toNat)++out) (by omega) hp (by simp;omega) (by omega)
   refine⟨s,?_,by simp at hl;omega⟩
   rw[←hs];refine Ybd (s':=(k / 10,_)) ?_
   simp only[Xeg.B,show decide (k>0)=true by simp;omega,Ywg,show(!((10:Int) == 0))=true from rfl,jA,hd,hq]
   rw[show decide ((([IntKind.u8.wrap (w64 ((48:Int)+(k.tmod 10)))]).map fun n=>UInt8.ofNat n.toNat).length+out.length≤2147483648)=true by simp;omega]
   rfl
theorem Xpx (k:Int) (h:0≤k) (hk:k≤4611686018427387904):∃ s,Xbf k=some s:=by
 obtain⟨s,hs,hl⟩:=Xpw 19 k [] h (by omega) (by simp) hk
 simp only[Xbf];cases decide (k≤0)
 ·simp only[Ywf,hs,jA]
  rw[show decide (([109]:List UInt8).length+s.length≤2147483648)=true by simp at hl ⊢;omega]
  exact⟨_,rfl⟩
 ·exact⟨_,rfl⟩
theorem Xoq (a:(List Int)) (k:Int) (hk:0≤k) (hw:k+wt (.sl (.int .u8)) a≤4611686018427387904) (hz:wt (.sl (.int .u8)) a≤2147483648):MH Xca Xfx (wt (.sl (.int .u8)) a) a k:=by
 simp only[wA] at hw hz
 have hl:a.length≤2147483648:=by have:=Yl1 (wt (.int .u8)) (fun x=>by simp only[wA];omega) a;omega
 have hs:∀ (k:Int) (i:Nat) (a:(List Int)) (h:i<a.length),a.length≤2147483648→0≤k→k+wt (.int .u8) a[i]≤4611686018427387904→wt (.int .u8) a[i]≤2147483648→∃ k2 x2,k≤k2∧k2≤k+wt (.int .u8) a[i]∧Xcy.B k (i:Int) a=some (.inl (k2,((i+1:Nat):Int),a.set i x2))∧∀ b:(List Int),b.length=a.length→b[i]? = some x2→Xc1.B b k (i:Int)=some (.inl (k2,((i+1:Nat):Int))):=by
  clear hw hz hl hk k a;intro k i a hi hl hk hw hz
  have hb:inB (i:Int) a.length=true:=Yuw (by omega) (by omega)
  simp only[wA] at hw hz
  have w1:w64 (k+1)=k+1:=Yxd (by omega) (by omega)
  refine⟨k+1,(IntKind.u8.wrap (k)),by omega,by simp only[wA];omega,?_,fun b hlb hx=>?_⟩
  ·simp only[Xcy.B,Yw1 hi,hb,Ywg,toNat_cast,getD_lt _ hi,jA,w1,Ywd (by omega:i<4294967296),kM,kC,Yv1 _ _ hi,show(!((3:Int) == 0))=true from rfl]
  ·have hc:inB (i:Int) b.length=true:=Yuw (by omega) (by omega)
   have hd:decide ((i:Int)<(b.length:Int))=true:=Yw1 (by omega)
   simp only[Xc1.B,hd,hc,Ywg,Ywf,toNat_cast,Ywl _ hx,jA,Yvo,Yvf,Yve,jK,w1,Ywd (by omega:i<4294967296),kM,kC,Yv1 _ _ hi,show(!((3:Int) == 0))=true from rfl]
 obtain⟨k2,a2,e1,e2,e3,e4⟩:=Yu1 (wt (.int .u8)) 4611686018427387904 (fun s=>Xcy.B s.1 s.2.1 s.2.2) (fun b s=>Xc1.B b s.1 s.2) (fun k a=>by simp only[Xcy.B,Yww (jB _),Ywf]) (fun k a=>by simp only[Xc1.B,Yww (jB _),Ywf]) hs k a hl hk (by omega) (by omega)
 refine⟨k2,a2,e1,by simp only[wA];omega,?_,?_⟩
 ·have:Xcy (k,0,a)=some (k2,a2):=e3
  simp only[Xca,this,jA]
 ·have:Xc1 a2 (k,0)=some (.inr k2):=e4
  simp only[Xfx,this,jA,sel]
theorem Xrl (x_0:Int) (x_1:List UInt8) (x_2:List UInt8) (x_3:Int) (x_4:Int) (x_5:List Int) (k:Int) (hk:0≤k) (hw:k+wt Xv (x_0,x_1,x_2,x_3,x_4,x_5,())≤4611686018427387904) (hz:wt Xv (x_0,x_1,x_2,x_3,x_4,x_5,())≤2147483648):∃ k2 y0,k≤k2∧k2≤k+wt Xv (x_0,x_1,x_2,x_3,x_4,x_5,())∧Xij (x_0,x_1,x_2,x_3,x_4,x_5,()) k=some (k2,(x_0,x_1,x_2,x_3,x_4,y0,())):=by
 simp only[wA] at hw hz
 obtain⟨k0,y0,l0,u0,w0⟩:=MH.mk (Xoq x_5 k (by omega) (by simp only[wA];omega) (by simp only[wA];omega))
 simp only[wA] at u0
 refine⟨k0,y0,by omega,by simp only[wA];omega,?_⟩
 simp only[Xij,w0,jA,Yxc]
theorem Xrm (a:(List (List UInt8))) (k:Int) (hk:0≤k) (hw:k+wt (.sl .str) a≤4611686018427387904) (hz:wt (.sl .str) a≤2147483648):MH Xel Xem (wt (.sl .str) a) a k:=by
 simp only[wA] at hw hz
 have hl:a.length≤2147483648:=by have:=Yl1 (wt .str) (fun x=>by simp only[wA];omega) a;omega
 have hs:∀ (k:Int) (i:Nat) (a:(List (List UInt8))) (h:i<a.length),a.length≤2147483648→0≤k→k+wt .str a[i]≤4611686018427387904→wt .str a[i]≤2147483648→∃ k2 x2,k≤k2∧k2≤k+wt .str a[i]∧Xc0.B k (i:Int) a=some (.inl (k2,((i+1:Nat):Int),a.set i x2))∧∀ b:(List (List UInt8)),b.length=a.length→b[i]? = some x2→Xc2.B b k (i:Int)=some (.inl (k2,((i+1:Nat):Int))):=by
  clear hw hz hl hk k a;intro k i a hi hl hk hw hz
  have hb:inB (i:Int) a.length=true:=Yuw (by omega) (by omega)
  simp only[wA] at hw hz
  obtain⟨s1,w1⟩:=Xpx (k) (by omega) (by omega)
  have w2:w64 (k+1)=k+1:=Yxd (by omega) (by omega)
  refine⟨k+1,s1,by omega,by simp only[wA];omega,?_,fun b hlb hx=>?_⟩
  ·simp only[Xc0.B,Yw1 hi,hb,Ywg,toNat_cast,getD_lt _ hi,jA,w1,w2,Ywd (by omega:i<4294967296),kM,kC,Yv1 _ _ hi,show(!((3:Int) == 0))=true from rfl]
  ·have hc:inB (i:Int) b.length=true:=Yuw (by omega) (by omega)
   have hd:decide ((i:Int)<(b.length:Int))=true:=Yw1 (by omega)
   simp only[Xc2.B,hd,hc,Ywg,Ywf,toNat_cast,Ywl _ hx,jA,Yvo,Yvf,Yve,jK,w1,w2,Ywd (by omega:i<4294967296),kM,kC,Yv1 _ _ hi,show(!((3:Int) == 0))=true from rfl]
 obtain⟨k2,a2,e1,e2,e3,e4⟩:=Yu1 (wt .str) 4611686018427387904 (fun s=>Xc0.B s.1 s.2.1 s.2.2) (fun b s=>Xc2.B b s.1 s.2) (fun k a=>by simp only[Xc0.B,Yww (jB _),Ywf]) (fun k a=>by simp only[Xc2.B,Yww (jB _),Ywf]) hs k a hl hk (by omega) (by omega)
 refine⟨k2,a2,e1,by simp only[wA];omega,?_,?_⟩
 ·have:Xc0 (k,0,a)=some (k2,a2):=e3
  simp only[Xel,this,jA]
 ·have:Xc2 a2 (k,0)=some (.inr k2):=e4
  simp only[Xem,this,jA,sel]
theorem Xpy (a:(List Int)) (k:Int) (hk:0≤k) (hw:k+wt (.sl (.int .i64)) a≤4611686018427387904) (hz:wt (.sl (.int .i64)) a≤2147483648):MH Xfw Xil (wt (.sl (.int .i64)) a) a k:=by
 simp only[wA] at hw hz
 have hl:a.length≤2147483648:=by have:=Yl1 (wt (.int .i64)) (fun x=>by simp only[wA];omega) a;omega
 have hs:∀ (k:Int) (i:Nat) (a:(List Int)) (h:i<a.length),a.length≤2147483648→0≤k→k+wt (.int .i64) a[i]≤4611686018427387904→wt (.int .i64) a[i]≤2147483648→∃ k2 x2,k≤k2∧k2≤k+wt (.int .i64) a[i]∧Xcv.B k (i:Int) a=some (.inl (k2,((i+1:Nat):Int),a.set i x2))∧∀ b:(List Int),b.length=a.length→b[i]? = some x2→Xc3.B b k (i:Int)=some (.inl (k2,((i+1:Nat):Int))):=by
  clear hw hz hl hk k a;intro k i a hi hl hk hw hz
  have hb:inB (i:Int) a.length=true:=Yuw (by omega) (by omega)
  simp only[wA] at hw hz
  have w1:w64 (k+1)=k+1:=Yxd (by omega) (by omega)
  refine⟨k+1,k,by omega,by simp only[wA];omega,?_,fun b hlb hx=>?_⟩
  ·simp only[Xcv.B,Yw1 hi,hb,Ywg,toNat_cast,getD_lt _ hi,jA,w1,Ywd (by omega:i<4294967296),kM,kC,Yv1 _ _ hi,show(!((3:Int) == 0))=true from rfl]
  ·have hc:inB (i:Int) b.length=true:=Yuw (by omega) (by omega)
   have hd:decide ((i:Int)<(b.length:Int))=true:=Yw1 (by omega)
   simp only[Xc3.B,hd,hc,Ywg,Ywf,toNat_cast,Ywl _ hx,jA,Yvo,Yvf,Yve,jK,w1,Ywd (by omega:i<4294967296),kM,kC,Yv1 _ _ hi,show(!((3:Int) == 0))=true from rfl]
 obtain⟨k2,a2,e1,e2,e3,e4⟩:=Yu1 (wt (.int .i64)) 4611686018427387904 (fun s=>Xcv.B s.1 s.2.1 s.2.2) (fun b s=>Xc3.B b s.1 s.2) (fun k a=>by simp only[Xcv.B,Yww (jB _),Ywf]) (fun k a=>by simp only[Xc3.B,Yww (jB _),Ywf]) hs k a hl hk (by omega) (by omega)
 refine⟨k2,a2,e1,by simp only[wA];omega,?_,?_⟩
 ·have:Xcv (k,0,a)=some (k2,a2):=e3
  simp only[Xfw,this,jA]
 ·have:Xc3 a2 (k,0)=some (.inr k2):=e4
  simp only[Xil,this,jA,sel]
theorem Xrn (a:(List Xg)) (k:Int) (hk:0≤k) (hw:k+wt (.sl Xi) a≤4611686018427387904) (hz:wt (.sl Xi) a≤2147483648):MH Xeh Xen (wt (.sl Xi) a) a k:=by
 simp only[wA] at hw hz
 have hl:a.length≤2147483648:=by have:=Yl1 (wt Xi) (fun x=>by simp only[wA];omega) a;omega
 have hs:∀ (k:Int) (i:Nat) (a:(List Xg)) (h:i<a.length),a.length≤2147483648→0≤k→k+wt Xi a[i]≤4611686018427387904→wt Xi a[i]≤2147483648→∃ k2 x2,k≤k2∧k2≤k+wt Xi a[i]∧Xcw.B k (i:Int) a=some (.inl (k2,((i+1:Nat):Int),a.set i x2))∧∀ b:(List Xg),b.length=a.length→b[i]? = some x2→Xc4.B b k (i:Int)=some (.inl (k2,((i+1:Nat):Int))):=by
  clear hw hz hl hk k a;intro k i a hi hl hk hw hz
  have hb:inB (i:Int) a.length=true:=Yuw (by omega) (by omega)
  simp only[wA] at hw hz
  obtain⟨s1,w1⟩:=Xpx (k) (by omega) (by omega)
  have w2:w64 (k+1)=k+1:=Yxd (by omega) (by omega)
  have w3:w64 (k+1+1)=k+1+1:=Yxd (by omega) (by omega)
  refine⟨k+1+1,(s1,k+1,()),by omega,by simp only[wA];omega,?_,fun b hlb hx=>?_⟩
  ·simp only[Xcw.B,Yw1 hi,hb,Ywg,toNat_cast,getD_lt _ hi,jA,w1,w2,w3,Ywd (by omega:i<4294967296),kM,kC,Yv1 _ _ hi,show(!((3:Int) == 0))=true from rfl]
  ·have hc:inB (i:Int) b.length=true:=Yuw (by omega) (by omega)
   have hd:decide ((i:Int)<(b.length:Int))=true:=Yw1 (by omega)
   simp only[Xc4.B,hd,hc,Ywg,Ywf,toNat_cast,Ywl _ hx,jA,Yvo,Yvf,Yve,jK,w1,w2,w3,Ywd (by omega:i<4294967296),kM,kC,Yv1 _ _ hi,show(!((3:Int) == 0))=true from rfl]
 obtain⟨k2,a2,e1,e2,e3,e4⟩:=Yu1 (wt Xi) 4611686018427387904 (fun s=>Xcw.B s.1 s.2.1 s.2.2) (fun b s=>Xc4.B b s.1 s.2) (fun k a=>by simp only[Xcw.B,Yww (jB _),Ywf]) (fun k a=>by simp only[Xc4.B,Yww (jB _),Ywf]) hs k a hl hk (by omega) (by omega)
 refine⟨k2,a2,e1,by simp only[wA];omega,?_,?_⟩
 ·have:Xcw (k,0,a)=some (k2,a2):=e3
  simp only[Xeh,this,jA]
 ·have:Xc4 a2 (k,0)=some (.inr k2):=e4
  simp only[Xen,this,jA,sel]
theorem Xpz (a:(List Xb)) (k:Int) (hk:0≤k) (hw:k+wt (.sl Xd) a≤4611686018427387904) (hz:wt (.sl Xd) a≤2147483648):MH Xei Xeo (wt (.sl Xd) a) a k:=by
 simp only[wA] at hw hz
 have hl:a.length≤2147483648:=by have:=Yl1 (wt Xd) (fun x=>by simp only[wA];omega) a;omega
 have hs:∀ (k:Int) (i:Nat) (a:(List Xb)) (h:i<a.length),a.length≤2147483648→0≤k→k+wt Xd a[i]≤4611686018427387904→wt Xd a[i]≤2147483648→∃ k2 x2,k≤k2∧k2≤k+wt Xd a[i]∧Xcx.B k (i:Int) a=some (.inl (k2,((i+1:Nat):Int),a.set i x2))∧∀ b:(List Xb),b.length=a.length→b[i]? = some x2→Xc5.B b k (i:Int)=some (.inl (k2,((i+1:Nat):Int))):=by
  clear hw hz hl hk k a;intro k i a hi hl hk hw hz
  have hb:inB (i:Int) a.length=true:=Yuw (by omega) (by omega)
  simp only[wA] at hw hz
  have w1:w64 (k+1)=k+1:=Yxd (by omega) (by omega)
  have w2:w64 (k+1+1)=k+1+1:=Yxd (by omega) (by omega)
  have w3:w64 (k+1+1+1)=k+1+1+1:=Yxd (by omega) (by omega)
  obtain⟨k4,y4,l4,u4,w4,v4⟩:=Xpy a[i].2.2.2.1 (k+1+1+1) (by omega) (by simp only[wA];omega) (by simp only[wA];omega)
  simp only[wA] at u4
  obtain⟨k5,y5,l5,u5,w5,v5⟩:=Xrn a[i].2.2.2.2.1 (k4) (by omega) (by simp only[wA];omega) (by simp only[wA];omega)
  simp only[wA] at u5
  refine⟨k5,(k,k+1,k+1+1,y4,y5,()),by omega,by simp only[wA];omega,?_,fun b hlb hx=>?_⟩
  ·simp only[Xcx.B,Yw1 hi,hb,Ywg,toNat_cast,getD_lt _ hi,jA,w1,w2,w3,v4,w4,v5,w5,Ywd (by omega:i<4294967296),kM,kC,Yv1 _ _ hi,show(!((3:Int) == 0))=true from rfl]
  ·have hc:inB (i:Int) b.length=true:=Yuw (by omega) (by omega)
   have hd:decide ((i:Int)<(b.length:Int))=true:=Yw1 (by omega)
   simp only[Xc5.B,hd,hc,Ywg,Ywf,toNat_cast,Ywl _ hx,jA,Yvo,Yvf,Yve,jK,w1,w2,w3,v4,w4,v5,w5,Ywm (by omega:0≤k4),Ywm (by omega:0≤k5),Ywd (by omega:i<4294967296),kM,kC,Yv1 _ _ hi,show(!((3:Int) == 0))=true from rfl]
 obtain⟨k2,a2,e1,e2,e3,e4⟩:=Yu1 (wt Xd) 4611686018427387904 (fun s=>Xcx.B s.1 s.2.1 s.2.2) (fun b s=>Xc5.B b s.1 s.2) (fun k a=>by simp only[Xcx.B,Yww (jB _),Ywf]) (fun k a=>by simp only[Xc5.B,Yww (jB _),Ywf]) hs k a hl hk (by omega) (by omega)
 refine⟨k2,a2,e1,by simp only[wA];omega,?_,?_⟩
 ·have:Xcx (k,0,a)=some (k2,a2):=e3
  simp only[Xei,this,jA]
 ·have:Xc5 a2 (k,0)=some (.inr k2):=e4
  simp only[Xeo,this,jA,sel]
theorem Xp0 (a:(List (List Int))) (k:Int) (hk:0≤k) (hw:k+wt (.sl (.sl (.int .u8))) a≤4611686018427387904) (hz:wt (.sl (.sl (.int .u8))) a≤2147483648):MH Xej Xep (wt (.sl (.sl (.int .u8))) a) a k:=by
 simp only[wA] at hw hz
 have hl:a.length≤2147483648:=by have:=Yl1 (wt (.sl (.int .u8))) (fun x=>by simp only[wA];omega) a;omega
 have hs:∀ (k:Int) (i:Nat) (a:(List (List Int))) (h:i<a.length),a.length≤2147483648→0≤k→k+wt (.sl (.int .u8)) a[i]≤4611686018427387904→wt (.sl (.int .u8)) a[i]≤2147483648→∃ k2 x2,k≤k2∧k2≤k+wt (.sl (.int .u8)) a[i]∧Xcz.B k (i:Int) a=some (.inl (k2,((i+1:Nat):Int),a.set i x2))∧∀ b:(List (List Int)),b.length=a.length→b[i]? = some x2→Xc6.B b k (i:Int)=some (.inl (k2,((i+1:Nat):Int))):=by
  clear hw hz hl hk k a;intro k i a hi hl hk hw hz
  have hb:inB (i:Int) a.length=true:=Yuw (by omega) (by omega)
  simp only[wA] at hw hz
  obtain⟨k1,y1,l1,u1,w1,v1⟩:=Xoq a[i] (k) (by omega) (by simp only[wA];omega) (by simp only[wA];omega)
  simp only[wA] at u1
  refine⟨k1,y1,by omega,by simp only[wA];omega,?_,fun b hlb hx=>?_⟩
  ·simp only[Xcz.B,Yw1 hi,hb,Ywg,toNat_cast,getD_lt _ hi,jA,v1,w1,Ywd (by omega:i<4294967296),kM,kC,Yv1 _ _ hi,show(!((3:Int) == 0))=true from rfl]
  ·have hc:inB (i:Int) b.length=true:=Yuw (by omega) (by omega)
   have hd:decide ((i:Int)<(b.length:Int))=true:=Yw1 (by omega)
   simp only[Xc6.B,hd,hc,Ywg,Ywf,toNat_cast,Ywl _ hx,jA,Yvo,Yvf,Yve,jK,v1,w1,Ywm (by omega:0≤k1),Ywd (by omega:i<4294967296),kM,kC,Yv1 _ _ hi,show(!((3:Int) == 0))=true from rfl]
 obtain⟨k2,a2,e1,e2,e3,e4⟩:=Yu1 (wt (.sl (.int .u8))) 4611686018427387904 (fun s=>Xcz.B s.1 s.2.1 s.2.2) (fun b s=>Xc6.B b s.1 s.2) (fun k a=>by simp only[Xcz.B,Yww (jB _),Ywf]) (fun k a=>by simp only[Xc6.B,Yww (jB _),Ywf]) hs k a hl hk (by omega) (by omega)
 refine⟨k2,a2,e1,by simp only[wA];omega,?_,?_⟩
 ·have:Xcz (k,0,a)=some (k2,a2):=e3
  simp only[Xej,this,jA]
 ·have:Xc6 a2 (k,0)=some (.inr k2):=e4
  simp only[Xep,this,jA,sel]
theorem Xro (x_0:List Xb) (x_1:List (List Int)) (k:Int) (hk:0≤k) (hw:k+wt Xh (x_0,x_1,())≤4611686018427387904) (hz:wt Xh (x_0,x_1,())≤2147483648):∃ k2 y0 y1,k≤k2∧k2≤k+wt Xh (x_0,x_1,())∧Xek (x_0,x_1,()) k=some (k2,(y0,y1,()))∧Xg8 (y0,y1,()) k=some k2:=by
 simp only[wA] at hw hz
 obtain⟨k0,y0,l0,u0,w0,v0⟩:=Xpz x_0 k (by omega) (by simp only[wA];omega) (by simp only[wA];omega)
 simp only[wA] at u0
 obtain⟨k1,y1,l1,u1,w1,v1⟩:=Xp0 x_1 k0 (by omega) (by simp only[wA];omega) (by simp only[wA];omega)
 simp only[wA] at u1
 refine⟨k1,y0,y1,by omega,by simp only[wA];omega,?_,?_⟩
 ·simp only[Xek,w0,w1,jA,Yxc]
 ·simp only[Xg8,v0,v1,jA,Ywf,Ywm (by omega:0≤k0),Ywm (by omega:0≤k1)]
theorem Xrp (x_0:Int) (x_1:Int) (x_2:Int) (x_3:List Int) (x_4:List (List UInt8)) (x_5_0:List Xb) (x_5_1:List (List Int)) (k:Int) (hk:0≤k) (hw:k+wt Xj (x_0,x_1,x_2,x_3,x_4,(x_5_0,x_5_1,()),())≤4611686018427387904) (hz:wt Xj (x_0,x_1,x_2,x_3,x_4,(x_5_0,x_5_1,()),())≤2147483648):∃ k2 y0 y1 y2 y3,k≤k2∧k2≤k+wt Xj (x_0,x_1,x_2,x_3,x_4,(x_5_0,x_5_1,()),())∧Xik (x_0,x_1,x_2,x_3,x_4,(x_5_0,x_5_1,()),()) k=some (k2,(x_0,x_1,x_2,y0,y1,(y2,y3,()),()))∧Xg9 (x_0,x_1,x_2,y0,y1,(y2,y3,()),()) k=some k2:=by
 simp only[wA] at hw hz
 obtain⟨k0,y0,l0,u0,w0,v0⟩:=Xoq x_3 k (by omega) (by simp only[wA];omega) (by simp only[wA];omega)
 simp only[wA] at u0
 obtain⟨k1,y1,l1,u1,w1,v1⟩:=Xrm x_4 k0 (by omega) (by simp only[wA];omega) (by simp only[wA];omega)
 simp only[wA] at u1
 obtain⟨k2,y2,l2,u2,w2,v2⟩:=Xpz x_5_0 k1 (by omega) (by simp only[wA];omega) (by simp only[wA];omega)
 simp only[wA] at u2
 obtain⟨k3,y3,l3,u3,w3,v3⟩:=Xp0 x_5_1 k2 (by omega) (by simp only[wA];omega) (by simp only[wA];omega)
 simp only[wA] at u3
 refine⟨k3,y0,y1,y2,y3,by omega,by simp only[wA];omega,?_,?_⟩
 ·simp only[Xik,Xek,w0,w1,w2,w3,jA,Yxc]
 ·simp only[Xg9,Xg8,v0,v1,v2,v3,jA,Ywf,Ywm (by omega:0≤k0),Ywm (by omega:0≤k1),Ywm (by omega:0≤k2),Ywm (by omega:0≤k3)]
def inR (v lo hi:Int):Bool:=cond (decide (v≥lo)) (decide (v≤hi)) false
theorem Xz {v lo hi:Int}:inR v lo hi=true↔lo≤v∧v≤hi:=by
 unfold inR;by_cases h:v≥lo<;>simp[h]<;>omega
theorem Xeq (v lo hi:Int):Xas v lo hi=some (inR v lo hi):=rfl
theorem Xgb (v lo hi:Int):X0 v lo hi=some (inR v lo hi):=rfl
theorem Xmp {α:Type} (p:α→Bool) (l:List α):((some (match Yoh p 0 l with | some j=>.inl (j:Int) | none=>.inr ():Int⊕Unit)).bind fun o=>sel o (fun b=>some b) (fun c=>some (-1))).bind (fun r=>some (decide (r≥0)))=some (l.any p):=by
 cases h:Yoh p 0 l with
 |none=>rw[Yp7.1 h];rfl
 |some j=>
  have:l.any p=true:=by
   cases ha:l.any p with
   |true=>rfl
   |false=>rw[Yp7.2 ha] at h;cases h
  rw[this];simp[sel]
theorem Xex (n:Int) (g:Option Int):((some (cond (n != 0) (.inl n) (.inr ()):Int⊕Unit)).bind fun o=>sel o (fun b=>some b) (fun _=>g))=cond (n != 0) (some n) g:=by
 cases (n != 0)<;>rfl
theorem Xcc (n:Int):cond (n != 0) (some n) (some 0)=some n:=by
 cases h:(n != 0)
 ·have:n=0:=by simpa using h
  rw[this];rfl
 ·rfl
theorem Xgp {α:Type} {xs:List α} (h:xs.length≤2147483648):Yq8 xs=some xs:=by
 unfold Yq8;rw[show decide (xs.length≤2147483648)=true by simp;omega];rfl
theorem Xlx {n:Nat} (h:n≤2147483648):decide (n≤2147483648)=true:=by simp;omega
theorem Xrq (l:List (List Int)) (h:Bd (.sl (.sl (.int .u8))) l):Xdw l=some l:=by
 obtain⟨hl,hb⟩:=h
 have h:Xdv l (l.length:Int) (0,[])=some ([]++l.map id):=
  Yvi l (f:=fun s=>Xdv.B l (l.length:Int) s.1 s.2) id id 0 (fun i hi t ht=>by
   have hx:=(hb l[i] (jE hi)).1
   simp only[Xdv.B,Yw1 hi,Ywy hi,Ywg,toNat_cast,getD_lt _ hi,Xby,Xgp hx,jA,Ywd (by omega:i<4294967296),id]
   rw[Xlx (by simp;omega)];rfl) (fun t ht=>by
   simp only[Xdv.B,Yww (jB _),Ywf,id]) [] rfl
 simp only[Xdw,h,jA];simp
theorem Xrr (f:Fs_) (h:Bd Xh f):Xct f=some f:=by
 obtain⟨l,d,⟨⟩⟩:=f;obtain⟨⟨hl,hb⟩,hd,_⟩:=h;replace hl:l.length≤2147483648:=hl;replace hb:∀ x∈l,Bd Xd x:=hb;replace hd:Bd (.sl (.sl (.int .u8))) d:=hd
 have h:Xdx l (l.length:Int) ([],[],()) (0,([],d,()))=some (l.foldl (fun(t:Fs_) x=>(t.1++[x],t.2)) ([],d,())):=
  Yon l (f:=fun s=>Xdx.B l (l.length:Int) ([],[],()) s.1 s.2) (fun(t:Fs_) x=>(t.1++[x],t.2)) id (fun i t=>t.1.length=i) (fun i hi t ht=>by
   have hx:=hb l[i] (jE hi);obtain⟨hx1,hx2,hx3,hx4,hx5,_⟩:=hx;have e1:Yq8 l[i].2.2.2.1=some l[i].2.2.2.1:=Xgp hx4.1;have e2:Yq8 l[i].2.2.2.2.1=some l[i].2.2.2.2.1:=Xgp hx5.1
   refine⟨?_,by simp[ht]⟩
   simp only[Xdx.B,Yw1 hi,Ywy hi,Ywg,toNat_cast,getD_lt _ hi,Xfj,Xj8,e1,e2,jA,Ywd (by omega:i<4294967296),Yxc]
   rw[Xlx (by simp;omega)];rfl) (fun t ht=>by
   simp only[Xdx.B,Yww (jB _),Ywf,id]) _ rfl
 have h2:∀ (l:List Xb) (t:Fs_),l.foldl (fun(t:Fs_) x=>(t.1++[x],t.2)) t=(t.1++l,t.2):=by
  intro l
  induction l with
  |nil=>intro t;simp
  |cons x l ih=>intro t;simp[ih]
 simp only[Xct,Xrq d hd,jA,h,h2];simp
def Xmm (b:UInt8):Bool:=cond (decide ((b.toNat:Int)<97)) true (decide ((b.toNat:Int)>122))
def X6 (s:List UInt8):Int:=cond (s.any Xmm) 5 (cond (s == []) 5 (cond (decide ((s.length:Int)>4)) 2 0))
theorem Xp1 (s:List UInt8) (hl:s.length≤2147483648):Xkt s=some (X6 s):=by
 have h:Xks s 0=_:=Yv2 s Xmm (5:Int) (fun i hi=>by
  simp only[Xks.B,Yw1 hi,Ywy hi,Ywg,toNat_cast,getD_lt _ hi,jA,Ywd (by omega:i<4294967296),Xmm,Yvg]) (by
  simp only[Xks.B,Yww (jB _),Ywf])
 simp only[Xkt,h,jA,X6];cases s.any Xmm
 ·simp only[Ywf,Ywo,Yvj]
 ·rfl
theorem Xp2 (s:List UInt8) (hl:s.length≤2147483648):Xff s=some (X6 s):=by
 have h:Xfe s (s.length:Int) 0=_:=Yv2 s Xmm (5:Int) (fun i hi=>by
  simp only[Xfe.B,Yw1 hi,Ywy hi,Ywg,toNat_cast,getD_lt _ hi,jA,Ywd (by omega:i<4294967296),Xmm,Yvg]) (by
  simp only[Xfe.B,Yww (jB _),Ywf])
 simp only[Xff,h,jA,X6]
 cases s with
 |nil=>rfl
 |cons b s=>
  rw[show((b::s:List UInt8) == [])=false from rfl];simp only[Ywf];cases (b::s).any Xmm
  ·simp only[Ywf,Ywo,Yvj]
  ·rfl
theorem Xgg {s:List UInt8} (h:X6 s=0):s≠[]∧s.length≤4∧s.any Xmm=false:=by
 unfold X6 at h
 cases h1:s.any Xmm with
 |true=>rw[h1] at h;cases h
 |false=>
  rw[h1] at h
  cases h2:(s == []) with
  |true=>rw[h2] at h;cases h
  |false=>
   rw[h2] at h
   cases h3:decide ((s.length:Int)>4) with
   |true=>rw[h3] at h;cases h
   |false=>exact⟨(by intro e;subst e;cases h2),(by simp at h3;omega),rfl⟩
def Xmo:List Int→List Int→Bool
 |_,[]=>false
 |a,x::l=>a.contains x || Xmo (a++[x]) l
theorem Xbj {α:Type} (p:α→Bool) (l:List α) {o:Option (Int⊕Unit)} (h:o=some (match Yoh p 0 l with | some j=>.inl (j:Int) | none=>.inr ())):(o.bind fun o=>sel o (fun b=>some b) (fun c=>some (-1))).bind (fun r=>some (decide (r≥0)))=some (l.any p):=by
 rw[h];exact Xmp p l
theorem Xmv (l:List Int) (v:Int) (hl:l.length≤2147483648):Xa4 l v=some (l.contains v):=by
 have h:Xfd l v (l.length:Int) 0=_:=Yv3 l (fun x=>v == x) (fun i hi=>by
  simp only[Xfd.B,Yw1 hi,Ywy hi,Ywg,toNat_cast,getD_lt _ hi,jA,Ywd (by omega:i<4294967296)]) (by
  simp only[Xfd.B,Yww (jB _),Ywf]) 0 (kE _)
 simp only[Xa4,Xj4];rw[Xbj _ _ h,List.any_beq,List.drop_zero]
theorem Xp3 (l:List Int) (v:Int) (hl:l.length≤2147483648):Xir l v=some (l.contains v):=by
 have h:Xk0 l v 0=_:=Yv2 l (fun x=>x == v) true (fun i hi=>by
  simp only[Xk0.B,Yw1 hi,Ywy hi,Ywg,toNat_cast,getD_lt _ hi,jA,Ywd (by omega:i<4294967296)]) (by
  simp only[Xk0.B,Yww (jB _),Ywf])
 simp only[Xir,h,jA];rw[←List.any_beq,show(fun x:Int=>x == v)=fun x=>v == x from funext fun x=>Bool.beq_comm]
 cases l.any fun x=>v == x<;>rfl
def Xly (n:Int):Int:=w64 ((w64 ((w64 (n+8))-1)).tdiv 8)
def Xiv (x:Xb):Int:=cond (!inR x.2.1 1 60) 3 (cond (!inR x.2.2.1 0 32) 3 (cond ((x.2.2.2.1.length:Int) != Xly x.2.2.1) 1 (cond (x.2.2.2.1.any fun b=>!inR b 0 19) 3 (cond (Xmo [] x.2.2.2.1) 7 0))))
theorem Xrs (x:Xb) (hl:x.2.2.2.1.length≤2147483648) (n:Nat) (hn:n<x.2.2.2.1.length):Xim x (n:Int) 0=some (cond ((x.2.2.2.1.take n).contains x.2.2.2.1[n]) (.inl 7) (.inr ())):=by
 have h:Xim x (n:Int) 0=_:=Yv2 (x.2.2.2.1.take n) (fun y=>y == x.2.2.2.1[n]) (7:Int) (fun i hi=>by
  have hi':i<n:=by simp at hi;omega
  simp only[Xim.B,Yw1 hi',Ywy (by omega:i<x.2.2.2.1.length),Ywy hn,Ywg,toNat_cast,getD_lt _ (by omega:i<x.2.2.2.1.length),getD_lt _ hn,jA,Ywd (by omega:i<4294967296),List.getElem_take]) (by
  have:(x.2.2.2.1.take n).length=n:=by simp;omega
  rw[this]
  simp only[Xim.B,Yww (jB _),Ywf])
 rw[h,←List.any_beq,show(fun y:Int=>y == x.2.2.2.1[n])=fun y=>x.2.2.2.1[n] == y from funext fun y=>Bool.beq_comm]
theorem Xjo (l:List Int):∀ (k n:Nat),n+k=l.length→Yb0 (τ:=Unit) (fun i y _=>cond ((l.take i).contains y) (.inr (.inl 7)) (.inl ())) (fun _=>(.inr ():Int⊕Unit)) n (l.drop n) ()=cond (Xmo (l.take n) (l.drop n)) (.inl 7) (.inr ())
 |0,n,h=>by
  have:n=l.length:=by omega
  subst this
  simp[Yb0,Xmo]
 |k+1,n,h=>by
  have hn:n<l.length:=by omega
  rw[kZ hn];simp only[Yb0,Xmo]
  have e:l.take n++[l[n]]=l.take (n+1):=by simp
  rw[e];cases (l.take n).contains l[n]
  ·simp only[Ywf,Ywn,Bool.false_or];exact Xjo l k (n+1) (by omega)
  ·rfl
theorem Xrt (x:Xb) (hl:x.2.2.2.1.length≤2147483648):Xga x=some (Xiv x):=by
 have h0:Xkr x 0=_:=Yv2 x.2.2.2.1 (fun b=>!inR b 0 19) (3:Int) (fun i hi=>by
  simp only[Xkr.B,Yw1 hi,Ywy hi,Ywg,toNat_cast,getD_lt _ hi,Xeq,jA,Ywd (by omega:i<4294967296)]) (by
  simp only[Xkr.B,Yww (jB _),Ywf])
 have h1:Xi8 x 0=some (cond (Xmo [] x.2.2.2.1) (.inl 7) (.inr ())):=by
  have:=Yjc (τ:=Unit) x.2.2.2.1 (f:=fun s=>Xi8.B x s) (fun i _=>(i:Int)) (fun i y _=>cond ((x.2.2.2.1.take i).contains y) (.inr (.inl 7)) (.inl ())) (fun _=>(.inr ():Int⊕Unit)) (fun i hi t=>by
   simp only[Xi8.B,Yw1 hi,Ywg,Xrs x hl i hi,jA,Ywd (by omega:i<4294967296)]
   cases (x.2.2.2.1.take i).contains x.2.2.2.1[i]<;>rfl) (fun t=>by
   simp only[Xi8.B,Yww (jB _),Ywf]) () (s:=0) rfl
  refine Eq.trans this ?_
  congr 1
  exact Xjo x.2.2.2.1 x.2.2.2.1.length 0 (by omega)
 have h8:(!((8:Int) == 0))=true:=rfl;simp only[Xga,Xgv,Xkq,Xeq,jA,h8,Ywg,h0,h1,Xiv,Xly,Yvj];cases inR x.2.1 1 60
 ·rfl
 ·cases inR x.2.2.1 0 32
  ·rfl
  ·simp only[jK,Ywf]
   cases ((x.2.2.2.1.length:Int) != w64 ((w64 ((w64 (x.2.2.1+8))-1)).tdiv 8))
   ·simp only[Ywf]
    cases x.2.2.2.1.any fun b=>!inR b 0 19
    ·simp only[Ywf,Ywo]
     cases Xmo [] x.2.2.2.1<;>rfl
    ·rfl
   ·rfl
theorem Xru (x:Xb) (hl:x.2.2.2.1.length≤2147483648):Xdk x=some (Xiv x):=by
 have h0:Xhs x.2.2.2.1 ()=some (x.2.2.2.1.any fun b=>!inR b 0 19):=by
  have h:Xfb x.2.2.2.1 () (x.2.2.2.1.length:Int) 0=_:=Yv3 x.2.2.2.1 (fun b=>!inR b 0 19) (fun i hi=>by
   simp only[Xfb.B,Yw1 hi,Ywy hi,Ywg,toNat_cast,getD_lt _ hi,Xj3,Xgb,jA,Ywd (by omega:i<4294967296)]) (by
   simp only[Xfb.B,Yww (jB _),Ywf]) 0 (kE _)
  simp only[Xhs,Xfc];exact Xbj _ _ h
 have h1:Xdj x x.2.2.2.1 (x.2.2.2.1.length:Int) 0=some (cond (Xmo [] x.2.2.2.1) (.inl 7) (.inr ())):=by
  have:=Yjc (τ:=Unit) x.2.2.2.1 (f:=fun s=>Xdj.B x x.2.2.2.1 (x.2.2.2.1.length:Int) s) (fun i _=>(i:Int)) (fun i y _=>cond ((x.2.2.2.1.take i).contains y) (.inr (.inl 7)) (.inl ())) (fun _=>(.inr ():Int⊕Unit)) (fun i hi t=>by
   have e1:(decide ((0:Int)≤(i:Int))&&decide ((i:Int)≤(x.2.2.2.1.length:Int)))=true:=by simp;omega
   have e2:=Xmv (x.2.2.2.1.take i) x.2.2.2.1[i] (by simp;omega)
   simp only[Xdj.B,Yw1 hi,Ywy hi,Ywg,toNat_cast,getD_lt _ hi,e1,List.drop_zero,e2,jA,Ywd (by omega:i<4294967296)]
   cases (x.2.2.2.1.take i).contains x.2.2.2.1[i]<;>rfl) (fun t=>by
   simp only[Xdj.B,Yww (jB _),Ywf]) () (s:=0) rfl
  refine Eq.trans this ?_
  congr 1
  exact Xjo x.2.2.2.1 x.2.2.2.1.length 0 (by omega)
 have h8:(!((8:Int) == 0))=true:=rfl;simp only[Xdk,Xfa,Xe9,Xgb,jA,h8,Ywg,h0,h1,Xiv,Xly,Yvj];cases inR x.2.1 1 60
 ·rfl
 ·cases inR x.2.2.1 0 32
  ·rfl
  ·simp only[jK,Ywf]
   cases ((x.2.2.2.1.length:Int) != w64 ((w64 ((w64 (x.2.2.1+8))-1)).tdiv 8))
   ·simp only[Ywf]
    cases x.2.2.2.1.any fun b=>!inR b 0 19
    ·simp only[Ywf]
     cases Xmo [] x.2.2.2.1<;>rfl
    ·rfl
   ·rfl
def Xe3 (prev:Option (List UInt8)) (e:Xg):Int:=
 cond (X6 e.1 != 0) (X6 e.1) (cond (!inR e.2.1 0 9) 3 (match prev with | none=>0 | some p=>cond (leB p e.1) 0 1))
def Xbp:Option (List UInt8)→List Xg→Int
 |_,[]=>0
 |p,e::l=>cond (Xe3 p e != 0) (Xe3 p e) (Xbp (some e.1) l)
def Xlw (x:Xb):Int:=cond (decide ((x.2.2.2.2.1.length:Int)>6)) 2 (Xbp none x.2.2.2.2.1)
theorem Xmr:∀ (a b:List UInt8),(leB a b || a == b) = !leB b a
 |[],[]=>rfl
 |[],_::_=>rfl
 |_::_,[]=>by simp[leB]
 |x::a,y::b=>by
  have ih:=Xmr a b;simp only[leB]
  by_cases e:x=y
  ·subst e
   have h:¬ x<x:=UInt8.lt_irrefl x;simp only[h,decide_false,Bool.false_or,beq_self_eq_true,Bool.true_and]
   rw[←ih,show(x::a == x::b)=(a == b) by simp]
  ·have e':¬ y=x:=fun h=>e h.symm
   rw[show(x == y)=false by simp[e],show(y == x)=false by simp[e'],show(x::a == y::b)=false by simp[e]]
   simp only[Bool.false_and,Bool.or_false]
   by_cases h1:x<y
   ·have:¬ y<x:=fun h=>absurd (UInt8.lt_trans h1 h) (UInt8.lt_irrefl x)
    simp[h1,this]
   ·have:y<x:=by
     rw[UInt8.lt_iff_toNat_lt] at *;have:x.toNat≠y.toNat:=fun h=>e (UInt8.toNat_inj.1 h);omega
    simp[h1,this]
def Xew (l:List Xg):Nat→Option (List UInt8)
 |0=>none
 |j+1=>(l[j]?).map (·.1)
theorem Xjp (l:List Xg):∀ (k n:Nat),n+k=l.length→Yb0 (τ:=Unit) (fun i e _=>cond (Xe3 (Xew l i) e != 0) (.inr (.inl (Xe3 (Xew l i) e))) (.inl ())) (fun _=>(.inr ():Int⊕Unit)) n (l.drop n) () =
  cond (Xbp (Xew l n) (l.drop n) != 0) (.inl (Xbp (Xew l n) (l.drop n))) (.inr ())
 |0,n,h=>by
  have:n=l.length:=by omega
  subst this
  simp[Yb0,Xbp]
 |k+1,n,h=>by
  have hn:n<l.length:=by omega
  have hp:Xew l (n+1)=some l[n].1:=by simp[Xew,hn]
  have ih:=Xjp l k (n+1) (by omega)
  rw[hp] at ih;rw[kZ hn];simp only[Yb0,Xbp];generalize Xew l n=p;cases hc:(Xe3 p l[n] != 0)
  ·simp only[Ywf,Ywn];exact ih
  ·simp only[Ywg,Ywo,hc]
theorem Xrv (x:Xb) (hb:Bd Xd x):Xja x=some (Xlw x):=by
 simp only[Xja,Xlw]
 cases hd:decide ((x.2.2.2.2.1.length:Int)>6) with
 |true=>rfl
 |false=>
  have hl:x.2.2.2.2.1.length≤6:=by simp at hd;omega
  have h:Xi9 x 0=some (cond (Xbp none x.2.2.2.2.1 != 0) (.inl (Xbp none x.2.2.2.2.1)) (.inr ())):=by
   have:=Yjc (τ:=Unit) x.2.2.2.2.1 (f:=fun s=>Xi9.B x s) (fun i _=>(i:Int)) (fun i e _=>cond (Xe3 (Xew x.2.2.2.2.1 i) e != 0) (.inr (.inl (Xe3 (Xew x.2.2.2.2.1 i) e))) (.inl ())) (fun _=>(.inr ():Int⊕Unit)) (fun i hi t=>by
    have hn:(x.2.2.2.2.1[i]).1.length≤2147483648:=(hb.2.2.2.2.1.2 _ (jE hi)).1
    simp only[Xi9.B,Yw1 hi,Ywy hi,Ywg,toNat_cast,getD_lt _ hi,Xeq,Xp1 _ hn,jA,Ywd (by omega:i<4294967296)]
    simp only[Xe3];cases hc:(X6 (x.2.2.2.2.1[i]).1 != 0)
    ·simp only[Ywf]
     cases inR (x.2.2.2.2.1[i]).2.1 0 9
     ·rfl
     ·simp only[jK,Ywf]
      cases i with
      |zero=>rfl
      |succ j=>
       have hj:j<x.2.2.2.2.1.length:=by omega
       have hw:w64 (((j+1:Nat):Int)-1)=(j:Int):=by rw[Yss (by omega) (by omega)];omega
       rw[show decide (((j+1:Nat):Int)>0)=true by simp]
       simp only[Ywg,hw,Ywy hj,toNat_cast,getD_lt _ hj,Xew,kV hj,jT,Xmr]
       cases leB (x.2.2.2.2.1[j]).1 (x.2.2.2.2.1[j+1]).1<;>rfl
    ·simp only[Ywg,hc];rfl) (fun t=>by
    simp only[Xi9.B,Yww (jB _),Ywf]) () (s:=0) rfl
   refine Eq.trans this ?_
   congr 1
   exact Xjp x.2.2.2.2.1 x.2.2.2.2.1.length 0 (by omega)
  rw[h,Ywf,Ywf,Xex,Xcc]
theorem Xrw (x:Xb) (hb:Bd Xd x):Xdm x=some (Xlw x):=by
 simp only[Xdm,Xlw]
 cases hd:decide ((x.2.2.2.2.1.length:Int)>6) with
 |true=>rfl
 |false=>
  have hl:x.2.2.2.2.1.length≤6:=by simp at hd;omega
  have h:Xdl x x.2.2.2.2.1 (x.2.2.2.2.1.length:Int) 0=some (cond (Xbp none x.2.2.2.2.1 != 0) (.inl (Xbp none x.2.2.2.2.1)) (.inr ())):=by
   have:=Yjc (τ:=Unit) x.2.2.2.2.1 (f:=fun s=>Xdl.B x x.2.2.2.2.1 (x.2.2.2.2.1.length:Int) s) (fun i _=>(i:Int)) (fun i e _=>cond (Xe3 (Xew x.2.2.2.2.1 i) e != 0) (.inr (.inl (Xe3 (Xew x.2.2.2.2.1 i) e))) (.inl ())) (fun _=>(.inr ():Int⊕Unit)) (fun i hi t=>by
    have hn:(x.2.2.2.2.1[i]).1.length≤2147483648:=(hb.2.2.2.2.1.2 _ (jE hi)).1
    simp only[Xdl.B,Yw1 hi,Ywy hi,Ywg,toNat_cast,getD_lt _ hi,Xgb,Xp2 _ hn,jA,Ywd (by omega:i<4294967296)]
    simp only[Xe3];cases hc:(X6 (x.2.2.2.2.1[i]).1 != 0)
    ·simp only[Ywf]
     cases inR (x.2.2.2.2.1[i]).2.1 0 9
     ·rfl
     ·simp only[jK,Ywf]
      cases i with
      |zero=>rfl
      |succ j=>
       have hj:j<x.2.2.2.2.1.length:=by omega
       have hw:w64 (((j+1:Nat):Int)-1)=(j:Int):=by rw[Yss (by omega) (by omega)];omega
       rw[show decide (((j+1:Nat):Int)>0)=true by simp]
       simp only[Ywg,hw,Ywy hj,toNat_cast,getD_lt _ hj,Xew,kV hj,jT]
       cases leB (x.2.2.2.2.1[j]).1 (x.2.2.2.2.1[j+1]).1<;>rfl
    ·simp only[Ywg,hc];rfl) (fun t=>by
    simp only[Xdl.B,Yww (jB _),Ywf]) () (s:=0) rfl
   refine Eq.trans this ?_
   congr 1
   exact Xjp x.2.2.2.2.1 x.2.2.2.2.1.length 0 (by omega)
  rw[h,Ywf,Ywf,Xex,Xcc]
def Xbi (x:Xb):Int:=
 cond (!inR x.1 0 2) 1 (cond (cond (cond (x.1 != 1) (cond (cond (x.2.1 != 0) true (x.2.2.1 != 0)) true (decide ((x.2.2.2.1.length:Int)>0))) false) true (cond (x.1 != 2) (decide ((x.2.2.2.2.1.length:Int)>0)) false)) 1
  (cond (x.1 == 1) (Xiv x) (cond (x.1 == 2) (Xlw x) 0)))
theorem Xrx (x:Xb) (hb:Bd Xd x):Xmg x=some (Xbi x):=by
 simp only[Xmg,Xbi,Xeq,Xrt x hb.2.2.2.1.1,Xrv x hb,jA];simp only[Yvj]
theorem Xn7 (n:Nat):decide ((n:Int)>0) = !((n:Int) == 0):=by
 rw[Bool.eq_iff_iff];simp only[jI,Bool.not_eq_true',beq_eq_false_iff_ne,ne_eq];omega
theorem not_bne (a b:Int):(a == b) = !(a != b):=(Bool.not_not _).symm
theorem Xry (x:Xb) (hb:Bd Xd x):Xht x=some (Xbi x):=by
 simp only[Xht,Xbi,Xgb,Xru x hb.2.2.2.1.1,Xrw x hb,jA];cases inR x.1 0 2
 ·rfl
 ·simp only[jK,Ywf]
  have e1:(cond (cond (x.2.1 == 0) (x.2.2.1 == 0) false) ((x.2.2.2.1.length:Int) == 0) false) = !(cond (cond (x.2.1 != 0) true (x.2.2.1 != 0)) true (decide ((x.2.2.2.1.length:Int)>0))):=by
   rw[show(x.2.1 != 0) = !(x.2.1 == 0) from rfl,show(x.2.2.1 != 0) = !(x.2.2.1 == 0) from rfl,Xn7]
   cases (x.2.1 == 0)<;>cases (x.2.2.1 == 0)<;>cases ((x.2.2.2.1.length:Int) == 0)<;>rfl
  have e2:(!((x.2.2.2.2.1.length:Int) == 0))=decide ((x.2.2.2.2.1.length:Int)>0):=(Xn7 _).symm;rw[e1,e2,Bool.not_not]
  cases (cond (cond (x.2.1 != 0) true (x.2.2.1 != 0)) true (decide ((x.2.2.2.1.length:Int)>0)))<;>cases h1:(x.1 != 1)<;>cases h2:(x.1 != 2)<;>cases hd:decide ((x.2.2.2.2.1.length:Int)>0)<;>simp only[Ywg,Ywf]
  all_goals (rw[not_bne x.1 1,not_bne x.1 2,h1,h2])
  all_goals simp only[jK,kQ,Ywg,Ywf]
  all_goals first | rfl | skip
  all_goals (
   have hz:x.2.2.2.2.1=[]:=by simp at hd;exact hd
   have:Xlw x=0:=by simp[Xlw,hz,Xbp]
   rw[this])
def Xac (l:List Xb):Int:=cond (decide ((l.length:Int)>10)) 2 (Yg2 Xbi l)
theorem Xp4 (l:List Xb) (hb:Bd (.sl Xd) l):Xgw l=some (Xac l):=by
 simp only[Xgw,Xac]
 cases hd:decide ((l.length:Int)>10) with
 |true=>rfl
 |false=>
  have hl:l.length≤10:=by simp at hd;omega
  have h:Xku l 0=_:=Yu0 l Xbi (fun i hi=>by
   simp only[Xku.B,Yw1 hi,Ywy hi,Ywg,toNat_cast,getD_lt _ hi,Xrx _ (hb.2 _ (jE hi)),jA,Ywd (by omega:i<4294967296)]) (by
   simp only[Xku.B,Yww (jB _),Ywf])
  rw[h,Ywf,Ywf,Xex,Xcc]
theorem Xrz (l:List Xb) (hb:Bd (.sl Xd) l):Xdn l=some (Xac l):=by
 simp only[Xdn,Xac]
 cases hd:decide ((l.length:Int)>10) with
 |true=>rfl
 |false=>
  have hl:l.length≤10:=by simp at hd;omega
  have h:Xfg l (l.length:Int) 0=_:=Yu0 l Xbi (fun i hi=>by
   simp only[Xfg.B,Yw1 hi,Ywy hi,Ywg,toNat_cast,getD_lt _ hi,Xry _ (hb.2 _ (jE hi)),jA,Ywd (by omega:i<4294967296)]) (by
   simp only[Xfg.B,Yww (jB _),Ywf])
  rw[h,Ywf,Ywf,Xex,Xcc]
def Xak (l:List Xb):List Int:=l.flatMap fun x=>x.2.2.2.1
theorem Xbq {x:Xb} (h:Xbi x=0):x.2.2.2.1.length≤4∧(∀ b∈x.2.2.2.1,0≤b∧b≤19)∧(x.1≠1→x.2.2.2.1=[])∧(x.1=1→Xiv x=0):=by
 unfold Xbi at h
 cases h1:inR x.1 0 2 with
 |false=>rw[h1] at h;cases h
 |true=>
  rw[h1] at h;simp only[jK,Ywf] at h
  by_cases e:x.1=1
  ·rw[show(x.1 != 1)=false by simp[e]] at h
   cases h2:cond (cond false (cond (cond (x.2.1 != 0) true (x.2.2.1 != 0)) true (decide ((x.2.2.2.1.length:Int)>0))) false) true (cond (x.1 != 2) (decide ((x.2.2.2.2.1.length:Int)>0)) false) with
   |true=>rw[h2] at h;cases h
   |false=>
    rw[h2,show(x.1 == 1)=true by simp[e]] at h
    simp only[Ywf,Ywg] at h;have hf:=h;unfold Xiv at h
    cases h3:inR x.2.1 1 60 with
    |false=>rw[h3] at h;cases h
    |true=>
     rw[h3] at h
     cases h4:inR x.2.2.1 0 32 with
     |false=>rw[h4] at h;cases h
     |true=>
      rw[h4] at h;simp only[jK,Ywf] at h
      cases h5:((x.2.2.2.1.length:Int) != Xly x.2.2.1) with
      |true=>rw[h5] at h;cases h
      |false=>
       rw[h5] at h;simp only[Ywf] at h
       cases h6:(x.2.2.2.1.any fun b=>!inR b 0 19) with
       |true=>rw[h6] at h;cases h
       |false=>
        refine⟨?_,fun b hb=>?_,fun h=>absurd e h,fun _=>hf⟩
        ·have hs:=Xz.1 h4
         have:(x.2.2.2.1.length:Int)=Xly x.2.2.1:=by simpa using h5
         unfold Xly at this
         rw[Yss (x:=x.2.2.1+8) (by omega) (by omega),Yss (x:=x.2.2.1+8-1) (by omega) (by omega),Int.tdiv_eq_ediv_of_nonneg (by omega),Yss (by omega) (by omega)] at this
         omega
        ·have:=List.any_eq_false.1 h6 b hb
         exact Xz.1 (by simpa using this)
  ·rw[show(x.1 != 1)=true by simp[e]] at h
   cases h2:decide ((x.2.2.2.1.length:Int)>0) with
   |true=>
    rw[h2] at h;simp only[Ywg,Yvg] at h
    cases h
   |false=>
    have hz:x.2.2.2.1=[]:=by simp at h2;exact h2
    exact⟨by simp[hz],by simp[hz],fun _=>hz,fun h=>absurd h e⟩
theorem Xgd {α:Type} {c:α→Int}:∀ {l:List α},Yg2 c l=0↔∀ x∈l,c x=0
 |[]=>by simp[Yg2]
 |x::l=>by
  simp only[Yg2,List.mem_cons,forall_eq_or_imp];cases h:(c x != 0)
  ·have:c x=0:=by simpa using h
   simp only[Ywf,this,true_and];exact Xgd
  ·have:c x≠0:=by simpa using h
   simp only[Ywg];exact⟨fun e=>absurd e this,fun e=>absurd e.1 this⟩
theorem Xw {l:List Xb} (h:Xac l=0):l.length≤10∧∀ x∈l,Xbi x=0:=by
 unfold Xac at h
 cases h1:decide ((l.length:Int)>10) with
 |true=>rw[h1] at h;cases h
 |false=>rw[h1] at h;exact⟨by simp at h1;omega,Xgd.1 h⟩
structure Xcj (l:List Xb):Prop where
 len:l.length≤10
 blk:∀ x∈l,x.2.2.2.1.length≤4∧∀ b∈x.2.2.2.1,0≤b∧b≤19
theorem Xcj.of {l:List Xb} (h:Xac l=0):Xcj l:=
 ⟨(Xw h).1,fun x hx=>⟨(Xbq ((Xw h).2 x hx)).1,(Xbq ((Xw h).2 x hx)).2.1⟩⟩
theorem Xmz:∀ {l:List Xb},(∀ x∈l,x.2.2.2.1.length≤4)→(Xak l).length≤4*l.length
 |[],h=>by simp[Xak]
 |x::l,h=>by
  have h1:=h x (jF ..);have:=Xmz (l:=l) fun y hy=>h y (jG _ hy);simp only[Xak,List.flatMap_cons,jP,jH] at *;omega
theorem Xcj.all {l:List Xb} (h:Xcj l):(Xak l).length≤40∧∀ b∈Xak l,0≤b∧b≤19:=by
 refine⟨by have:=Xmz (l:=l) fun x hx=>(h.blk x hx).1;have:=h.len;omega,fun b hb=>?_⟩
 obtain⟨x,hx,hb⟩:=List.mem_flatMap.1 hb;exact(h.blk x hx).2 b hb
theorem Xr0 (l:List Xb) (at_:Int) (i:Nat) (hi:i<l.length) (n:Nat) (hb:l[i].2.2.2.1.length≤4) (hn:n≤1000):Xin l at_ (i:Int) ((n:Int),0)=some (((n+l[i].2.2.2.1.count at_:Nat):Int)):=by
 have h:=Ym8 (τ:=Nat) l[i].2.2.2.1 (f:=fun s=>Xin.B l at_ (i:Int) s.1 s.2) (fun k m=>((m:Int),(k:Int))) (fun _ y m=>.inl (m+(if y == at_ then 1 else 0))) (fun m=>((m:Nat):Int)) (fun k m=>m≤n+k)
  (fun k hk m hm=>by
   simp only[Xin.B,Ywy hi,Ywg,toNat_cast,getD_lt _ hi,jA,Yw1 hk,Ywy hk,getD_lt _ hk,Ywd (by omega:k<4294967296),Ywd (by omega:m<4294967296),sel]
   cases h:(l[i].2.2.2.1[k] == at_)<;>simp[h])
  (fun k hk m m' hm e=>by cases e;split<;>omega)
  (fun m hm=>by
   simp only[Xin.B,Ywy hi,Ywg,toNat_cast,getD_lt _ hi,jA,Yww (jB _),Ywf]) n (by omega) (s:=((n:Int),0)) rfl
 refine Eq.trans h ?_;rw[Yiy]
 congr 2
 have:∀ (l:List Int) (m:Nat),l.foldl (fun t y=>t+(if y == at_ then 1 else 0)) m=m+l.count at_:=by
  intro l
  induction l with
  |nil=>intro m;simp
  |cons y l ih=>intro m;rw[kI,ih,List.count_cons];omega
 exact this _ _
theorem Xp5 (l:List Xb) (hok:Xcj l) (at_:Int):Xkv l at_=some ((((Xak l).count at_:Nat):Int)):=by
 have h:=Ym8 (τ:=Nat) l (f:=fun s=>Xjb.B l at_ s.1 s.2) (fun k m=>((m:Int),(k:Int))) (fun _ x m=>.inl (m+x.2.2.2.1.count at_)) (fun m=>((m:Nat):Int)) (fun k m=>m≤4*k)
  (fun k hk m hm=>by
   have hl:=hok.len
   simp only[Xjb.B,Yw1 hk,Ywg,Xr0 l at_ k hk m (hok.blk _ (jE hk)).1 (by omega),jA,Ywd (by omega:k<4294967296),sel])
  (fun k hk m m' hm e=>by cases e;have:=(hok.blk _ (jE hk)).1;have:=List.count_le_length (a:=at_) (l:=l[k].2.2.2.1);omega)
  (fun m hm=>by simp only[Xjb.B,Yww (jB _),Ywf]) 0 (by omega) (s:=(0,0)) rfl
 have h':Xjb l at_ (0,0)=_:=h;simp only[Xkv,h',jA];rw[Yiy]
 have:∀ (l:List Xb) (m:Nat),l.foldl (fun t x=>t+x.2.2.2.1.count at_) m=m+(Xak l).count at_:=by
  intro l
  induction l with
  |nil=>intro m;simp[Xak]
  |cons y l ih=>intro m;rw[kI,ih];simp only[Xak,List.flatMap_cons,List.count_append];omega
 rw[this,jJ]
def r20:List Int:=(List.range 20).map Int.ofNat
theorem Xlb:r20.length=20:=by simp[r20]
theorem Xn9 (k:Nat) (h:k<r20.length):r20[k]=(k:Int):=by simp[r20]
theorem Xpn (a:Int):a∈r20↔0≤a∧a≤19:=by
 simp only[r20,kS,List.mem_range]
 constructor
 ·rintro⟨k,h1,rfl⟩;simp;omega
 ·intro h;exact⟨a.toNat,by omega,by simp;omega⟩
def Xs9 (l:List Xb):List Int:=r20.filter fun b=>(Xak l).contains b
def Xgi (l:List Xb):Bool:=decide (Xak l).Nodup
theorem Xr1 (l:List Xb) (hok:Xcj l):Xjc l=some (Xs9 l,Xgi l):=by
 have h:=Ym8 (τ:=Bool×List Int) r20 (f:=fun s=>Xkw.B l s.1 s.2.1 s.2.2) (fun k t=>(t.1,((k:Int),t.2))) (fun _ b t=>.inl (t.1&&decide ((Xak l).count b≤1),cond ((Xak l).contains b) (t.2++[b]) t.2)) (fun t=>t) (fun k t=>t.2.length≤k)
  (fun k hk t ht=>by
   have hk':k<20:=by rw[Xlb] at hk;exact hk
   rw[Xn9 k hk]
   have h20:decide ((k:Int)<20)=true:=by simp;omega
   simp only[Xkw.B,h20,Ywg,Xp5 l hok,jA,Ywd (by omega:k<4294967296),sel]
   have e1:decide ((((Xak l).count (k:Int):Nat):Int)>0)=(Xak l).contains (k:Int):=by
    rw[Bool.eq_iff_iff];simp only[jI,List.contains_iff_mem,←List.count_pos_iff];omega
   have e2:cond t.1 (decide ((((Xak l).count (k:Int):Nat):Int)≤1)) false=(t.1&&decide ((Xak l).count (k:Int)≤1)):=by
    cases t.1
    ·rfl
    ·simp only[Ywg,Bool.true_and];rw[Bool.eq_iff_iff];simp;omega
   rw[e1,e2,Xlx (by simp;omega)]
   cases (Xak l).contains (k:Int)<;>rfl)
  (fun k hk t t' ht e=>by cases e;simp only;cases (Xak l).contains _<;>simp<;>omega)
  (fun t ht=>by
   rw[Xlb];rfl) (true,[]) (by simp) (s:=(true,0,[])) rfl
 have h':Xkw l (true,0,[])=_:=h;simp only[Xjc,h',jA];rw[Yiy]
 have hf:∀ (m:List Int) (t:Bool×List Int),m.foldl (fun t b=>(t.1&&decide ((Xak l).count b≤1),cond ((Xak l).contains b) (t.2++[b]) t.2)) t=(t.1&&m.all fun b=>decide ((Xak l).count b≤1),t.2++m.filter fun b=>(Xak l).contains b):=by
  intro m
  induction m with
  |nil=>intro t;simp
  |cons b m ih=>
   intro t;rw[kI,ih,List.all_cons,List.filter_cons]
   cases (Xak l).contains b<;>simp[Bool.and_assoc]
 rw[hf];simp only[Bool.true_and,jO]
 congr 2
 rw[Bool.eq_iff_iff];simp only[Xgi,List.all_eq_true,jI,List.nodup_iff_count]
 constructor
 ·intro h a
  by_cases ha:a∈Xak l
  ·have:=hok.all.2 a ha
   exact h a ((Xpn a).2 this)
  ·rw[List.count_eq_zero.2 ha];omega
 ·intro h a _;exact h a
theorem Xlj (s0:List Int) (k0:Nat) (h0:0<k0) (h1:k0<s0.length) (hl:s0.length≤2147483648):∀ (m j k:Nat) (s:List Int),j+m=s0.length-k0→0<j→s.length=s0.length→k<k0+j→∃ (k':Nat) (s':List Int),Xbw k0 (s0.length-k0) ((k:Int),(j:Int),s)=some ((k':Int),s')∧s'.length=s0.length∧k'<s0.length
 |0,j,k,s,hj,h2,h3,h4=>by
  refine⟨k,s,Yas ?_,h3,by omega⟩
  simp only[Xbw.B,show decide ((j:Int)<((s0.length-k0:Nat):Int))=false by simp;omega,Ywf]
 |m+1,j,k,s,hj,h2,h3,h4=>by
  have hw:w64 ((j:Int)-1)=((j-1:Nat):Int):=by rw[Yss (by omega) (by omega)];omega
  have hst:∃ k' s',Xbw.B k0 (s0.length-k0) (k:Int) (j:Int) s=some (.inl ((k':Nat),((j+1:Nat):Int),s'))∧s'.length=s0.length∧k'<k0+(j+1):=by
   simp only[Xbw.B,show decide ((j:Int)<((s0.length-k0:Nat):Int))=true by simp;omega,Ywy (by omega:j<s0.length-k0),hw,Ywy (by omega:j-1<s0.length-k0),Ywy (by omega:k<s.length),Ywg,jA,toNat_cast,Ywd (by omega:j<4294967296),Ywd (by omega:k<4294967296)]
   cases (s.getD (k0+j) 0 != s.getD (k0+(j-1)) 0)
   ·exact⟨k,s,rfl,h3,by omega⟩
   ·exact⟨k+1,_,rfl,by simpa using h3,by omega⟩
  obtain⟨k1,s1,e1,e2,e3⟩:=hst
  obtain⟨k',s',q1,q2,q3⟩:=Xlj s0 k0 h0 h1 hl m (j+1) k1 s1 (by omega) (by omega) e2 (by omega)
  refine⟨k',s',?_,q2,q3⟩;unfold Xbw;rw[Ybd (s':=((k1:Int),((j+1:Nat):Int),s1)) e1];exact q1
theorem Xli (s:List Int) (hl:s.length≤2147483648):∀ (m n:Nat),n+m=s.length→0<n→
  (Xa7 s (n:Int)=some (.inr ())∧∀ i,n≤i→(h:i<s.length)→s[i]≠s[i-1])∨(∃ (k:Nat) (s':List Int),Xa7 s (n:Int)=some (.inl (0,k-0,s'))∧s'.length=s.length∧k<s.length∧∃ i,n≤i∧∃ h:i<s.length,s[i]=s[i-1])
 |0,n,hn,h0=>by
  have:n=s.length:=by omega
  subst this
  refine .inl ⟨Yas ?_,fun i h1 h2=>by omega⟩
  simp only[Xa7.B,Yww (jB _),Ywf]
 |m+1,n,hn,h0=>by
  have hlt:n<s.length:=by omega
  have hw:w64 ((n:Int)-1)=((n-1:Nat):Int):=by rw[Yss (by omega) (by omega)];omega
  by_cases he:s[n]=s[n-1]
  ·refine .inr ?_
   obtain⟨k',s',q1,q2,q3⟩:=Xlj s n h0 hlt hl (s.length-n-1) 1 n s (by omega) (by omega) rfl (by omega)
   refine⟨k',splice s' k' (List.replicate (s'.length-k') 0),Yas ?_,by simp[splice];omega,q3,n,jB _,hlt,he⟩
   have q1':Xbw n (s.length-n) ((n:Int),1,s)=some ((k':Int),s'):=q1
   simp only[Xa7.B,Yw1 hlt,Ywy hlt,hw,Ywy (by omega:n-1<s.length),Ywg,jA,toNat_cast,getD_lt _ hlt,getD_lt _ (by omega:n-1<s.length),he,beq_self_eq_true,q1']
   rw[show(decide ((0:Int)≤(n:Int))&&decide ((n:Int)≤(s.length:Int)))=true by simp;omega,show(decide ((0:Int)≤(k':Int))&&decide ((k':Int)≤(s'.length:Int)))=true by simp;omega,
    show(decide ((0:Int)≤(k':Int))&&decide ((k':Int)≤((splice s' k' (List.replicate (s'.length-k') 0)).length:Int)))=true by simp[splice];omega]
   rfl
  ·have hst:Xa7.B s (n:Int)=some (.inl ((n+1:Nat):Int)):=by
    simp only[Xa7.B,Yw1 hlt,Ywy hlt,hw,Ywy (by omega:n-1<s.length),Ywg,jA,toNat_cast,getD_lt _ hlt,getD_lt _ (by omega:n-1<s.length),Ywd (by omega:n<4294967296)]
    rw[show(s[n] == s[n-1])=false by simp[he]]
    rfl
   unfold Xa7;rw[Ybd (f:=fun s_1=>Xa7.B s s_1) hst]
   rcases Xli s hl m (n+1) (by omega) (by omega) with ⟨q1,q2⟩ | ⟨k,s',q1,q2,q3,i,q4,q5,q6⟩
   ·refine .inl ⟨q1,fun i h1 h2=>?_⟩
    by_cases e:i=n
    ·subst e;exact he
    ·exact q2 i (by omega) h2
   ·exact .inr ⟨k,s',q1,q2,q3,i,by omega,q5,q6⟩
theorem Xnq (s:List Int) (hl:s.length≤2147483648) (hs:s.Pairwise fun a b=>a≤b):∃ r,Xhw s=some r∧((r.length:Int) == (s.length:Int))=decide s.Nodup:=by
 simp only[Xhw]
 by_cases h2:s.length<2
 ·rw[show decide ((s.length:Int)<2)=true by simp;omega]
  refine⟨s,rfl,?_⟩
  have:s.Nodup:=by
   match s,h2 with
   |[],_=>simp
   |[x],_=>simp
  simp[this]
 ·rw[show decide ((s.length:Int)<2)=false by simp;omega]
  simp only[Ywf]
  have hle:∀ i j,(hij:i≤j)→(hj:j<s.length)→s[i]≤s[j]:=by
   intro i j hij hj;rcases Nat.lt_or_eq_of_le hij with h | h
   ·exact List.pairwise_iff_getElem.1 hs i j _ hj h
   ·subst h;exact Int.le_refl _
  rcases Xli s hl (s.length-1) 1 (by omega) (by omega) with ⟨q1,q2⟩ | ⟨k,s',q1,q2,q3,i,q4,q5,q6⟩
  ·have q1':Xa7 s 1=some (.inr ()):=q1
   rw[q1'];refine⟨s,rfl,?_⟩
   have:s.Nodup:=by
    rw[List.Nodup,List.pairwise_iff_getElem];intro i j hi hj hij he
    have h1:=hle i (j-1) (by omega) (by omega)
    have h2:=hle (j-1) j (by omega) hj
    exact q2 j (by omega) hj (by omega)
   simp[this]
  ·have q1':Xa7 s 1=some (.inl (0,k-0,s')):=q1
   rw[q1'];refine⟨_,rfl,?_⟩
   have:¬ s.Nodup:=by
    intro hn
    exact List.pairwise_iff_getElem.1 hn (i-1) i (by omega) q5 (by omega) q6.symm
   simp only[this,decide_false]
   have hlen:((List.drop 0 s').take (k-0)).length=k:=by simp;omega
   rw[hlen];simp;omega
def Xc8 (l:List Int):List Int:=l.mergeSort fun x y=>decide (x≤y)
theorem Xmu (l:List Int):(Xc8 l).Pairwise fun a b=>a≤b:=by
 have:=List.pairwise_mergeSort (le:=fun x y:Int=>decide (x≤y)) (fun a b c h1 h2=>by simp at *;omega) (fun a b=>by simp;omega) l
 simpa [Xc8] using this
theorem Xhk (l:List Int):(Xc8 l).Perm l:=List.mergeSort_perm _ _
theorem Xjv (l:List Int):(Xc8 l).length=l.length:=(Xhk l).length_eq
theorem Xpd {l:List Int} (h:l.length≤2147483648):Yue l=some (Xc8 l):=by
 unfold Yue Xc8;rw[Xlx h];rfl
theorem Xp6 (l:List Xb) (hok:Xcj l):Xbx l=some (Xc8 (Xak l),Xgi l):=by
 have hall:=hok.all
 have h:Xdo l (l.length:Int) (0,[])=some (l.foldl (fun t x=>t++x.2.2.2.1) []):=
  Yon l (f:=fun s=>Xdo.B l (l.length:Int) s.1 s.2) (fun t x=>t++x.2.2.2.1) id (fun i t=>t.length≤4*i) (fun i hi t ht=>by
   have h4:=(hok.blk _ (jE hi)).1;have hl:=hok.len
   refine⟨?_,by simp;omega⟩
   simp only[Xdo.B,Yw1 hi,Ywy hi,Ywg,toNat_cast,getD_lt _ hi,jA,Ywd (by omega:i<4294967296)]
   rw[Xlx (by simp;omega)];rfl) (fun t ht=>by
   simp only[Xdo.B,Yww (jB _),Ywf,id]) [] (by simp)
 have h2:∀ (l:List Xb) (t:List Int),l.foldl (fun t x=>t++x.2.2.2.1) t=t++Xak l:=by
  intro l
  induction l with
  |nil=>intro t;simp[Xak]
  |cons x l ih=>intro t;rw[kI,ih];simp[Xak]
 rw[h2,jO] at h
 obtain⟨r,hr1,hr2⟩:=Xnq (Xc8 (Xak l)) (by rw[Xjv];omega) (Xmu _)
 simp only[Xbx,h,jA,Xj6,Xpd (by omega:(Xak l).length≤2147483648),Xfj,Xgp (by rw[Xjv];omega:(Xc8 (Xak l)).length≤2147483648),hr1,hr2]
 congr 2
 rw[Bool.eq_iff_iff];simp only[Xgi,jI];exact(Xhk _).nodup_iff
theorem Xm5:∀ {p:Option (List UInt8)} {l:List Xg},Xbp p l=0→∀ e∈l,X6 e.1=0∧0≤e.2.1∧e.2.1≤9
 |p,[],h,e,he=>by cases he
 |p,x::l,h,e,he=>by
  simp only[Xbp] at h
  cases hc:(Xe3 p x != 0) with
  |true=>
   rw[hc] at h
   have:Xe3 p x≠0:=by simpa using hc
   exact absurd h this
  |false=>
   rw[hc] at h;rcases List.mem_cons.1 he with rfl | he
   ·have h0:Xe3 p e=0:=by simpa using hc
    unfold Xe3 at h0
    cases h1:(X6 e.1 != 0) with
    |true=>rw[h1] at h0;exact absurd h0 (by simpa using h1)
    |false=>
     rw[h1] at h0
     cases h2:inR e.2.1 0 9 with
     |false=>rw[h2] at h0;cases h0
     |true=>exact⟨by simpa using h1,Xz.1 h2⟩
   ·exact Xm5 h e he
theorem X8 {x:Xb} (h:Xbi x=0):(0≤x.1∧x.1≤2)∧x.2.2.2.2.1.length≤6∧(x.1≠2→x.2.2.2.2.1=[])∧(x.1=2→Xlw x=0)∧(x.1≠1→x.2.1=0∧x.2.2.1=0)∧∀ e∈x.2.2.2.2.1,X6 e.1=0∧0≤e.2.1∧e.2.1≤9:=by
 unfold Xbi at h
 cases h1:inR x.1 0 2 with
 |false=>rw[h1] at h;cases h
 |true=>
  rw[h1] at h;simp only[jK,Ywf] at h;have hk:=Xz.1 h1
  have hz:x.1≠1→x.2.1=0∧x.2.2.1=0:=by
   intro e
   rw[show(x.1 != 1)=true by simp[e]] at h
   cases h2:(x.2.1 != 0) with
   |true=>rw[h2] at h;cases h
   |false=>
    cases h3:(x.2.2.1 != 0) with
    |true=>rw[h2,h3] at h;cases h
    |false=>exact⟨by simpa using h2,by simpa using h3⟩
  cases h2:cond (cond (x.1 != 1) (cond (cond (x.2.1 != 0) true (x.2.2.1 != 0)) true (decide ((x.2.2.2.1.length:Int)>0))) false) true (cond (x.1 != 2) (decide ((x.2.2.2.2.1.length:Int)>0)) false) with
  |true=>rw[h2] at h;cases h
  |false=>
   rw[h2] at h
   by_cases e:x.1=2
   ·rw[show(x.1 == 1)=false by simp[e],show(x.1 == 2)=true by simp[e]] at h
    simp only[Ywf,Ywg] at h;have hd:=h;unfold Xlw at h
    cases h3:decide ((x.2.2.2.2.1.length:Int)>6) with
    |true=>rw[h3] at h;cases h
    |false=>
     rw[h3] at h
     exact⟨hk,by simp at h3;omega,fun hh=>absurd e hh,fun _=>hd,hz,Xm5 h⟩
   ·rw[show(x.1 != 2)=true by simp[e]] at h2
    have:x.2.2.2.2.1=[]:=by
     cases h3:decide ((x.2.2.2.2.1.length:Int)>0) with
     |true=>
      rw[h3] at h2;exfalso
      revert h2
      generalize cond (x.1 != 1) (cond (cond (x.2.1 != 0) true (x.2.2.1 != 0)) true (decide ((x.2.2.2.1.length:Int)>0))) false=b
      cases b<;>intro h2<;>cases h2
     |false=>simp at h3;exact h3
    exact⟨hk,by simp[this],fun _=>this,fun hh=>absurd hh e,hz,by simp[this]⟩
def Xav (l:List Xb) (e:Xg):Bool:=cond (decide (e.2.1≥(l.length:Int))) true ((l.getD e.2.1.toNat Xa).1 == 0)
def Xgk (f:Fs_):Int:=cond (Xac f.1 != 0) (Xac f.1) (cond (cond (cond ((f.1.length:Int) == 0) true ((f.1.getD 0 Xa).1 != 2)) true ((f.2.1.length:Int) != 20)) 1 0)
def Xci (f:Fs_):Int:=cond (Xgk f != 0) (Xgk f)
 (cond (f.2.1.any fun b=>decide ((b.length:Int)>8)) 2 (cond (!Xgi f.1) 7 (cond (f.1.any fun x=>x.2.2.2.2.1.any (Xav f.1)) 4 0)))
structure Xg1 (l:List Xb):Prop where
 ent:∀ x∈l,x.2.2.2.2.1.length≤6∧∀ e∈x.2.2.2.2.1,0≤e.2.1∧e.2.1≤9
theorem Xg1.of {l:List Xb} (h:Xac l=0):Xg1 l:=
 ⟨fun x hx=>⟨(X8 ((Xw h).2 x hx)).2.1,fun e he=>((X8 ((Xw h).2 x hx)).2.2.2.2.2 e he).2⟩⟩
theorem Xr2 (f:Fs_) (hok:Xcj f.1) (hen:Xg1 f.1) (n:Nat) (hn:n<f.1.length):Xio f (n:Int) 0=some (cond (f.1[n].2.2.2.2.1.any (Xav f.1)) (.inl 4) (.inr ())):=
 Yv2 f.1[n].2.2.2.2.1 (f:=fun s=>Xio.B f (n:Int) s) (Xav f.1) (4:Int) (fun i hi=>by
  have hx:=hen.ent _ (jE hn);have he:=hx.2 _ (jE hi)
  simp only[Xio.B,Ywy hn,Ywg,toNat_cast,getD_lt _ hn,jA,Yw1 hi,Ywy hi,getD_lt _ hi,Ywd (by omega:i<4294967296),Xav]
  by_cases hh:(f.1[n].2.2.2.2.1[i]).2.1≥(f.1.length:Int)
  ·rw[show decide ((f.1[n].2.2.2.2.1[i]).2.1≥(f.1.length:Int))=true by simp[hh]];rfl
  ·rw[show decide ((f.1[n].2.2.2.2.1[i]).2.1≥(f.1.length:Int))=false by simp;omega,show inB (f.1[n].2.2.2.2.1[i]).2.1 f.1.length=true from Yuw he.1 (by omega)]
   rfl) (by
  simp only[Xio.B,Ywy hn,Ywg,toNat_cast,getD_lt _ hn,jA,Yww (jB _),Ywf])
theorem Xp7 (f:Fs_) (hb:Bd Xh f):Xer f=some (Xci f):=by
 simp only[Xer,Xci,Xgk,Xp4 f.1 hb.1,jA]
 cases hi:(Xac f.1 != 0) with
 |true=>simp only[Ywg,hi]
 |false=>
  have h0:Xac f.1=0:=by simpa using hi
  have hok:=Xcj.of h0;have hen:=Xg1.of h0;simp only[Ywf]
  have e1:cond (!((f.1.length:Int) == 0)) (inB 0 f.1.length) true=true:=by
   cases hl:((f.1.length:Int) == 0) with
   |true=>rfl
   |false=>exact Ywy (i:=0) (by
     have:(f.1.length:Int)≠0:=by simpa using hl
     omega)
  rw[e1];simp only[Ywg,show(0:Int).toNat=0 from rfl]
  cases hr:cond (cond ((f.1.length:Int) == 0) true ((f.1.getD 0 Xa).1 != 2)) true ((f.2.1.length:Int) != 20) with
  |true=>rfl
  |false=>
   have hd:f.2.1.length=20:=by
    cases h20:((f.2.1.length:Int) != 20) with
    |false=>have:(f.2.1.length:Int)=20:=by simpa using h20
            omega
    |true=>rw[h20] at hr;cases hh:(cond ((f.1.length:Int) == 0) true ((f.1.getD 0 Xa).1 != 2))<;>rw[hh] at hr<;>cases hr
   have h1:Xkx f 0=_:=Yv2 f.2.1 (fun b=>decide ((b.length:Int)>8)) (2:Int) (fun i hi=>by
    simp only[Xkx.B,Yw1 hi,Ywy hi,Ywg,toNat_cast,getD_lt _ hi,jA,Ywd (by omega:i<4294967296)]) (by
    simp only[Xkx.B,Yww (jB _),Ywf])
   have h2:Xky f 0=_:=Yv2 f.1 (fun x=>x.2.2.2.2.1.any (Xav f.1)) (4:Int) (fun i hi=>by
    have hl:=hok.len
    simp only[Xky.B,Yw1 hi,Ywg,Xr2 f hok hen i hi,jA,Ywd (by omega:i<4294967296)]
    cases (f.1[i].2.2.2.2.1.any (Xav f.1))<;>rfl) (by
    simp only[Xky.B,Yww (jB _),Ywf])
   simp only[Ywf,h1,h2,jA,Xr1 f.1 hok];cases f.2.1.any fun b=>decide ((b.length:Int)>8)
   ·simp only[Ywf,Ywo]
    cases Xgi f.1
    ·rfl
    ·simp only[jK,Ywf]
     cases f.1.any fun x=>x.2.2.2.2.1.any (Xav f.1)<;>rfl
   ·rfl
theorem Xr3 (f:Fs_) (hb:Bd Xh f):Xhu f=some (Xgk f):=by
 simp only[Xhu,Xgk,Xrz f.1 hb.1,jA]
 cases hi:(Xac f.1 != 0) with
 |true=>simp only[Ywg]
 |false=>
  simp only[Ywf]
  have e1:cond (!((f.1.length:Int) == 0)) (inB 0 f.1.length) true=true:=by
   cases hl:((f.1.length:Int) == 0) with
   |true=>rfl
   |false=>exact Ywy (i:=0) (by
     have:(f.1.length:Int)≠0:=by simpa using hl
     omega)
  rw[e1];simp only[Ywg,show(0:Int).toNat=0 from rfl,Yvj]
theorem Xni {f:Fs_} (h:Xgk f=0):Xac f.1=0∧0<f.1.length∧(f.1.getD 0 Xa).1=2∧f.2.1.length=20:=by
 unfold Xgk at h
 cases hi:(Xac f.1 != 0) with
 |true=>rw[hi] at h;exact absurd h (by simpa using hi)
 |false=>
  rw[hi] at h
  refine⟨by simpa using hi,?_⟩
  cases h1:((f.1.length:Int) == 0) with
  |true=>rw[h1] at h;cases h
  |false=>
   rw[h1] at h
   cases h2:((f.1.getD 0 Xa).1 != 2) with
   |true=>rw[h2] at h;cases h
   |false=>
    rw[h2] at h
    cases h3:((f.2.1.length:Int) != 20) with
    |true=>rw[h3] at h;cases h
    |false=>
     have a1:(f.1.length:Int)≠0:=by simpa using h1
     have a3:(f.2.1.length:Int)=20:=by simpa using h3
     exact⟨by omega,by simpa using h2,by omega⟩
theorem Xr4 (f:Fs_) (hok:Xcj f.1) (hen:Xg1 f.1) (v2 v3:Int) (x:Xb) (hx:x∈f.1):Xco f f.1 v2 v3 x.2.2.2.2.1 (x.2.2.2.2.1.length:Int) 0=some (cond (x.2.2.2.2.1.any (Xav f.1)) (.inl 4) (.inr ())):=
 Yv2 x.2.2.2.2.1 (f:=fun s=>Xco.B f f.1 v2 v3 x.2.2.2.2.1 (x.2.2.2.2.1.length:Int) s) (Xav f.1) (4:Int) (fun i hi=>by
  have hx:=hen.ent _ hx;have he:=hx.2 _ (jE hi)
  simp only[Xco.B,Xa1,Ywg,toNat_cast,jA,Yw1 hi,Ywy hi,getD_lt _ hi,Ywd (by omega:i<4294967296),Xav]
  by_cases hh:(x.2.2.2.2.1[i]).2.1≥(f.1.length:Int)
  ·rw[show decide ((x.2.2.2.2.1[i]).2.1≥(f.1.length:Int))=true by simp[hh]];rfl
  ·rw[show decide ((x.2.2.2.2.1[i]).2.1≥(f.1.length:Int))=false by simp;omega,show inB (x.2.2.2.2.1[i]).2.1 f.1.length=true from Yuw he.1 (by omega)]
   rfl) (by
  simp only[Xco.B,Yww (jB _),Ywf])
theorem Xr5 (f:Fs_) (hb:Bd Xh f):Xb6 f=some (Xci f):=by
 simp only[Xb6,Xci,Xr3 f hb,jA]
 cases hi:(Xgk f != 0) with
 |true=>simp only[Ywg]
 |false=>
  have h0:Xgk f=0:=by simpa using hi
  obtain⟨g1,g2,g3,g4⟩:=Xni h0;have hok:=Xcj.of g1;have hen:=Xg1.of g1
  have h1:Xhv f.2.1 ()=some (f.2.1.any fun b=>decide ((b.length:Int)>8)):=by
   have h:Xfh f.2.1 () (f.2.1.length:Int) 0=_:=Yv3 f.2.1 (fun b=>decide ((b.length:Int)>8)) (fun i hi=>by
    simp only[Xfh.B,Yw1 hi,Ywy hi,Ywg,toNat_cast,getD_lt _ hi,Xj5,jA,Ywd (by omega:i<4294967296)]) (by
    simp only[Xfh.B,Yww (jB _),Ywf]) 0 (kE _)
   simp only[Xhv,Xfi];rw[Xbj _ _ h,List.drop_zero]
  have h2:Xfk f f.1 (f.1.length:Int) 0=_:=Yv2 f.1 (fun x=>x.2.2.2.2.1.any (Xav f.1)) (4:Int) (fun i hi=>by
   have hl:=hok.len
   simp only[Xfk.B,Yw1 hi,Ywy hi,Ywg,toNat_cast,getD_lt _ hi,jA,Xr4 f hok hen _ _ _ (jE hi),Ywd (by omega:i<4294967296)]
   cases (f.1[i].2.2.2.2.1.any (Xav f.1))<;>rfl) (by
   simp only[Xfk.B,Yww (jB _),Ywf])
  simp only[Ywf,h1,h2,jA,Xp6 f.1 hok];cases f.2.1.any fun b=>decide ((b.length:Int)>8)
  ·simp only[Ywf]
   cases Xgi f.1
   ·rfl
   ·simp only[jK,Ywf]
    cases f.1.any fun x=>x.2.2.2.2.1.any (Xav f.1)<;>rfl
  ·rfl
structure X5 (f:Fs_):Prop where
 inod:Xac f.1=0
 pos:0<f.1.length
 root:(f.1.getD 0 Xa).1=2
 dat:f.2.1.length=20
 dl:∀ b∈f.2.1,b.length≤8
 once:Xgi f.1=true
 ent:∀ x∈f.1,∀ e∈x.2.2.2.2.1,0≤e.2.1∧e.2.1<(f.1.length:Int)∧(f.1.getD e.2.1.toNat Xa).1≠0
theorem X5.of {f:Fs_} (h:Xci f=0):X5 f:=by
 unfold Xci at h
 cases hi:(Xgk f != 0) with
 |true=>rw[hi] at h;exact absurd h (by simpa using hi)
 |false=>
  rw[hi] at h
  obtain⟨g1,g2,g3,g4⟩:=Xni (by simpa using hi:Xgk f=0)
  cases h1:(f.2.1.any fun b=>decide ((b.length:Int)>8)) with
  |true=>rw[h1] at h;cases h
  |false=>
   rw[h1] at h
   cases h2:Xgi f.1 with
   |false=>rw[h2] at h;cases h
   |true=>
    rw[h2] at h
    cases h3:(f.1.any fun x=>x.2.2.2.2.1.any (Xav f.1)) with
    |true=>rw[h3] at h;cases h
    |false=>
     refine⟨g1,g2,g3,g4,fun b hb=>?_,h2,fun x hx e he=>?_⟩
     ·have:=List.any_eq_false.1 h1 b hb
      simp at this;omega
     ·have hh:=List.any_eq_false.1 h3 x hx
      have hh2:(x.2.2.2.2.1.any (Xav f.1))=false:=by simpa using hh
      have hb:=List.any_eq_false.1 hh2 e he
      have hb2:Xav f.1 e=false:=by simpa using hb
      have h0:=((Xg1.of g1).ent x hx).2 e he;unfold Xav at hb2
      cases h4:decide (e.2.1≥(f.1.length:Int)) with
      |true=>rw[h4] at hb2;cases hb2
      |false=>
       rw[h4] at hb2
       exact⟨h0.1,by simp at h4;omega,by simpa using hb2⟩
abbrev Xaf (l:List Xb) (a:Nat):List Xg:=(l.getD a Xa).2.2.2.2.1
inductive Reach (l:List Xb) (s:Nat):Nat→Prop
 |refl:Reach l s s
 |step {a b:Nat}:Reach l s a→(∃ e∈Xaf l a,e.2.1=(b:Int))→Reach l s b
def Xe6 (l:List Xb):Prop:=∀ x∈l,x.2.2.2.2.1.length≤6∧∀ e∈x.2.2.2.2.1,0≤e.2.1∧e.2.1<(l.length:Int)
theorem X5.Xm4 {f:Fs_} (h:X5 f):Xe6 f.1:=fun x hx=>⟨((Xg1.of h.inod).ent x hx).1,fun e he=>⟨(h.ent x hx e he).1,(h.ent x hx e he).2.1⟩⟩
theorem Xbh {l:List Xb} (h:Xe6 l) {a:Nat} {e:Xg} (he:e∈Xaf l a):0≤e.2.1∧e.2.1<(l.length:Int):=by
 unfold Xaf at he
 by_cases ha:a<l.length
 ·rw[getD_lt _ ha] at he;exact(h _ (jE ha)).2 e he
 ·rw[kT,List.getElem?_eq_none (by omega)] at he;cases he
theorem Reach.lt {l:List Xb} (h:Xe6 l) {s a:Nat} (hs:s<l.length) (hr:Reach l s a):a<l.length:=by
 induction hr with
 |refl=>exact hs
 |step _ he _=>obtain⟨e,he,h2⟩:=he;have:=Xbh h he;omega
abbrev on (b:List Bool) (i:Nat):Prop:=b.getD i false=true
theorem Xe5 {b:List Bool} {i j:Nat}:on (b.set i true) j↔on b j∨(i=j∧i<b.length):=by
 unfold on;rw[kT,kT,List.getElem?_set]
 by_cases e:i=j
 ·subst e
  by_cases h:i<b.length
  ·simp[h]
  ·simp[h]
 ·simp[e]
theorem Xpa {b:List Bool} {i:Nat} (h:on b i):i<b.length:=by
 unfold on at h
 by_cases hh:i<b.length
 ·exact hh
 ·rw[kT,List.getElem?_eq_none (by omega)] at h;cases h
theorem Xqu {b:List Bool} {i:Nat} (h:on b i):b.set i true=b:=by
 have hl:=Xpa h;unfold on at h;rw[getD_lt _ hl] at h
 conv=>lhs;rw[←h]
 exact List.set_getElem_self hl
def Xfz (b:List Bool) (es:List Xg):List Bool:=es.foldl (fun b e=>b.set e.2.1.toNat true) b
theorem Xgr:∀ (es:List Xg) (b:List Bool),(Xfz b es).length=b.length
 |[],b=>rfl
 |e::es,b=>by simp only[Xfz,kI];exact(Xgr es _).trans (by simp)
theorem Xgf:∀ (es:List Xg) (b:List Bool) (j:Nat),on (Xfz b es) j↔on b j∨(j<b.length∧∃ e∈es,e.2.1.toNat=j)
 |[],b,j=>by simp[Xfz]
 |e::es,b,j=>by
  have ih:=Xgf es (b.set e.2.1.toNat true) j;have:on (Xfz b (e::es)) j↔on (Xfz (b.set e.2.1.toNat true) es) j:=Iff.rfl;rw[this,ih,Xe5,kC]
  constructor
  ·rintro((h | ⟨h1,h2⟩) | ⟨h1,e',h2,h3⟩)
   ·exact .inl h
   ·exact .inr ⟨by omega,e,jF ..,h1⟩
   ·exact .inr ⟨h1,e',jG _ h2,h3⟩
  ·rintro(h | ⟨h1,e',h2,h3⟩)
   ·exact .inl (.inl h)
   ·rcases List.mem_cons.1 h2 with rfl | h2
    ·exact .inl (.inr ⟨h3,by omega⟩)
    ·exact .inr ⟨h1,e',h2,h3⟩
theorem Xlm:∀ (es:List Xg) (b:List Bool),(∀ e∈es,on b e.2.1.toNat)→Xfz b es=b
 |[],b,h=>rfl
 |e::es,b,h=>by
  simp only[Xfz,kI];rw[Xqu (h e (jF ..))];exact Xlm es b fun x hx=>h x (jG _ hx)
def Xa3 (l:List Xb):List Nat→List Bool→List Bool
 |[],b=>b
 |i::is,b=>Xa3 l is (cond (b.getD i false) (Xfz b (Xaf l i)) b)
def Xgn (l:List Xb) (b:List Bool):Prop:=∀ i,on b i→∀ e∈Xaf l i,on b e.2.1.toNat
def Xf2 (l:List Xb) (s:Nat) (b:List Bool):Prop:=∀ j,on b j→Reach l s j
theorem Xhj (l:List Xb):∀ (is:List Nat) (b:List Bool),(Xa3 l is b).length=b.length
 |[],b=>rfl
 |i::is,b=>by simp only[Xa3];rw[Xhj l is];cases b.getD i false<;>simp[Xgr]
theorem Xc7 (l:List Xb):∀ (is:List Nat) (b:List Bool) (j:Nat),on b j→on (Xa3 l is b) j
 |[],b,j,h=>h
 |i::is,b,j,h=>by
  refine Xc7 l is _ j ?_;cases b.getD i false
  ·exact h
  ·exact(Xgf _ _ _).2 (.inl h)
theorem Xiy {l:List Xb} (hl:Xe6 l) {s:Nat}:∀ (is:List Nat) (b:List Bool),Xf2 l s b→Xf2 l s (Xa3 l is b)
 |[],b,h=>h
 |i::is,b,h=>by
  refine Xiy hl is _ ?_;cases hi:b.getD i false
  ·exact h
  ·intro j hj
   rcases(Xgf _ _ _).1 hj with hj | ⟨_,e,he,h2⟩
   ·exact h j hj
   ·have:=Xbh hl he
    exact .step (h i hi) ⟨e,he,by omega⟩
theorem Xkl {l:List Xb}:∀ (is:List Nat) (b:List Bool) (i:Nat),i∈is→on b i→∀ e∈Xaf l i,e.2.1.toNat<b.length→on (Xa3 l is b) e.2.1.toNat
 |k::is,b,i,hi,hb,e,he,hlt=>by
  rcases List.mem_cons.1 hi with rfl | hi
  ·refine Xc7 l is _ _ ?_
   rw[hb];exact(Xgf _ _ _).2 (.inr ⟨hlt,e,he,rfl⟩)
  ·refine Xkl is _ i hi ?_ e he ?_
   ·cases b.getD k false
    ·exact hb
    ·exact(Xgf _ _ _).2 (.inl hb)
   ·cases b.getD k false
    ·exact hlt
    ·simpa [Xgr] using hlt
theorem Xbk {l:List Xb}:∀ (is:List Nat) (b:List Bool),Xgn l b→Xa3 l is b=b
 |[],b,h=>rfl
 |i::is,b,h=>by
  simp only[Xa3];cases hi:b.getD i false
  ·exact Xbk is b h
  ·simp only[Ywg]
   rw[Xlm _ _ (h i hi)];exact Xbk is b h
theorem Xo1:∀ (b c:List Bool),b.length=c.length→(∀ j,on b j→on c j)→b.count true≤c.count true
 |[],[],_,_=>jB _
 |x::b,y::c,hl,h=>by
  have ih:=Xo1 b c (by simpa using hl) fun j hj=>h (j+1) hj
  have h0:=h 0;simp only[List.count_cons]
  cases x<;>cases y<;>simp[on] at h0 ⊢<;>omega
theorem cnt_lt:∀ (b c:List Bool),b.length=c.length→(∀ j,on b j→on c j)→(∃ j,on c j∧¬ on b j)→b.count true<c.count true
 |[],[],_,_,⟨j,h,_⟩=>by have:=Xpa h;simp at this
 |x::b,y::c,hl,h,⟨j,h1,h2⟩=>by
  have h0:=h 0;simp only[List.count_cons]
  cases j with
  |zero=>
   have ih:=Xo1 b c (by simpa using hl) fun j hj=>h (j+1) hj
   cases x<;>cases y<;>simp[on] at h1 h2 h0 ⊢<;>omega
  |succ j=>
   have ih:=cnt_lt b c (by simpa using hl) (fun j hj=>h (j+1) hj) ⟨j,h1,h2⟩
   cases x<;>cases y<;>simp[on] at h0 ⊢<;>omega
def Xat (l:List Xb):Nat→List Bool→List Bool
 |0,b=>b
 |n+1,b=>Xat l n (Xa3 l (List.range l.length) b)
theorem Xhb {l:List Xb} (hl:Xe6 l):∀ (n:Nat) (b:List Bool),b.length=l.length→l.length≤n+b.count true→Xgn l (Xat l n b)∧(Xat l n b).length=l.length∧(∀ j,on b j→on (Xat l n b) j)∧∀ s,Xf2 l s b→Xf2 l s (Xat l n b)
 |0,b,hb,hn=>by
  refine⟨fun i hi e he=>?_,hb,fun _ h=>h,fun _ h=>h⟩
  have hall:b.count true=b.length:=by have:=List.count_le_length (a:=true) (l:=b);omega
  have hlt:=(Xbh hl he)
  have:b.getD e.2.1.toNat false=b[e.2.1.toNat]'(by omega):=getD_lt _ _
  show b.getD e.2.1.toNat false=true;rw[this]
  exact(List.count_eq_length.1 hall _ (jE _)).symm
 |n+1,b,hb,hn=>by
  simp only[Xat];have hlen:=Xhj l (List.range l.length) b
  by_cases hc:Xgn l b
  ·rw[Xbk _ _ hc]
   have:∀ n,Xat l n b=b:=by
    intro n
    induction n with
    |zero=>rfl
    |succ n ih=>simp only[Xat];rw[Xbk _ _ hc];exact ih
   rw[this];exact⟨hc,hb,fun _ h=>h,fun _ h=>h⟩
  ·obtain⟨i,h1,e,h2,h3⟩:∃ i,on b i∧∃ e∈Xaf l i,¬ on b e.2.1.toNat:=by
    unfold Xgn at hc;simp only[Classical.not_forall] at hc;obtain⟨i,h1,e,h2,h3⟩:=hc;exact⟨i,h1,e,h2,h3⟩
   have hlt:=Xbh hl h2;have hi:=Xpa h1
   have hs:=cnt_lt b _ hlen.symm (Xc7 l _ b) ⟨_,Xkl (List.range l.length) b i (List.mem_range.2 (by omega)) h1 e h2 (by omega),h3⟩
   obtain⟨q1,q2,q3,q4⟩:=Xhb hl n _ (by omega) (by omega:l.length≤n+(Xa3 l (List.range l.length) b).count true)
   exact⟨q1,q2,fun j hj=>q3 j (Xc7 l _ b j hj),fun s hs=>q4 s (Xiy hl _ _ hs)⟩
open Classical in
noncomputable def Xag (l:List Xb) (s:Nat):List Int:=((List.range l.length).filter fun i=>decide (Reach l s i)).map Int.ofNat
theorem Xnw {l:List Xb} (hl:Xe6 l) {s:Nat} (hs:s<l.length) {a:Nat}:(a:Int)∈Xag l s↔Reach l s a:=by
 unfold Xag;simp only[kS,List.mem_filter,List.mem_range,jI]
 constructor
 ·rintro⟨i,⟨_,h⟩,e⟩
  have:i=a:=Int.ofNat.inj e;subst this;exact h
 ·intro h;exact⟨a,⟨h.lt hl hs,h⟩,rfl⟩
theorem Xqt {l:List Xb} {s:Nat} {v:Int} (h:v∈Xag l s):0≤v∧v<(l.length:Int):=by
 unfold Xag at h;simp only[kS,List.mem_filter,List.mem_range] at h;obtain⟨i,⟨h1,_⟩,rfl⟩:=h;simp;omega
theorem Xlq (l:List Xb) (s:Nat):(Xag l s).length≤l.length:=by
 unfold Xag;rw[kP]
 exact jU (List.length_filter_le _ _) (by simp)
open Classical in
theorem Xlr {l:List Xb} {s:Nat} {b:List Bool} (hb:b.length=l.length) (hc:Xgn l b) (hs:Xf2 l s b) (h0:on b s):((List.range b.length).filter fun i=>b.getD i false).map Int.ofNat=Xag l s:=by
 unfold Xag;rw[hb]
 congr 1
 refine List.filter_congr fun i hi=>?_;clear hi;rw[Bool.eq_iff_iff,jI]
 constructor
 ·exact hs i
 ·intro h
  induction h with
  |refl=>exact h0
  |step _ he ih=>obtain⟨e,he,h2⟩:=he;have:=hc _ ih e he;rw[h2] at this;exact this
theorem Xo9 (b:List Bool) {f:Int×List Int→Option ((Int×List Int)⊕List Int)} (hl:b.length≤1000)
  (hs:∀ (i:Nat) (h:i<b.length) (t:List Int),t.length≤i→f ((i:Int),t)=cond b[i] (some (.inl (((i+1:Nat):Int),t++[(i:Int)]))) (some (.inl (((i+1:Nat):Int),t)))) (he:∀ t,f ((b.length:Int),t)=some (.inr t)) :
  Yan f (0,[])=some (((List.range b.length).filter fun i=>b.getD i false).map Int.ofNat):=by
 have h:=Ym8 (τ:=List Int) b (f:=f) (fun i t=>((i:Int),t)) (fun i x t=>.inl (cond x (t++[(i:Int)]) t)) id (fun i t=>t.length≤i)
  (fun i hi t ht=>by rw[hs i hi t ht];cases b[i]<;>rfl) (fun i hi t t' ht e=>by cases e;cases b[i]<;>simp<;>omega) (fun t ht=>he t) [] (by simp) (s:=(0,[])) rfl
 rw[h]
 congr 1
 clear h hs he hl
 have:∀ (m:List Bool) (n:Nat) (t:List Int),Yb0 (fun i x t=>.inl (cond x (t++[(i:Int)]) t)) id n m t=t++((List.range' n m.length).filter fun i=>m.getD (i-n) false).map Int.ofNat:=by
  intro m
  induction m with
  |nil=>intro n t;simp[Yb0]
  |cons x m ih=>
   intro n t;simp only[Yb0,Ywn];rw[ih,jH,List.range'_succ,List.filter_cons]
   have e:(List.range' (n+1) m.length).filter (fun i=>(x::m).getD (i-n) false)=(List.range' (n+1) m.length).filter (fun i=>m.getD (i-(n+1)) false):=by
    refine List.filter_congr fun i hi=>?_;have:=(List.mem_range'_1.1 hi).1
    rw[show i-n=(i-(n+1))+1 by omega];rfl
   rw[e]
   cases x<;>simp
 rw[this b 0 [],jO,List.range_eq_range'];rfl
theorem Xr6 (f:Fs_) (hl:Xe6 f.1) (hn:f.1.length≤10) (rd:Int) (i:Nat) (hi:i<f.1.length) (b:List Bool) (hb:b.length=f.1.length):Xgx f rd (i:Int) (0,b)=some (cond (b.getD i false) (Xfz b (Xaf f.1 i)) b):=by
 have hx:=hl _ (jE hi)
 have he:Xaf f.1 i=f.1[i].2.2.2.2.1:=by unfold Xaf;rw[getD_lt _ hi]
 cases h0:b.getD i false with
 |false=>
  refine Yas ?_
  simp only[Xgx.B,Ywy (by omega:i<b.length),Ywg,toNat_cast,h0,Ywf,jA]
 |true=>
  rw[he]
  have h:=Yon f.1[i].2.2.2.2.1 (f:=fun s=>Xgx.B f rd (i:Int) s.1 s.2) (fun(b:List Bool) e=>b.set e.2.1.toNat true) id (fun k c=>c.length=f.1.length∧on c i) (fun k hk c hc=>by
   have hek:=hx.2 _ (jE hk)
   refine⟨?_,by simpa using hc.1,Xe5.2 (.inl hc.2)⟩
   have h1:c.getD i false=true:=hc.2
   simp only[Xgx.B,Ywy (by omega:i<c.length),Ywg,toNat_cast,h1,Ywy hi,getD_lt _ hi,Yw1 hk,jA,Ywy hk,getD_lt _ hk,Ywd (by omega:k<4294967296)]
   rw[show inB (f.1[i].2.2.2.2.1[k]).2.1 c.length=true from Yuw hek.1 (by omega)];rfl) (fun c hc=>by
   have h1:c.getD i false=true:=hc.2
   simp only[Xgx.B,Ywy (by omega:i<c.length),Ywg,toNat_cast,h1,Ywy hi,getD_lt _ hi,Yww (jB _),jA,Ywf,id]) b ⟨hb,h0⟩
  exact h
theorem Xr7 (f:Fs_) (hl:Xe6 f.1) (hn:f.1.length≤10) (rd:Int) (b:List Bool) (hb:b.length=f.1.length):Xip f rd (0,b)=some (Xa3 f.1 (List.range f.1.length) b):=by
 have h:=Ym8 (τ:=List Bool) f.1 (f:=fun s=>Xip.B f rd s.1 s.2) (fun i b=>((i:Int),b)) (fun i x b=>.inl (cond (b.getD i false) (Xfz b (Xaf f.1 i)) b)) id (fun i b=>b.length=f.1.length)
  (fun i hi c hc=>by
   simp only[Xip.B,Yw1 hi,Ywg,Xr6 f hl hn rd i hi c hc,jA,Ywd (by omega:i<4294967296),sel]) (fun i hi c c' hc e=>by cases e;cases c.getD i false<;>simp[Xgr,hc]) (fun c hc=>by
   simp only[Xip.B,Yww (jB _),Ywf,id]) b hb (s:=(0,b)) rfl
 refine Eq.trans h ?_
 congr 1
 have:∀ (m:List Xb) (n:Nat) (b:List Bool),Yb0 (fun i (x:Xb) b=>.inl (cond (b.getD i false) (Xfz b (Xaf f.1 i)) b)) id n m b=Xa3 f.1 (List.range' n m.length) b:=by
  intro m
  induction m with
  |nil=>intro n b;rfl
  |cons x m ih=>intro n b;simp only[Yb0,Ywn,jH,List.range'_succ,Xa3];exact ih _ _
 rw[this,List.range_eq_range']
theorem Xr8 (f:Fs_) (hl:Xe6 f.1) (hn:f.1.length≤10) (h0:0<f.1.length):Xmh f=some (Xag f.1 0):=by
 have hz:(List.replicate f.1.length false).length=f.1.length:=by simp
 let b0:=(List.replicate f.1.length false).set 0 true
 have hb0:b0.length=f.1.length:=by simp[b0]
 have hon:on b0 0:=Xe5.2 (.inr ⟨rfl,by omega⟩)
 have hcnt:1≤b0.count true:=by
  have:true∈b0:=by
   have h1:b0[0]'(by omega)=true:=by rw[←getD_lt false (by omega:0<b0.length)];exact hon
   rw[←h1];exact jE _
  exact List.count_pos_iff.2 this
 have hsnd:Xf2 f.1 0 b0:=by
  intro j hj;rcases Xe5.1 hj with h | ⟨rfl,_⟩
  ·unfold on at h;rw[kT,List.getElem?_replicate] at h;split at h<;>simp at h
  ·exact .refl
 obtain⟨q1,q2,q3,q4⟩:=Xhb hl f.1.length b0 hb0 (by omega)
 have h1:Xjd f (0,b0)=some (Xat f.1 f.1.length b0):=by
  have h:=Ym8 (τ:=List Bool) f.1 (f:=fun s=>Xjd.B f s.1 s.2) (fun i b=>((i:Int),b)) (fun i x b=>.inl (Xa3 f.1 (List.range f.1.length) b)) id (fun i b=>b.length=f.1.length)
   (fun i hi c hc=>by
    simp only[Xjd.B,Yw1 hi,Ywg,Xr7 f hl hn i c hc,jA,Ywd (by omega:i<4294967296),sel]) (fun i hi c c' hc e=>by cases e;rw[Xhj,hc]) (fun c hc=>by
    simp only[Xjd.B,Yww (jB _),Ywf,id]) b0 hb0 (s:=(0,b0)) rfl
  refine Eq.trans h ?_
  congr 1
  have:∀ (m:List Xb) (n:Nat) (b:List Bool),Yb0 (fun i (x:Xb) b=>.inl (Xa3 f.1 (List.range f.1.length) b)) id n m b=Xat f.1 m.length b:=by
   intro m
   induction m with
   |nil=>intro n b;rfl
   |cons x m ih=>intro n b;simp only[Yb0,Ywn,jH,Xat];exact ih _ _
  exact this _ _ _
 have h3:Xje (Xat f.1 f.1.length b0) (0,[])=some (Xag f.1 0):=by
  have h:=Xo9 (Xat f.1 f.1.length b0) (f:=fun s=>Xje.B (Xat f.1 f.1.length b0) s.1 s.2) (by omega) (fun i hi t ht=>by
   simp only[Xje.B,Yw1 hi,Ywy hi,Ywg,toNat_cast,getD_lt _ hi,Ywd (by omega:i<4294967296)]
   rw[Xlx (by simp;omega)];rfl) (fun t=>by
   simp only[Xje.B,Yww (jB _),Ywf])
  refine Eq.trans h ?_;rw[Xlr q2 q1 (q4 0 hsnd) (q3 0 hon)]
 simp only[Xmh]
 rw[show(decide ((0:Int)≤(f.1.length:Int))&&(decide ((f.1.length:Int)≤(f.1.length:Int))&&decide ((f.1.length:Int)≤2147483648)))=true by simp;omega]
 rw[show((f.1.length:Int)).toNat=f.1.length from toNat_cast _,hz,show inB 0 f.1.length=true from Ywy (i:=0) h0];simp only[Ywg,jA,show(0:Int).toNat=0 from rfl];rw[show(List.replicate f.1.length false).set 0 true=b0 from rfl,h1];simp only[jA,h3]
theorem Xn2:∀ (b:List Bool) (i:Nat),i<b.length→b.getD i false=false→(b.set i true).count false+1=b.count false
 |x::b,0,h,hf=>by
  have:x=false:=by simpa using hf
  subst this;simp
 |x::b,i+1,h,hf=>by
  have ih:=Xn2 b i (by simpa using h) (by simpa using hf)
  simp only[List.set_cons_succ,List.count_cons];omega
theorem Xr9 (l:List Xb) (es:List Xg) (v2:Int) (hv:v2=(es.length:Int)) (seen:List Bool) (op:List Int) (h6:es.length≤6) (ho:op.length≤1000):Xcp l es v2 seen (0,op)=some (op++es.map fun e=>e.2.1):=by
 subst hv
 exact Yvi es (f:=fun s=>Xcp.B l es (es.length:Int) seen s.1 s.2) (fun e=>e.2.1) id op.length (fun i hi t ht=>by
  simp only[Xcp.B,Yw1 hi,Ywy hi,Ywg,toNat_cast,getD_lt _ hi,Ywd (by omega:i<4294967296)]
  rw[Xlx (by simp;omega)];rfl) (fun t ht=>by
  simp only[Xcp.B,Yww (jB _),Ywf,id]) op rfl
theorem Xlz {op:List Int} (h:0<op.length):op.take (op.length-1)++[op.getD (op.length-1) 0]=op:=by
 have h1:op.length-1<op.length:=by omega
 rw[getD_lt _ h1];have:=List.take_append_drop (op.length-1) op
 rw[kZ h1,show op.length-1+1=op.length by omega,List.drop_length] at this
 exact this
theorem Xor {l:List Xb} (hl:Xe6 l) (hn:l.length≤10) (s:Nat) (hs:s<l.length):∀ (m:Nat) (seen:List Bool) (op:List Int),7*seen.count false+op.length≤m→m≤100→seen.length=l.length→Xf2 l s seen→
  (∀ v∈op,∃ a:Nat,v=(a:Int)∧Reach l s a)→(∀ i,on seen i→∀ e∈Xaf l i,on seen e.2.1.toNat∨e.2.1∈op)→
  ∃ b,Xbm l (seen,op)=some b∧b.length=l.length∧Xgn l b∧Xf2 l s b∧(∀ j,on seen j→on b j)∧∀ v∈op,on b v.toNat
 |m,seen,op,hm,hm2,h1,h2,h3,h4=>by
  by_cases ho:op.length=0
  ·have:op=[]:=List.length_eq_zero_iff.1 ho
   subst this
   refine⟨seen,Yas ?_,h1,fun i hi e he=>?_,h2,fun _ h=>h,fun v hv=>by cases hv⟩
   ·simp only[Xbm.B];rfl
   ·rcases h4 i hi e he with h | h
    ·exact h
    ·cases h
  ·have hpos:0<op.length:=by omega
   have hw:w64 ((op.length:Int)-1)=((op.length-1:Nat):Int):=by rw[Yss (by omega) (by omega)];omega
   have hsp:=Xlz hpos;generalize hv:op.getD (op.length-1) 0=v at hsp;generalize hq:op.take (op.length-1)=q at hsp
   have hql:q.length=op.length-1:=by rw[←hq];simp
   obtain⟨a,rfl,ha⟩:=h3 v (by rw[←hsp];simp)
   have hal:=ha.lt hl hs
   have hB:Xbm.B l seen op=cond (seen.getD a false) (some (.inl (seen,q))) (some (.inl (seen.set a true,q++(Xaf l a).map fun e=>e.2.1))):=by
    have e6:(Xaf l a).length≤6:=by unfold Xaf;rw[getD_lt _ hal];exact(hl _ (jE hal)).1
    simp only[Xbm.B,show decide ((op.length:Int)>0)=true by simp;omega,Ywg,hw,Ywy (by omega:op.length-1<op.length),toNat_cast,hv,jA]
    rw[show(decide ((0:Int)≤((op.length-1:Nat):Int))&&decide (((op.length-1:Nat):Int)≤(op.length:Int)))=true by rw[jC,jI,jI];omega,List.drop_zero,Nat.sub_zero,hq]
    simp only[Ywg,Ywy (by omega:a<seen.length),Ywy hal,Xr9 l (Xaf l a) _ rfl _ q e6 (by omega),jA]
   cases hsn:seen.getD a false with
   |true=>
    rw[hsn] at hB
    obtain⟨b,q1,q2,q3,q4,q5,q6⟩:=Xor hl hn s hs (m-1) seen q (by omega) (by omega) h1 h2 (fun v hv=>h3 v (by rw[←hsp];simp[hv])) (fun i hi e he=>by
     rcases h4 i hi e he with h | h
     ·exact .inl h
     ·rw[←hsp] at h
      rcases List.mem_append.1 h with h | h
      ·exact .inr h
      ·have:e.2.1=(a:Int):=by simpa using h
       rw[this];exact .inl hsn)
    refine⟨b,?_,q2,q3,q4,q5,fun v hv=>?_⟩
    ·unfold Xbm
     rw[Ybd (f:=fun s=>Xbm.B l s.1 s.2) (s:=(seen,op)) (s':=(seen,q)) hB];exact q1
    ·rw[←hsp] at hv
     rcases List.mem_append.1 hv with h | h
     ·exact q6 v h
     ·have:v=(a:Int):=by simpa using h
      rw[this];exact q5 a hsn
   |false=>
    rw[hsn] at hB
    have e6:(Xaf l a).length≤6:=by unfold Xaf;rw[getD_lt _ hal];exact(hl _ (jE hal)).1
    have hc:=Xn2 seen a (by omega) hsn
    have hon:on (seen.set a true) a:=Xe5.2 (.inr ⟨rfl,by omega⟩)
    obtain⟨b,q1,q2,q3,q4,q5,q6⟩:=Xor hl hn s hs (m-1) (seen.set a true) (q++(Xaf l a).map fun e=>e.2.1) (by simp;omega) (by omega) (by simpa using h1) (fun j hj=>by
      rcases Xe5.1 hj with h | ⟨rfl,_⟩
      ·exact h2 j h
      ·exact ha) (fun v hv=>by
      rcases List.mem_append.1 hv with h | h
      ·exact h3 v (by rw[←hsp];simp[h])
      ·obtain⟨e,he,rfl⟩:=List.mem_map.1 h
       have:=Xbh hl he
       exact⟨e.2.1.toNat,by omega,.step ha ⟨e,he,by omega⟩⟩) (fun i hi e he=>by
      rcases Xe5.1 hi with h | ⟨rfl,_⟩
      ·rcases h4 i h e he with h | h
       ·exact .inl (Xe5.2 (.inl h))
       ·rw[←hsp] at h
        rcases List.mem_append.1 h with h | h
        ·exact .inr (jW _ h)
        ·have:e.2.1=(a:Int):=by simpa using h
         rw[this];exact .inl hon
      ·exact .inr (kB _ (List.mem_map.2 ⟨e,he,rfl⟩)))
    refine⟨b,?_,q2,q3,q4,fun j hj=>q5 j (Xe5.2 (.inl hj)),fun v hv=>?_⟩
    ·unfold Xbm
     rw[Ybd (f:=fun s=>Xbm.B l s.1 s.2) (s:=(seen,op)) (s':=(seen.set a true,q++(Xaf l a).map fun e=>e.2.1)) hB];exact q1
    ·rw[←hsp] at hv
     rcases List.mem_append.1 hv with h | h
     ·exact q6 v (jW _ h)
     ·have:v=(a:Int):=by simpa using h
      rw[this];exact q5 a hon
termination_by m=>m
decreasing_by all_goals omega
theorem Xp8 {l:List Xb} (hl:Xe6 l) (hn:l.length≤10) (s:Nat) (hs:s<l.length):Xcq l (s:Int)=some (Xag l s):=by
 obtain⟨b,q1,q2,q3,q4,_,q6⟩:=Xor hl hn s hs 71 (List.replicate l.length false) [(s:Int)] (by simp;omega) (by omega) (by simp) (fun j hj=>by
   unfold on at hj;rw[kT,List.getElem?_replicate] at hj;split at hj<;>simp at hj) (fun v hv=>⟨s,by simpa using hv,.refl⟩) (fun j hj=>by
   unfold on at hj;rw[kT,List.getElem?_replicate] at hj;split at hj<;>simp at hj)
 have h2:Xdp (b.length:Int) b (0,[])=some (Xag l s):=by
  have h:=Xo9 b (f:=fun s=>Xdp.B (b.length:Int) b s.1 s.2) (by omega) (fun i hi t ht=>by
   simp only[Xdp.B,Yw1 hi,Ywy hi,Ywg,toNat_cast,getD_lt _ hi,Ywd (by omega:i<4294967296)]
   rw[Xlx (by simp;omega)];rfl) (fun t=>by
   simp only[Xdp.B,Yww (jB _),Ywf])
  refine Eq.trans h ?_;rw[Xlr q2 q3 q4 (q6 _ (jF ..))]
 simp only[Xcq]
 rw[show(decide ((0:Int)≤(l.length:Int))&&(decide ((l.length:Int)≤(l.length:Int))&&decide ((l.length:Int)≤2147483648)))=true by simp;omega,show((l.length:Int)).toNat=l.length from toNat_cast _]
 simp only[Ywg,q1,jA,h2]
def Xm0 (l:List Xb):List Int:=l.flatMap fun x=>x.2.2.2.2.1.map fun e=>e.2.1
def X4 (l:List Xb) (a:Int):Int:=(((Xm0 l).count a:Nat):Int)
theorem Xlh (a:Int):∀ (l:List Xg) (m:Nat),l.foldl (fun t e=>t+(if e.2.1 == a then 1 else 0)) m=m+(l.map fun e=>e.2.1).count a
 |[],m=>by simp
 |y::l,m=>by rw[kI,Xlh a l,jS,List.count_cons];omega
theorem Xp9 (l:List Xb) (hl:∀ x∈l,x.2.2.2.2.1.length≤6) (hn:l.length≤10) (a:Int):Xkz l a=some (X4 l a):=by
 have h1:∀ (i:Nat) (hi:i<l.length) (n:Nat),n≤1000→Xiq l a (i:Int) ((n:Int),0)=some (((n+(l[i].2.2.2.2.1.map fun e=>e.2.1).count a:Nat):Int)):=by
  intro i hi n hn;have h6:=hl _ (jE hi)
  have h:=Ym8 (τ:=Nat) l[i].2.2.2.2.1 (f:=fun s=>Xiq.B l a (i:Int) s.1 s.2) (fun k m=>((m:Int),(k:Int))) (fun _ e m=>.inl (m+(if e.2.1 == a then 1 else 0))) (fun m=>((m:Nat):Int)) (fun k m=>m≤n+k)
   (fun k hk m hm=>by
    simp only[Xiq.B,Ywy hi,Ywg,toNat_cast,getD_lt _ hi,jA,Yw1 hk,Ywy hk,getD_lt _ hk,Ywd (by omega:k<4294967296),Ywd (by omega:m<4294967296),sel]
    cases h:((l[i].2.2.2.2.1[k]).2.1 == a)<;>simp[h])
   (fun k hk m m' hm e=>by cases e;split<;>omega)
   (fun m hm=>by
    simp only[Xiq.B,Ywy hi,Ywg,toNat_cast,getD_lt _ hi,jA,Yww (jB _),Ywf]) n (by omega) (s:=((n:Int),0)) rfl
  refine Eq.trans h ?_;rw[Yiy,Xlh]
 have h:=Ym8 (τ:=Nat) l (f:=fun s=>Xjf.B l a s.1 s.2) (fun k m=>((m:Int),(k:Int))) (fun _ x m=>.inl (m+(x.2.2.2.2.1.map fun e=>e.2.1).count a)) (fun m=>((m:Nat):Int)) (fun k m=>m≤6*k)
  (fun k hk m hm=>by
   simp only[Xjf.B,Yw1 hk,Ywg,h1 k hk m (by omega),jA,Ywd (by omega:k<4294967296),sel])
  (fun k hk m m' hm e=>by cases e;have:=hl _ (jE hk);have:=List.count_le_length (a:=a) (l:=l[k].2.2.2.2.1.map fun e=>e.2.1);simp at this;omega)
  (fun m hm=>by simp only[Xjf.B,Yww (jB _),Ywf]) 0 (by omega) (s:=(0,0)) rfl
 have h':Xjf l a (0,0)=_:=h;simp only[Xkz,h',jA];rw[Yiy]
 have:∀ (l:List Xb) (m:Nat),l.foldl (fun t x=>t+(x.2.2.2.2.1.map fun e=>e.2.1).count a) m=m+(Xm0 l).count a:=by
  intro l
  induction l with
  |nil=>intro m;simp[Xm0]
  |cons y l ih=>intro m;rw[kI,ih];simp only[Xm0,List.flatMap_cons,List.count_append];omega
 rw[this,jJ];rfl
theorem Xqa (l:List Xb) (hl:∀ x∈l,x.2.2.2.2.1.length≤6) (hn:l.length≤10) (a:Int):Xdr l a=some (X4 l a):=by
 have h1:∀ (v v2:Int) (x:Xb) (h6:x.2.2.2.2.1.length≤6) (n:Nat),n≤1000→Xcr a l v v2 x.2.2.2.2.1 (x.2.2.2.2.1.length:Int) ((n:Int),0)=some (((n+(x.2.2.2.2.1.map fun e=>e.2.1).count a:Nat):Int)):=by
  intro v v2 x h6 n hn
  have h:=Ym8 (τ:=Nat) x.2.2.2.2.1 (f:=fun s=>Xcr.B a l v v2 x.2.2.2.2.1 (x.2.2.2.2.1.length:Int) s.1 s.2) (fun k m=>((m:Int),(k:Int))) (fun _ e m=>.inl (m+(if e.2.1 == a then 1 else 0))) (fun m=>((m:Nat):Int)) (fun k m=>m≤n+k)
   (fun k hk m hm=>by
    simp only[Xcr.B,Ywg,toNat_cast,jA,Yw1 hk,Ywy hk,getD_lt _ hk,Ywd (by omega:k<4294967296),Ywd (by omega:m<4294967296),sel]
    cases h:((x.2.2.2.2.1[k]).2.1 == a)<;>simp[h])
   (fun k hk m m' hm e=>by cases e;split<;>omega)
   (fun m hm=>by
    simp only[Xcr.B,Yww (jB _),Ywf]) n (by omega) (s:=((n:Int),0)) rfl
  refine Eq.trans h ?_;rw[Yiy,Xlh]
 have h:=Ym8 (τ:=Nat) l (f:=fun s=>Xdq.B a l (l.length:Int) s.1 s.2) (fun k m=>((m:Int),(k:Int))) (fun _ x m=>.inl (m+(x.2.2.2.2.1.map fun e=>e.2.1).count a)) (fun m=>((m:Nat):Int)) (fun k m=>m≤6*k)
  (fun k hk m hm=>by
   simp only[Xdq.B,Yw1 hk,Ywy hk,Ywg,toNat_cast,getD_lt _ hk,h1 _ _ _ (hl _ (jE hk)) m (by omega),jA,Ywd (by omega:k<4294967296),sel])
  (fun k hk m m' hm e=>by cases e;have:=hl _ (jE hk);have:=List.count_le_length (a:=a) (l:=l[k].2.2.2.2.1.map fun e=>e.2.1);simp at this;omega)
  (fun m hm=>by simp only[Xdq.B,Yww (jB _),Ywf]) 0 (by omega) (s:=(0,0)) rfl
 have h':Xdq a l (l.length:Int) (0,0)=_:=h;simp only[Xdr,h',jA];rw[Yiy]
 have:∀ (l:List Xb) (m:Nat),l.foldl (fun t x=>t+(x.2.2.2.2.1.map fun e=>e.2.1).count a) m=m+(Xm0 l).count a:=by
  intro l
  induction l with
  |nil=>intro m;simp[Xm0]
  |cons y l ih=>intro m;rw[kI,ih];simp only[Xm0,List.flatMap_cons,List.count_append];omega
 rw[this,jJ];rfl
noncomputable def Xe4 (l:List Xb) (i:Nat) (x:Xb):Bool:=
 cond (x.1 == 0) false (cond (x.1 == 1) (cond (X4 l i != x.2.1) true (!(Xag l 0).contains (i:Int))) (cond ((i:Int) == 0) (cond (X4 l i != 0) true (!(Xag l 0).contains (i:Int))) (cond (X4 l i != 1) true (!(Xag l 0).contains (i:Int)))))
noncomputable def Xbr (l:List Xb):Bool:=(List.range l.length).any fun i=>Xe4 l i (l.getD i Xa)
theorem Xjt {α ρ:Type} (l:List α) (d:α) {f:Int→Option (Int⊕(ρ⊕Unit))} (p:Nat→α→Bool) (r:ρ)
  (hs:∀ (i:Nat) (h:i<l.length),f (i:Int)=cond (p i l[i]) (some (.inr (.inl r))) (some (.inl ((i+1:Nat):Int)))) (he:f (l.length:Int)=some (.inr (.inr ()))) :
  Yan f 0=some (cond ((List.range l.length).any fun i=>p i (l.getD i d)) (.inl r) (.inr ())):=by
 refine Yv2 (List.range l.length) (fun i=>p i (l.getD i d)) r (fun i hi=>?_) (by rw[kJ];exact he)
 have hi':i<l.length:=by simpa using hi
 rw[hs i hi',kA,getD_lt _ hi']
theorem Xsa (f:Fs_) (h:X5 f):Xjg f=some (!Xbr f.1):=by
 have hn:=(Xcj.of h.inod).len;have h6:∀ x∈f.1,x.2.2.2.2.1.length≤6:=fun x hx=>((Xg1.of h.inod).ent x hx).1;have hrl:=Xlq f.1 0
 have hl:Xk1 f (Xag f.1 0) 0=_:=Xjt f.1 Xa (Xe4 f.1) false (fun i hi=>by
  simp only[Xk1.B,Yw1 hi,Ywy hi,Ywg,toNat_cast,getD_lt _ hi,Xp9 f.1 h6 hn,Xp3 _ _ (by omega:(Xag f.1 0).length≤2147483648),jA,Ywd (by omega:i<4294967296),Xe4]
  cases (f.1[i].1 == 0)
  ·simp only[Ywf]
   cases (f.1[i].1 == 1)
   ·simp only[Ywf]
    cases ((i:Int) == 0)
    ·simp only[Ywf]
     cases (X4 f.1 (i:Int) != 1)
     ·simp only[Ywf]
     ·rfl
    ·simp only[Ywg]
     cases (X4 f.1 (i:Int) != 0)
     ·simp only[Ywf]
     ·rfl
   ·simp only[Ywg]
    cases (X4 f.1 (i:Int) != f.1[i].2.1)
    ·simp only[Ywf]
    ·rfl
  ·rfl) (by simp only[Xk1.B,Yww (jB _),Ywf])
 simp only[Xjg,Xr8 f h.Xm4 hn h.pos,jA,hl,Xbr]
 cases (List.range f.1.length).any fun i=>Xe4 f.1 i (f.1.getD i Xa)<;>rfl
theorem Xsb (f:Fs_) (h:X5 f):Xds f=some (cond (Xbr f.1) 1 0):=by
 have hn:=(Xcj.of h.inod).len;have h6:∀ x∈f.1,x.2.2.2.2.1.length≤6:=fun x hx=>((Xg1.of h.inod).ent x hx).1;have hrl:=Xlq f.1 0
 have hl:Xfl f f.1 (f.1.length:Int) (Xag f.1 0) 0=_:=Xjt f.1 Xa (Xe4 f.1) (1:Int) (fun i hi=>by
  have hk:=(X8 ((Xw h.inod).2 _ (jE hi))).1
  simp only[Xfl.B,Yw1 hi,Ywy hi,Ywg,toNat_cast,getD_lt _ hi,Xqa f.1 h6 hn,Xmv _ _ (by omega:(Xag f.1 0).length≤2147483648),jA,Ywd (by omega:i<4294967296),Xe4]
  generalize hx:f.1[i]=x at hk
  by_cases e0:x.1=0
  ·rw[show(x.1 == 0)=true by simp[e0],show(x.1 == 1)=false by simp[e0],show(x.1 == 2)=false by simp[e0],show(x.1 != 0)=false by simp[e0]];rfl
  ·by_cases e1:x.1=1
   ·rw[show(x.1 == 0)=false by simp[e0],show(x.1 == 1)=true by simp[e1],show(x.1 == 2)=false by simp[e1],show(x.1 != 0)=true by simp[e0],show(x.2.1 != X4 f.1 (i:Int))=(X4 f.1 (i:Int) != x.2.1) by rw[bne,bne,Bool.beq_comm]]
    simp only[Ywg,Ywf]
    cases (X4 f.1 (i:Int) != x.2.1)<;>rfl
   ·have e2:x.1=2:=by omega
    rw[show(x.1 == 0)=false by simp[e0],show(x.1 == 1)=false by simp[e1],show(x.1 == 2)=true by simp[e2],show(x.1 != 0)=true by simp[e0]]
    simp only[Ywg,Ywf]
    cases i with
    |zero=>
     rw[show(((0:Nat):Int) == 0)=true from rfl,show decide (((0:Nat):Int)>0)=false from rfl];simp only[Ywg,Ywf]
     cases (X4 f.1 ((0:Nat):Int) != 0)<;>rfl
    |succ j=>
     rw[show(((j+1:Nat):Int) == 0)=false by simp;omega,show decide (((j+1:Nat):Int)>0)=true by simp]
     simp only[Ywg,Ywf]
     cases (X4 f.1 ((j+1:Nat):Int) != 1)<;>rfl) (by simp only[Xfl.B,Yww (jB _),Ywf])
 have hr:Xcq f.1 0=some (Xag f.1 0):=Xp8 h.Xm4 hn 0 h.pos;simp only[Xds,hr,jA,hl,Xbr]
 cases (List.range f.1.length).any fun i=>Xe4 f.1 i (f.1.getD i Xa)<;>rfl
def Xne (a b:Int):Int:=cond (decide (a<b)) a b
theorem Xsc (a b:Int):Xck a b=some (Xne a b):=by simp only[Xck,Xne,Yvj]
theorem Xo6 (a b:Int):cond (decide (a<b)) a b=Xne b a:=by
 unfold Xne
 by_cases h1:a<b
 ·rw[show decide (a<b)=true by simp[h1],show decide (b<a)=false by simp;omega];rfl
 ·by_cases h2:b<a
  ·rw[show decide (a<b)=false by simp;omega,show decide (b<a)=true by simp[h2]];rfl
  ·have:a=b:=by omega
   subst this;simp
def Xgm (x:Xb):Nat→List Int→List Int→List Int
 |_,[],w=>w
 |k,b::bs,w=>Xgm x (k+1) bs (w.set b.toNat (Xne 8 (w64 (x.2.2.1-w64 ((k:Int)*8)))))
def Xl8:List Xb→List Int→List Int
 |[],w=>w
 |x::l,w=>Xl8 l (Xgm x 0 x.2.2.2.1 w)
def Xez (l:List Xb):List Int:=Xl8 l (List.replicate 20 0)
theorem Xgs (x:Xb):∀ (bs:List Int) (k:Nat) (w:List Int),(Xgm x k bs w).length=w.length
 |[],k,w=>rfl
 |b::bs,k,w=>by simp only[Xgm];rw[Xgs x bs];simp
theorem Xl9:∀ (l:List Xb) (w:List Int),(Xl8 l w).length=w.length
 |[],w=>rfl
 |x::l,w=>by simp only[Xl8];rw[Xl9 l,Xgs]
theorem Xom (l:List Xb):(Xez l).length=20:=by unfold Xez;rw[Xl9];simp
theorem Xhl (x:Xb):∀ (bs:List Int) (k:Nat) (w:List Int),Yb0 (fun k b w=>.inl (w.set b.toNat (Xne 8 (w64 (x.2.2.1-w64 ((k:Int)*8)))))) id k bs w=Xgm x k bs w
 |[],k,w=>rfl
 |b::bs,k,w=>by simp only[Yb0,Ywn,Xgm];exact Xhl x bs _ _
theorem Xhm:∀ (l:List Xb) (k:Nat) (w:List Int),Yb0 (fun _ x w=>.inl (Xgm x 0 x.2.2.2.1 w)) id k l w=Xl8 l w
 |[],k,w=>rfl
 |x::l,k,w=>by simp only[Yb0,Ywn,Xl8];exact Xhm l _ _
theorem Xsd (f:Fs_) (i:Int) (x:Xb) (h4:x.2.2.2.1.length≤4) (hb:∀ b∈x.2.2.2.1,0≤b∧b≤19) (w:List Int) (hw:w.length=20):Xis f i x (0,w)=some (Xgm x 0 x.2.2.2.1 w):=by
 have h:=Ym8 (τ:=List Int) x.2.2.2.1 (f:=fun s=>Xis.B f i x s.1 s.2) (fun k w=>((k:Int),w)) (fun k b w=>.inl (w.set b.toNat (Xne 8 (w64 (x.2.2.1-w64 ((k:Int)*8)))))) id (fun k w=>w.length=20)
  (fun k hk w hw=>by
   have h2:=hb _ (jE hk)
   simp only[Xis.B,Yw1 hk,Ywy hk,Ywg,toNat_cast,getD_lt _ hk,Xsc,jA,Ywd (by omega:k<4294967296),sel]
   rw[show inB (x.2.2.2.1[k]) w.length=true from Yuw h2.1 (by omega)];rfl) (fun k hk w w' hw e=>by cases e;simpa using hw) (fun w hw=>by
   simp only[Xis.B,Yww (jB _),Ywf,id]) w hw (s:=(0,w)) rfl
 rw[Xhl] at h;exact h
theorem Xse (l:List Xb) (v v2:Int) (v3:List Int) (x:Xb) (h4:x.2.2.2.1.length≤4) (hb:∀ b∈x.2.2.2.1,0≤b∧b≤19) (w:List Int) (hw:w.length=20):Xcs l v v2 x.2.2.2.1 (x.2.2.2.1.length:Int) v3 x (0,w)=some (Xgm x 0 x.2.2.2.1 w):=by
 have h:=Ym8 (τ:=List Int) x.2.2.2.1 (f:=fun s=>Xcs.B l v v2 x.2.2.2.1 (x.2.2.2.1.length:Int) v3 x s.1 s.2) (fun k w=>((k:Int),w)) (fun k b w=>.inl (w.set b.toNat (Xne 8 (w64 (x.2.2.1-w64 ((k:Int)*8)))))) id (fun k w=>w.length=20)
  (fun k hk w hw=>by
   have h2:=hb _ (jE hk)
   simp only[Xcs.B,Yw1 hk,Ywy hk,Ywg,toNat_cast,getD_lt _ hk,Xo6,jA,Ywd (by omega:k<4294967296),sel]
   rw[show inB (x.2.2.2.1[k]) 20=true from Yuw h2.1 (by omega)];rfl) (fun k hk w w' hw e=>by cases e;simpa using hw) (fun w hw=>by
   simp only[Xcs.B,Yww (jB _),Ywf,id]) w hw (s:=(0,w)) rfl
 rw[Xhl] at h;exact h
theorem Xsf (l:List Xb) (hok:Xcj l):Xhx l=some (Xez l):=by
 have hl:=hok.len
 have h:=Ym8 (τ:=List Int) l (f:=fun s=>Xdt.B l (l.length:Int) (List.replicate 20 0) s.1 s.2) (fun k w=>((k:Int),w)) (fun _ x w=>.inl (Xgm x 0 x.2.2.2.1 w)) id (fun k w=>w.length=20)
  (fun k hk w hw=>by
   have h2:=hok.blk _ (jE hk)
   simp only[Xdt.B,Yw1 hk,Ywy hk,Ywg,toNat_cast,getD_lt _ hk,jA,Xse l _ _ _ _ h2.1 h2.2 w hw,Ywd (by omega:k<4294967296),sel]) (fun k hk w w' hw e=>by cases e;rw[Xgs];exact hw) (fun w hw=>by
   simp only[Xdt.B,Yww (jB _),Ywf,id]) (List.replicate 20 0) (by simp) (s:=(0,List.replicate 20 0)) rfl
 rw[Xhm] at h;have h':Xdt l (l.length:Int) (List.replicate 20 0) (0,List.replicate 20 0)=some (Xez l):=h;simp only[Xhx,h',jA]
def Xbt (f:Fs_):Bool:=(List.range 20).any fun i=>((f.2.1.getD i []).length:Int) != (Xez f.1).getD i 0
theorem Xsg (f:Fs_) (h:X5 f):Xgc f=some (!Xbt f):=by
 have hok:=Xcj.of h.inod;have hl:=hok.len;have hd:=h.dat
 have h1:=Ym8 (τ:=List Int) f.1 (f:=fun s=>Xjh.B f s.1 s.2) (fun k w=>((k:Int),w)) (fun _ x w=>.inl (Xgm x 0 x.2.2.2.1 w)) id (fun k w=>w.length=20)
  (fun k hk w hw=>by
   have h2:=hok.blk _ (jE hk)
   simp only[Xjh.B,Yw1 hk,Ywy hk,Ywg,toNat_cast,getD_lt _ hk,jA,Xsd f _ _ h2.1 h2.2 w hw,Ywd (by omega:k<4294967296),sel]) (fun k hk w w' hw e=>by cases e;rw[Xgs];exact hw) (fun w hw=>by
   simp only[Xjh.B,Yww (jB _),Ywf,id]) (List.replicate 20 0) (by simp) (s:=(0,List.replicate 20 0)) rfl
 rw[Xhm] at h1;have h1':Xjh f (0,List.replicate 20 0)=some (Xez f.1):=h1;have hwl:=Xom f.1
 have h2:Xk2 f (Xez f.1) 0=_:=Xjt f.2.1 [] (fun i b=>(b.length:Int) != (Xez f.1).getD i 0) false (fun i hi=>by
  simp only[Xk2.B,Yw1 hi,Ywy hi,Ywy (by omega:i<(Xez f.1).length),Ywg,toNat_cast,getD_lt _ hi,jA,Ywd (by omega:i<4294967296)]) (by
  simp only[Xk2.B,Yww (jB _),Ywf])
 simp only[Xgc];rw[show(decide ((0:Int)≤(20:Int))&&(decide ((20:Int)≤(20:Int))&&decide ((20:Int)≤2147483648)))=true from rfl,show(20:Int).toNat=20 from rfl];simp only[Ywg,h1',jA,h2,Xbt,hd]
 cases (List.range 20).any fun i=>((f.2.1.getD i []).length:Int) != (Xez f.1).getD i 0<;>rfl
theorem Xsh (f:Fs_) (h:X5 f):Xdu f=some (cond (Xbt f) 1 0):=by
 have hok:=Xcj.of h.inod;have hd:=h.dat
 have h2:Xf6 f (Xez f.1) 0=_:=Yv2 (List.range 20) (fun i=>((f.2.1.getD i []).length:Int) != (Xez f.1).getD i 0) (1:Int) (fun i hi=>by
  have hi':i<20:=by simpa using hi
  simp only[Xf6.B,show decide ((i:Int)<20)=true by simp;omega,Ywy hi',Ywy (by omega:i<f.2.1.length),Ywg,toNat_cast,Xaa,jA,Ywd (by omega:i<4294967296),kA]) (by
  rw[kJ];rfl)
 simp only[Xdu,Xsf f.1 hok,jA,h2,Xbt]
 cases (List.range 20).any fun i=>((f.2.1.getD i []).length:Int) != (Xez f.1).getD i 0<;>rfl
noncomputable def fsF (f:Fs_):Int:=cond (Xci f != 0) (Xci f) (cond (Xbr f.1) 1 (cond (Xbt f) 1 0))
theorem Xos (f:Fs_) (hb:Bd Xh f):Xhf f=some (fsF f):=by
 simp only[Xhf,fsF,Xp7 f hb,jA]
 cases h:(Xci f != 0) with
 |true=>simp only[Ywg]
 |false=>
  have ht:=X5.of (by simpa using h:Xci f=0)
  simp only[Ywf,Xsa f ht,Xsg f ht,jA,Bool.not_not,Yvj]
theorem Xsi (f:Fs_) (hb:Bd Xh f):Xhy f=some (fsF f):=by
 simp only[Xhy,fsF,Xr5 f hb,jA]
 cases h:(Xci f != 0) with
 |true=>simp only[Ywg]
 |false=>
  have ht:=X5.of (by simpa using h:Xci f=0)
  simp only[Ywf,Xsb f ht,Xsh f ht,jA]
  cases Xbr f.1<;>cases Xbt f<;>rfl
structure Xoo (f:Fs_):Prop where
 tree:X5 f
 lnk:Xbr f.1=false
 siz:Xbt f=false
theorem Xoo.of {f:Fs_} (h:fsF f=0):Xoo f:=by
 unfold fsF at h
 cases h0:(Xci f != 0) with
 |true=>rw[h0] at h;exact absurd h (by simpa using h0)
 |false=>
  rw[h0] at h
  cases h1:Xbr f.1 with
  |true=>rw[h1] at h;cases h
  |false=>
   rw[h1] at h
   cases h2:Xbt f with
   |true=>rw[h2] at h;cases h
   |false=>exact⟨X5.of (by simpa using h0),h1,h2⟩
def Xke (busy:List Int):Int:=cond (decide ((busy.length:Int)>20)) 2 (cond (busy.any fun b=>!inR b 0 19) 3 0)
theorem Xot (busy:List Int):Xe0 busy=some (Xke busy):=by
 simp only[Xe0,Xke]
 cases hd:decide ((busy.length:Int)>20) with
 |true=>rfl
 |false=>
  have hl:busy.length≤20:=by simp at hd;omega
  have h:Xk3 busy 0=_:=Yv2 busy (fun b=>!inR b 0 19) (3:Int) (fun i hi=>by
   simp only[Xk3.B,Yw1 hi,Ywy hi,Ywg,toNat_cast,getD_lt _ hi,Xeq,jA,Ywd (by omega:i<4294967296)]) (by
   simp only[Xk3.B,Yww (jB _),Ywf])
  rw[h]
  cases busy.any fun b=>!inR b 0 19<;>rfl
theorem Xsj (code:Int) (busy:List Int):Xg5 code busy=some (cond (code != 0) code (Xke busy)):=by
 simp only[Xg5,Xke]
 cases (code != 0) with
 |true=>rfl
 |false=>
  cases hd:decide ((busy.length:Int)>20) with
  |true=>rfl
  |false=>
   have hl:busy.length≤20:=by simp at hd;omega
   have h:Xfm busy () (busy.length:Int) 0=_:=Yv3 busy (fun b=>!inR b 0 19) (fun i hi=>by
    simp only[Xfm.B,Yw1 hi,Ywy hi,Ywg,toNat_cast,getD_lt _ hi,Xj7,Xgb,jA,Ywd (by omega:i<4294967296)]) (by
    simp only[Xfm.B,Yww (jB _),Ywf]) 0 (kE _)
   have h1:Xh0 busy ()=some (busy.any fun b=>!inR b 0 19):=by
    simp only[Xh0,Xfn];rw[Xbj _ _ h,List.drop_zero]
   simp only[Ywf,h1,jA,Yvj]
theorem Xl2 {busy:List Int} (h:Xke busy=0):busy.length≤20:=by
 unfold Xke at h
 cases hd:decide ((busy.length:Int)>20) with
 |true=>rw[hd] at h;cases h
 |false=>simp at hd;omega
theorem Xo4 {f:Int×List Int→Option ((Int×List Int)⊕List Int)} (p:Int→Bool)
  (hs:∀ (k:Nat) (h:k<20) (t:List Int),t.length≤k→f ((k:Int),t)=cond (p (k:Int)) (some (.inl (((k+1:Nat):Int),t++[(k:Int)]))) (some (.inl (((k+1:Nat):Int),t)))) (he:∀ t,f (20,t)=some (.inr t)) :
  Yan f (0,[])=some (r20.filter p):=by
 have h:=Ym8 (τ:=List Int) r20 (f:=f) (fun i t=>((i:Int),t)) (fun _ b t=>.inl (cond (p b) (t++[b]) t)) id (fun i t=>t.length≤i)
  (fun i hi t ht=>by
   have hi':i<20:=by rw[Xlb] at hi;exact hi
   rw[hs i hi' t ht,Xn9 i hi];cases p (i:Int)<;>rfl) (fun i hi t t' ht e=>by cases e;cases p r20[i]<;>simp<;>omega) (fun t ht=>by rw[Xlb];exact he t) [] (by simp) (s:=(0,[])) rfl
 rw[h]
 congr 1
 have:∀ (m:List Int) (n:Nat) (t:List Int),Yb0 (fun _ b t=>.inl (cond (p b) (t++[b]) t)) id n m t=t++m.filter p:=by
  intro m
  induction m with
  |nil=>intro n t;simp[Yb0]
  |cons x m ih=>intro n t;simp only[Yb0,Ywn];rw[ih,List.filter_cons];cases p x<;>simp
 rw[this,jO]
def Xcd (l:List Xb) (busy:List Int):List Int:=r20.filter fun b=>!(Xak l).contains b&&!busy.contains b
theorem Xsk (l:List Xb) (busy:List Int) (hok:Xcj l) (hb:busy.length≤20):Xda l busy=some (Xcd l busy):=by
 have h:Xe8 l busy (0,[])=some (Xcd l busy):=Xo4 (f:=fun s=>Xe8.B l busy s.1 s.2) _ (fun k hk t ht=>by
  simp only[Xe8.B,show decide ((k:Int)<20)=true by simp;omega,Ywg,Xp5 l hok,Xp3 busy (k:Int) (by omega),jA,Ywd (by omega:k<4294967296)]
  rw[Xlx (by simp;omega)]
  have e:((((Xak l).count (k:Int):Nat):Int) == 0) = !(Xak l).contains (k:Int):=by
   rw[Bool.eq_iff_iff];simp only[beq_iff_eq,Bool.not_eq_true',←Bool.not_eq_true,List.contains_iff_mem,←List.count_pos_iff];omega
  rw[e]
  cases (Xak l).contains (k:Int)<;>cases busy.contains (k:Int)<;>rfl) (fun t=>rfl)
 simp only[Xda,h,jA]
theorem Xsl (l:List Xb) (busy:List Int) (hok:Xcj l) (hb:busy.length≤20):Xd3 l busy=some (Xcd l busy):=by
 have hsl:(Xc8 (Xak l)).length≤40:=by rw[Xjv];exact hok.all.1
 have h:Xfs busy (Xc8 (Xak l)) (Xgi l) () (0,[])=some (Xcd l busy):=Xo4 (f:=fun s=>Xfs.B busy (Xc8 (Xak l)) (Xgi l) () s.1 s.2) _ (fun k hk t ht=>by
  simp only[Xfs.B,show decide ((k:Int)<20)=true by simp;omega,Ywg,Xmv _ (k:Int) (by omega:(Xc8 (Xak l)).length≤2147483648),Xmv busy (k:Int) (by omega),jA,Ywd (by omega:k<4294967296)]
  rw[Xlx (by simp;omega)]
  have e:(Xc8 (Xak l)).contains (k:Int)=(Xak l).contains (k:Int):=by
   rw[Bool.eq_iff_iff,List.contains_iff_mem,List.contains_iff_mem,(Xhk _).mem_iff]
  rw[e]
  cases (Xak l).contains (k:Int)<;>cases busy.contains (k:Int)<;>rfl) (fun t=>rfl)
 simp only[Xd3,Xp6 l hok,jA,h]
theorem Xgt (k:IntKind):∀ xs:List Int,(xs.map (wt (.int k))).sum=xs.length
 |[]=>rfl
 |x::xs=>by rw[jS,List.sum_cons,Xgt k xs,Yvd,jH];omega
structure X9 (x:Xb):Prop where
 blk:x.2.2.2.1.length≤4
 ent:x.2.2.2.2.1.length≤6
 nam:∀ e∈x.2.2.2.2.1,e.1.length≤4
theorem X9.of {x:Xb} (h:Xbi x=0):X9 x:=
 ⟨(Xbq h).1,(X8 h).2.1,fun e he=>(Xgg ((X8 h).2.2.2.2.2 e he).1).2.1⟩
theorem Xqq {α β:Type}:∀ (l:List α) (a:List α) (b:β),l.foldl (fun(t:List α×β) x=>(t.1++[x],t.2)) (a,b)=(a++l,b)
 |[],a,b=>by simp
 |x::l,a,b=>by rw[kI,Xqq l];simp
theorem Xqr {α β γ:Type}:∀ (l:List α) (a:β) (b:List α) (c:γ),l.foldl (fun(t:β×List α×γ) x=>(t.1,t.2.1++[x],t.2.2)) (a,b,c)=(a,b++l,c)
 |[],a,b,c=>by simp
 |x::l,a,b,c=>by rw[kI,Xqr l];simp
structure FsB (f:Fs_):Prop where
 l:f.1.length≤10
 s:∀ x∈f.1,X9 x
 d:f.2.1.length=20
 dl:∀ b∈f.2.1,b.length≤64
theorem FsB.wt {f:Fs_} (h:FsB f):wt Xh f≤100000:=by
 have e1:∀ w:List Int,(w.map (Mf.wt (.int .i64))).sum=w.length:=fun w=>Xgt .i64 w;have e2:∀ w:List Int,(w.map (Mf.wt (.int .u8))).sum=w.length:=fun w=>Xgt .u8 w
 have h1:=Yt2 (Mf.wt Xd) 100 (xs:=f.1) (fun x hx=>by
  have hs:=h.s x hx;have hb:=hs.blk;have he:=hs.ent
  have h2:=Yt2 (Mf.wt Xi) 6 (xs:=x.2.2.2.2.1) (fun e hee=>by
   have:=hs.nam e hee
   simp only[Ymj,Yo3,Yvd,Yt7];omega)
  have e:Mf.wt Xd x=1+(1+(1+((x.2.2.2.1.map (Mf.wt (.int .i64))).sum+1+((x.2.2.2.2.1.map (Mf.wt Xi)).sum+1+0)))):=rfl;rw[e,e1]
  omega)
 have h2:=Yt2 (Mf.wt (.sl (.int .u8))) 65 (xs:=f.2.1) (fun b hb=>by
  have:=h.dl b hb
  rw[Ysv,e2];omega)
 have hl:=h.l;have hd:=h.d;rw[Ymj,Ymj,Yt7,Ysv,Ysv];rw[hd] at h2;have:f.1.length*100≤10*100:=jR _ hl;omega
theorem Xsm {x:Xb} (h:X9 x):Xmj x=some x:=by
 have h1:=h.blk;have h2:=h.ent;simp only[Xmj,Xmy,jO]
 rw[jZ (by omega:x.2.2.2.1.length≤2147483648)]
 simp only[Ywg,jA]
 rw[jZ (by omega:x.2.2.2.2.1.length≤2147483648)]
 rfl
theorem Xcb {f:Fs_} (h:FsB f):Xar f=some f:=by
 obtain⟨bs,ps,⟨⟩⟩:=f;have hl1:bs.length≤10:=h.l;have hl2:ps.length=20:=h.d
 have h0:Xjk (bs,ps,()) ([],[],()) (0,([],[],()))=some (bs.foldl (fun(t:Fs_) x=>(t.1++[x],t.2)) ([],[],())):=
  Yon bs (f:=fun s=>Xjk.B (bs,ps,()) ([],[],()) s.1 s.2) _ (fun t=>t) (fun i t=>t.1.length≤i) (fun i hi t ht=>by
   have hw:=Xsm (h.s _ (jE hi))
   constructor
   ·simp only[Xjk.B,Yw1 hi,Ywy hi,Ywg,toNat_cast,getD_lt _ hi,hw,jA,Ywd (by omega:i<4294967296)]
    rw[show decide ((t.1++[(bs[i].1,bs[i].2.1,bs[i].2.2.1,bs[i].2.2.2.1,bs[i].2.2.2.2.1,bs[i].2.2.2.2.2)]).length≤2147483648)=true by simp;omega];rfl
   ·simp;omega) (fun t ht=>by simp only[Xjk.B,Yww (jB _),Ywf]) _ (jB _)
 have h1:Xjl (bs,ps,()) ([],[],()) (0,(bs,[],()))=some (ps.foldl (fun(t:Fs_) x=>(t.1,t.2.1++[x],t.2.2)) (bs,[],())):=
  Yon ps (f:=fun s=>Xjl.B (bs,ps,()) ([],[],()) s.1 s.2) _ (fun t=>t) (fun i t=>t.2.1.length≤i) (fun i hi t ht=>by
   have hw:ps[i].length≤64:=h.dl _ (jE hi)
   constructor
   ·simp only[Xjl.B,Yw1 hi,Ywy hi,Ywg,toNat_cast,getD_lt _ hi,jO,jZ (show ps[i].length≤2147483648 by omega),jA,Ywd (by omega:i<4294967296)]
    rw[show decide ((t.2.1++[ps[i]]).length≤2147483648)=true by simp;omega];rfl
   ·simp;omega) (fun t ht=>by simp only[Xjl.B,Yww (jB _),Ywf]) _ (jB _)
 rw[Xqq] at h0;rw[Xqr] at h1;simp only[jO] at h0 h1;simp only[Xar,h0,jA,h1]
def Xai (c:UInt8):List UInt8→List UInt8→List (List UInt8)
 |acc,[]=>[acc]
 |acc,b::l=>match b == c with
  |true=>acc::Xai c [] l
  |false=>Xai c (acc++[b]) l
theorem Xo2 (c:UInt8):∀ (l acc:List UInt8),(Xai c acc l).length=l.count c+1:=by
 intro l
 induction l with
 |nil=>intro acc;rfl
 |cons b l ih=>
  intro acc;simp only[Xai]
  cases h:b == c with
  |true=>simp only[jH,ih,List.count_cons,h,if_true]
  |false=>simp[ih,List.count_cons,h]
theorem Xm1 (c:UInt8):∀ (m l acc:List UInt8),(∀ x∈m,(x == c)=false)→Xai c acc (m++l)=Xai c (acc++m) l:=by
 intro m
 induction m with
 |nil=>intro l acc h;simp
 |cons b m ih=>
  intro l acc h;simp only[jQ,Xai,h b (jF),ih _ _ (fun x hx=>h x (jG _ hx)),kO,jO]
theorem Xn4 (c:UInt8) (l acc:List UInt8):Xai c acc (c::l)=acc::Xai c [] l:=by simp[Xai]
theorem Xiw (c:UInt8):∀ (l:List UInt8),(Go.Lib.indexByte l c = -1∧l.count c=0∧∀ x∈l,(x == c)=false)∨
  ∃ k:Nat,Go.Lib.indexByte l c=k∧k<l.length∧(∀ x∈l.take k,(x == c)=false)∧l=l.take k++c::l.drop (k+1)∧l.count c=(l.drop (k+1)).count c+1:=by
 intro l
 induction l with
 |nil=>exact .inl ⟨rfl,rfl,fun x hx=>by cases hx⟩
 |cons b l ih=>
  cases h:b == c with
  |true=>
   have e:b=c:=by simpa using h
   subst e
   exact .inr ⟨0,by simp[Go.Lib.indexByte],by simp,by simp,by simp,by simp⟩
  |false=>
   rcases ih with ⟨i1,i2,i3⟩ | ⟨k,i1,i2,i3,i4,i5⟩
   ·refine .inl ⟨by simp[Go.Lib.indexByte,h,i1],by simp[List.count_cons,h,i2],fun x hx=>?_⟩
    rcases List.mem_cons.1 hx with rfl | hx
    ·exact h
    ·exact i3 x hx
   ·refine .inr ⟨k+1,?_,by simpa using i2,fun x hx=>?_,?_,?_⟩
    ·have:¬ ((k:Int) = -1):=by omega
     simp[Go.Lib.indexByte,h,i1,this]
    ·rw[List.take_succ_cons] at hx
     rcases List.mem_cons.1 hx with rfl | hx
     ·exact h
     ·exact i3 x hx
    ·rw[List.take_succ_cons,List.drop_succ_cons,jQ,←i4]
    ·rw[List.drop_succ_cons,List.count_cons,h,i5];simp
theorem Xsn (l:List UInt8) (c:UInt8) (hl:l.length≤1048576):Xlv l (c.toNat:Int)=some (Xai c [] l):=by
 have fin:∀ (fr:Int) (out:List (List UInt8)),Xhg l (c.toNat:Int) (fr,((l.length+1:Nat):Int),out)=some out:=fun fr out=>by
  refine Yas ?_;simp only[Xhg.B]
  rw[show decide (((l.length+1:Nat):Int)≤(l.length:Int))=false by simp;omega]
  rfl
 have key:∀ (m fr i:Nat) (out:List (List UInt8)),m=l.length-i→fr≤i→i≤l.length→out.length≤fr→
   Xhg l (c.toNat:Int) ((fr:Int),(i:Int),out)=some (out++Xai c ((l.take i).drop fr) (l.drop i)):=by
  intro m
  induction m with
  |zero=>
   intro fr i out hm h1 h2 h3
   have hi:i=l.length:=by omega
   subst hi;refine(Ybd (s':=(((l.length+1:Nat):Int),((l.length+1:Nat):Int),out++[(l.take l.length).drop fr])) ?_).trans ?_
   ·simp only[Xhg.B]
    rw[show decide ((l.length:Int)≤(l.length:Int))=true by simp,show((l.length:Int) == (l.length:Int))=true by simp,
     show(decide ((0:Int)≤(l.length:Int))&&true&&(decide ((0:Int)≤(fr:Int))&&decide ((fr:Int)≤(l.length:Int))))=true by simp;omega]
    simp only[Ywg,jK,Ywf,jA,toNat_cast]
    rw[show decide ((out++[(l.take l.length).drop fr]).length≤2147483648)=true by simp;omega,Ywd (by omega)]
    rfl
   ·refine(fin _ _).trans ?_;simp[Xai]
  |succ m ih=>
   intro fr i out hm h1 h2 h3
   have hlt:i<l.length:=by omega
   have hd:l.drop i=l[i]::l.drop (i+1):=kZ hlt
   have hg:((l.getD (i:Int).toNat 0).toNat:Int)=(l[i].toNat:Int):=by simp[List.getD,hlt]
   have hb:inB (i:Int) l.length=true:=Yuw (by omega) (by omega)
   have q1:decide ((i:Int)≤(l.length:Int))=true:=by simp;omega
   have q2:((i:Int) == (l.length:Int))=false:=by simp;omega
   cases hc:l[i] == c with
   |true=>
    have e:l[i]=c:=by simpa using hc
    refine(Ybd (s':=(((i+1:Nat):Int),((i+1:Nat):Int),out++[(l.take i).drop fr])) ?_).trans ?_
    ·simp only[Xhg.B]
     rw[q1,q2,hb,hg,e,show((c.toNat:Int) == (c.toNat:Int))=true by simp,
      show(decide ((0:Int)≤(i:Int))&&true&&(decide ((0:Int)≤(fr:Int))&&decide ((fr:Int)≤(i:Int))))=true by simp;omega]
     simp only[Ywg,kQ,Ywf,jA,toNat_cast]
     rw[show decide ((out++[(l.take i).drop fr]).length≤2147483648)=true by simp;omega,Ywd (by omega)]
     rfl
    ·refine(ih (i+1) (i+1) _ (by omega) (jB _) (by omega) (by simp;omega)).trans ?_
     rw[hd,e,Xn4]
     simp
   |false=>
    have ne:¬ l[i].toNat=c.toNat:=fun e=>by
     have:l[i]=c:=UInt8.toNat_inj.1 e;simp[this] at hc
    refine(Ybd (s':=((fr:Int),((i+1:Nat):Int),out)) ?_).trans ?_
    ·simp only[Xhg.B]
     rw[q1,q2,hb,hg,show((l[i].toNat:Int) == (c.toNat:Int))=false by simp;omega]
     simp only[Ywg,kQ,Ywf,jA,toNat_cast]
     rw[Ywd (by omega)]
    ·refine(ih fr (i+1) _ (by omega) (by omega) (by omega) h3).trans ?_
     rw[hd];simp only[Xai,hc]
     congr 2
     rw[List.take_succ_eq_append_getElem hlt,List.drop_append_of_le_length (by simp;omega)]
 simp only[Xlv]
 rw[show((0:Int),(0:Int),([]:List (List UInt8)))=(((0:Nat):Int),((0:Nat):Int),[]) from rfl,key l.length 0 0 [] (by omega) (jB _) (kE _) (jB _)]
 rfl
theorem Xso (l:List UInt8) (c:UInt8):Xh3 l [c]=some (Go.Lib.indexByte l c):=by
 have h1:Xn l ((([c]:List UInt8).getD (0:Int).toNat 0).toNat:Int)=some (Go.Lib.indexByte l c):=by
  show some (Go.Lib.indexByte l (c.toNat:Int).toNat.toUInt8)=_
  congr 2
  simp
 simp only[Xh3,Xp,jA]
 cases h:([c]:List UInt8) == l with
 |true=>
  have e:[c]=l:=by simpa using h
  subst e
  simp[Go.Lib.indexByte]
 |false=>
  rw[h1];simp[inB]
theorem Xsp (l:List UInt8) (c:UInt8) (hl:l.length≤1048576):Xh4 l [c]=some (Xai c [] l):=by
 have hcl:l.count c≤l.length:=List.count_le_length
 have key:∀ (m:Nat) (s:List UInt8) (i:Nat) (dn:List (List UInt8)),m=s.count c→i+m=l.count c→dn.length=i→dn++Xai c [] s=Xai c [] l→s.length≤l.length→
   ∃ s' dn',Xdy [c] 0 (l.count c:Int) (s,(i:Int),dn++List.replicate (m+1) [])=some (s',(l.count c:Int),dn'++[([]:List UInt8)])∧dn'.length=l.count c∧dn'++[s']=Xai c [] l:=by
  intro m
  induction m with
  |zero=>
   intro s i dn hm hi hd hc hs
   refine⟨s,dn,Yas ?_,by omega,?_⟩
   ·simp only[Xdy.B]
    rw[show decide ((i:Int)<(l.count c:Int))=false by simp;omega]
    have:(i:Int)=(l.count c:Int):=by omega
    simp[this]
   ·rw[←hc]
    rcases Xiw c s with ⟨_,_,q⟩ | ⟨k,_,_,_,_,q⟩
    ·have:=Xm1 c s [] [] q
     simp only[qC,jO] at this;rw[this];rfl
    ·omega
  |succ m ih=>
   intro s i dn hm hi hd hc hs;rcases Xiw c s with ⟨_,q,_⟩ | ⟨k,k1,k2,k3,k4,k5⟩
   ·omega
   ·obtain⟨s',dn',r1,r2,r3⟩:=ih (s.drop (k+1)) (i+1) (dn++[s.take k]) (by omega) (by omega) (by simp;omega)
     (by
      rw[←hc,kO]
      congr 1
      conv=>rhs;rw[k4]
      rw[Xm1 c _ _ _ k3,Xn4]
      simp) (by simp;omega)
    refine⟨s',dn',(Ybd ?_).trans r1,r2,r3⟩;have hcl2:=hcl;simp only[Xdy.B,Xso,jA,k1]
    have e0:w64 ((k:Int)+0)=(k:Int):=Yss (by omega) (by omega)
    have e1:w64 ((k:Int)+(([c]:List UInt8).length:Int))=((k+1:Nat):Int):=by
     rw[show((k:Int)+(([c]:List UInt8).length:Int))=((k+1:Nat):Int) by simp]
     exact Yss (by omega) (by omega)
    rw[show decide ((i:Int)<(l.count c:Int))=true by simp;omega,show decide ((k:Int)<0)=false by simp,e0,e1,
     show(decide ((0:Int)≤(k:Int))&&decide ((k:Int)≤(s.length:Int)))=true by simp;omega,
     show inB (i:Int) (dn++List.replicate (m+1+1) ([]:List UInt8)).length=true from Yuw (by omega) (by simp;omega),
     show(decide ((0:Int)≤((k+1:Nat):Int))&&decide (((k+1:Nat):Int)≤(s.length:Int)))=true by simp;omega,
     Ywd (by omega)]
    simp only[Ywg,Ywf,jA,toNat_cast,List.drop_zero,List.take_length]
    have e2:(dn++List.replicate (m+1+1) ([]:List UInt8)).set i (s.take k)=(dn++[s.take k])++List.replicate (m+1) []:=by
     rw[List.set_append,jM (by omega),hd,Nat.sub_self,List.replicate_succ]
     simp
    rw[e2]
 obtain⟨s',dn',r1,r2,r3⟩:=key (l.count c) l 0 [] rfl (by omega) rfl rfl (jB _)
 have hv:(cond (decide (w64 ((l.length:Int)+1)<w64 ((l.count c:Int)+1))) (w64 ((l.length:Int)+1)) (w64 ((l.count c:Int)+1)))=((l.count c+1:Nat):Int):=by
  rw[show((l.length:Int)+1)=((l.length+1:Nat):Int) by simp,show((l.count c:Int)+1)=((l.count c+1:Nat):Int) by simp,Yss (x:=((l.length+1:Nat):Int)) (by omega) (by omega),Yss (x:=((l.count c+1:Nat):Int)) (by omega) (by omega)]
  rw[show decide (((l.length+1:Nat):Int)<((l.count c+1:Nat):Int))=false by simp;omega]
  rfl
 simp only[Xh4,Xfo,Xld,countP,jA]
 rw[hv,show w64 (((l.count c+1:Nat):Int)-1)=(l.count c:Int) by rw[Yss (by omega) (by omega)];omega]
 rw[show((-1:Int) == 0)=false by rfl,show(([c]:List UInt8) == [])=false by rfl,show decide ((-1:Int)<0)=true by rfl,
  show(decide ((0:Int)≤((l.count c+1:Nat):Int))&&(decide (((l.count c+1:Nat):Int)≤((l.count c+1:Nat):Int))&&decide (((l.count c+1:Nat):Int)≤2147483648)))=true by simp;omega]
 simp only[Ywg,Ywf,toNat_cast];simp only[jO] at r1;rw[show((0:Int))=((0:Nat):Int) from rfl] at *;rw[r1];simp only[jA,toNat_cast]
 rw[show inB (l.count c:Int) (dn'++[([]:List UInt8)]).length=true from Yuw (by omega) (by simp;omega),Ywd (by omega)]
 have e2:(dn'++[([]:List UInt8)]).set (l.count c) s'=Xai c [] l:=by
  rw[List.set_append,jM (by omega),r2,Nat.sub_self,←r3];rfl
 have e3:(Xai c [] l).length=l.count c+1:=Xo2 c l []
 rw[e2,e3,show(decide (((0:Nat):Int)≤((l.count c+1:Nat):Int))&&decide (((l.count c+1:Nat):Int)≤((l.count c+1:Nat):Int)))=true by simp;omega]
 simp only[Ywg,jA,toNat_cast,List.drop_zero,Nat.sub_zero];rw[←e3,List.take_length]
def Xc (l:List Xb) (a:Int):List Xg:=(l.getD a.toNat Xa).2.2.2.2.1
def Xti (ns:List (List UInt8)):List UInt8:=(ns.map fun n=>47::n).flatten
structure Xa0 (l:List Xb):Prop where
 len:l.length≤10
 pos:0<l.length
 six:∀ x∈l,x.2.2.2.2.1.length≤6
 fil:∀ x∈l,x.1≠2→x.2.2.2.2.1=[]
 nam:∀ x∈l,∀ e∈x.2.2.2.2.1,X6 e.1=0
 ent:∀ x∈l,∀ e∈x.2.2.2.2.1,0≤e.2.1∧e.2.1<(l.length:Int)
theorem Xa0.of {f:Fs_} (h:X5 f):Xa0 f.1 where
 len:=(Xcj.of h.inod).len
 pos:=h.pos
 six:=fun x hx=>(X8 ((Xw h.inod).2 x hx)).2.1
 fil:=fun x hx=>(X8 ((Xw h.inod).2 x hx)).2.2.1
 nam:=fun x hx e he=>((X8 ((Xw h.inod).2 x hx)).2.2.2.2.2 e he).1
 ent:=fun x hx e he=>⟨(h.ent x hx e he).1,(h.ent x hx e he).2.1⟩
theorem getD_in {l:List Xb} {a:Int} (h0:0≤a) (h1:a<(l.length:Int)):l.getD a.toNat Xa∈l:=by
 have h:a.toNat<l.length:=by omega
 rw[getD_lt _ h];exact jE h
theorem Xa0.at_ {l:List Xb} (h:Xa0 l) {a:Int} (h0:0≤a) (h1:a<(l.length:Int)) :
  (Xc l a).length≤6∧((l.getD a.toNat Xa).1≠2→Xc l a=[])∧∀ e∈Xc l a,X6 e.1=0∧0≤e.2.1∧e.2.1<(l.length:Int):=
 have hm:=getD_in h0 h1
 ⟨h.six _ hm,h.fil _ hm,fun e he=>⟨h.nam _ hm e he,(h.ent _ hm e he).1,(h.ent _ hm e he).2⟩⟩
theorem Xkh {α β:Type} (g:α→List β) (k:Nat):∀ l:List α,(∀ x∈l,(g x).length≤k)→(l.flatMap g).length≤l.length*k:=by
 intro l
 induction l with
 |nil=>intro _;simp
 |cons x l ih=>
  intro h;have h1:=h x (jF ..);have h2:=ih fun y hy=>h y (jG _ hy);simp only[List.flatMap_cons,jP,jH,jY,Nat.one_mul];omega
theorem Xl4 {α ρ:Type} (p:α→Bool) (g:α→ρ):∀ (l:List α) (i:Nat),Yb0 (τ:=Unit) (fun _ x _=>cond (p x) (.inr (.inl (g x))) (.inl ())) (fun _=>(.inr ():ρ⊕Unit)) i l ()=(match l.find? p with | some x=>.inl (g x) | none=>.inr ())
 |[],i=>rfl
 |x::l,i=>by
  simp only[Yb0,List.find?_cons]
  cases h:p x with
  |true=>rfl
  |false=>simp only[cond_false,sel];exact Xl4 p g l (i+1)
theorem Xo5 {α ρ:Type} (l:List α) {f:Int→Option (Int⊕(ρ⊕Unit))} (p:α→Bool) (g:α→ρ)
  (hs:∀ (i:Nat) (h:i<l.length),f (i:Int)=cond (p l[i]) (some (.inr (.inl (g l[i])))) (some (.inl ((i+1:Nat):Int)))) (he:f (l.length:Int)=some (.inr (.inr ()))) :
  Yan f 0=some (match l.find? p with | some x=>.inl (g x) | none=>.inr ()):=by
 have h:=Yjc (τ:=Unit) l (fun i _=>(i:Int)) (fun _ x _=>cond (p x) (.inr (.inl (g x))) (.inl ())) (fun _=>(.inr ():ρ⊕Unit)) (fun i hi t=>by rw[hs i hi];cases (p l[i])<;>rfl) (fun t=>he) () (s:=0) rfl
 rw[h,Xl4]
def Xq (es:List Xg) (n:List UInt8):Int:=match es.find? (fun e=>e.1 == n) with | some e=>e.2.1 | none=>-1
theorem Xev {α:Type} (p:α→Bool) (d:α):∀ (l:List α) (i:Nat),(match Yoh p i l with | some j=>(l.find? p=some (l.getD (j-i) d)∧i≤j∧j-i<l.length) | none=>l.find? p=none)
 |[],i=>rfl
 |x::l,i=>by
  simp only[Yoh,List.find?_cons]
  cases h:p x with
  |true=>simp
  |false=>
   simp only[cond_false];have ih:=Xev p d l (i+1)
   cases hj:Yoh p (i+1) l with
   |none=>rw[hj] at ih;exact ih
   |some j=>
    rw[hj] at ih;obtain⟨h1,h2,h3⟩:=ih
    have e:j-i=(j-(i+1))+1:=by omega
    refine⟨?_,by omega,by simp only[jH];omega⟩
    rw[h1,e];simp[List.getD]
theorem Xle (f:Fs_) (a:Int) (n:List UInt8) (h0:0≤a) (h1:a<(f.1.length:Int)) (hl:(Xc f.1 a).length≤6):Xam f a n=some (Xq (Xc f.1 a) n):=by
 have h:Xfp n (Xc f.1 a) ((Xc f.1 a).length:Int) 0=_:=Xo5 (Xc f.1 a) (fun e=>e.1 == n) (fun e=>e.2.1) (fun i hi=>by
  simp only[Xfp.B,Yw1 hi,Ywy hi,Ywg,toNat_cast,getD_lt _ hi,Ywd (by omega:i<4294967296)]) (by
  simp only[Xfp.B,Yww (jB _),Ywf])
 simp only[Xam,Yuw h0 h1,Ywg,jA];unfold Xq
 exact(congrArg (fun o=>Option.bind o fun o=>sel o (fun b=>some b) (fun c=>some (-1))) h).trans (by cases (Xc f.1 a).find? (fun e=>e.1 == n)<;>rfl)
theorem Xqb (es:List Xg) (n:List UInt8) (hl:es.length≤6):Xa8 es n=some (match Yoh (fun e=>e.1 == n) 0 es with | some j=>(j:Int) | none=>-1):=by
 have h:Xk6 es n 0=_:=Yv3 es (fun e=>e.1 == n) (fun i hi=>by
  simp only[Xk6.B,Yw1 hi,Ywy hi,Ywg,toNat_cast,getD_lt _ hi,Ywd (by omega:i<4294967296)]) (by
  simp only[Xk6.B,Yww (jB _),Ywf]) 0 (kE _)
 simp only[Xa8];rw[h,List.drop_zero]
 cases Yoh (fun e=>e.1 == n) 0 es<;>rfl
def Xay (l:List Xb):List (List UInt8)→Int→Int×Int
 |[],a=>(a,0)
 |n::ns,a=>cond ((l.getD a.toNat Xa).1 != 2) (0,9) (cond (decide (Xq (Xc l a) n<0)) (0,4) (Xay l ns (Xq (Xc l a) n)))
theorem Xbs {l:List Xb} (h:Xa0 l) {a:Int} (h0:0≤a) (h1:a<(l.length:Int)) (n:List UInt8) (hn:decide (Xq (Xc l a) n<0)=false):0≤Xq (Xc l a) n∧Xq (Xc l a) n<(l.length:Int):=by
 unfold Xq at *
 cases hf:(Xc l a).find? (fun e=>e.1 == n) with
 |none=>rw[hf] at hn;simp at hn
 |some e=>exact((h.at_ h0 h1).2.2 e (List.mem_of_find?_eq_some hf)).2
def Xhd (l:List Xb) (n:List UInt8) (a:Int):Int⊕((Int×Int)⊕Int):=cond ((l.getD a.toNat Xa).1 != 2) (.inr (.inl (0,9))) (cond (decide (Xq (Xc l a) n<0)) (.inr (.inl (0,4))) (.inl (Xq (Xc l a) n)))
theorem Xjx (l:List Xb):∀ (ns:List (List UInt8)) (i:Nat) (a:Int),sel (Yb0 (τ:=Int) (fun _ n a=>Xhd l n a) (fun a=>(.inr a:(Int×Int)⊕Int)) i ns a) (fun b=>b) (fun c=>(c,0))=Xay l ns a
 |[],i,a=>rfl
 |n::ns,i,a=>by
  simp only[Yb0,Xay,Xhd]
  cases h1:((l.getD a.toNat Xa).1 != 2) with
  |true=>rfl
  |false=>
   cases h2:decide (Xq (Xc l a) n<0) with
   |true=>rfl
   |false=>simp only[cond_false,sel];exact Xjx l ns (i+1) _
theorem Xnk {l:List Xb} (h:Xa0 l) {a t:Int} {n:List UInt8} (h0:0≤a∧a<(l.length:Int)) (e:Xhd l n a=.inl t):0≤t∧t<(l.length:Int):=by
 unfold Xhd at e
 cases h1:((l.getD a.toNat Xa).1 != 2) with
 |true=>rw[h1] at e;cases e
 |false=>
  rw[h1] at e
  cases h2:decide (Xq (Xc l a) n<0) with
  |true=>rw[h2] at e;cases e
  |false=>rw[h2] at e;cases e;exact Xbs h h0.1 h0.2 n h2
theorem Xqc (f:Fs_) (h:Xa0 f.1) (ns:List (List UInt8)) (hn:ns.length≤1048577):Xb0 f ns=some (Xay f.1 ns 0):=by
 have hp:=h.pos
 have h1:=Ym8 (τ:=Int) ns (f:=fun s=>Xd0.B f ns (ns.length:Int) s.1 s.2) (fun k a=>(a,(k:Int))) (fun _ n a=>Xhd f.1 n a) (fun a=>(.inr a:(Int×Int)⊕Int)) (fun _ a=>0≤a∧a<(f.1.length:Int))
  (fun k hk a ha=>by
   have hq:=h.at_ ha.1 ha.2
   simp only[Xd0.B,Yw1 hk,Ywy hk,Ywg,toNat_cast,getD_lt _ hk,Yuw ha.1 ha.2,Xle f a _ ha.1 ha.2 hq.1,jA,Ywd (by omega:k<4294967296),Xhd]
   cases ((f.1.getD a.toNat Xa).1 != 2)<;>cases decide (Xq (Xc f.1 a) ns[k]<0)<;>rfl)
  (fun k hk a a' ha e=>Xnk h ha e) (fun a ha=>by simp only[Xd0.B,Yww (jB _),Ywf]) 0 ⟨Int.le_refl _,by omega⟩ (s:=(0,0)) rfl
 have h1':Xd0 f ns (ns.length:Int) (0,0)=_:=h1;simp only[Xb0];rw[h1',←Xjx f.1 ns 0 0]
 cases Yb0 (τ:=Int) (fun _ n a=>Xhd f.1 n a) (fun a=>(.inr a:(Int×Int)⊕Int)) 0 ns 0<;>rfl
theorem Xqd (f:Fs_) (h:Xa0 f.1) (ns:List (List UInt8)) (hn:ns.length≤1048577):Xgy f ns=some (Xay f.1 ns 0):=by
 have hp:=h.pos
 have h1:=Ym8 (τ:=Int) ns (f:=fun s=>Xjj.B f ns s.1 s.2) (fun k a=>(a,(k:Int))) (fun _ n a=>Xhd f.1 n a) (fun a=>(.inr a:(Int×Int)⊕Int)) (fun _ a=>0≤a∧a<(f.1.length:Int))
  (fun k hk a ha=>by
   have hq:=h.at_ ha.1 ha.2;have hx:=Xev (fun e:Xg=>e.1 == ns[k]) Xk (Xc f.1 a) 0;have e8:=Xqb (Xc f.1 a) ns[k] hq.1;have en:(f.1.getD a.toNat Xa).2.2.2.2.1=Xc f.1 a:=rfl;simp only[Xjj.B,Yw1 hk,Ywy hk,Ywg,toNat_cast,getD_lt _ hk,Yuw ha.1 ha.2,en,e8,jA,Xhd,Xq]
   cases hi:Yoh (fun e:Xg=>e.1 == ns[k]) 0 (Xc f.1 a) with
   |none=>
    rw[hi] at hx;simp only[hx]
    cases ((f.1.getD a.toNat Xa).1 != 2)<;>rfl
   |some j=>
    rw[hi] at hx;obtain⟨x1,x2,x3⟩:=hx
    have hm:(Xc f.1 a).getD j Xk∈Xc f.1 a:=by rw[getD_lt _ (by omega:j<(Xc f.1 a).length)];exact jE _
    have hs:=(hq.2.2 _ hm).2.1;rw[Nat.sub_zero] at x1
    simp only[x1,show decide ((j:Int)<0)=false by simp,show decide (((Xc f.1 a).getD j Xk).2.1<0)=false from qA (by omega),Ywf,toNat_cast,Ywy (by omega:j<(Xc f.1 a).length),Ywg,jA,Ywd (by omega:k<4294967296)]
    cases ((f.1.getD a.toNat Xa).1 != 2)<;>rfl)
  (fun k hk a a' ha e=>Xnk h ha e) (fun a ha=>by simp only[Xjj.B,Yww (jB _),Ywf]) 0 ⟨Int.le_refl _,by omega⟩ (s:=(0,0)) rfl
 have h1':Xjj f ns (0,0)=_:=h1;simp only[Xgy];rw[h1',←Xjx f.1 ns 0 0]
 cases Yb0 (τ:=Int) (fun _ n a=>Xhd f.1 n a) (fun a=>(.inr a:(Int×Int)⊕Int)) 0 ns 0<;>rfl
def Xpj (p:List UInt8):Bool:=p.isEmpty || p.getD 0 0 != 47 || p.getD (p.length-1) 0 == 47
def Xr (p:List UInt8):List (List UInt8)×Int:=
 cond (decide ((p.length:Int)>30)) ([],2) (cond (p == [47]) ([],0) (cond (Xpj p) ([],5) (cond (decide (((Xai 47 [] (p.drop 1)).length:Int)>6)) ([],2) (cond (Yg2 X6 (Xai 47 [] (p.drop 1)) != 0) ([],Yg2 X6 (Xai 47 [] (p.drop 1))) (Xai 47 [] (p.drop 1),0)))))
theorem Xgq:∀ (s acc:List UInt8),(Xai 47 acc s).length≤s.length+1∧∀ n∈Xai 47 acc s,n.length≤acc.length+s.length
 |[],acc=>by simp[Xai]
 |x::s,acc=>by
  simp only[Xai]
  cases x == 47 with
  |true=>
   have h:=Xgq s [];simp only[cond_true,jH,List.mem_cons]
   refine⟨by omega,fun n hn=>?_⟩
   rcases hn with rfl | hn
   ·omega
   ·have:=h.2 n hn;simp only[kD] at this;omega
  |false=>
   have h:=Xgq s (acc++[x]);simp only[cond_false,jH,jP,kD] at h ⊢
   refine⟨by omega,fun n hn=>?_⟩
   have:=h.2 n hn;omega
theorem Xob (x:UInt8):((x.toNat:Int) == 47)=(x == 47):=by
 rw[Bool.eq_iff_iff];simp only[beq_iff_eq]
 constructor
 ·intro h
  have:x.toNat=47:=by omega
  exact UInt8.toNat_inj.1 this
 ·rintro rfl;rfl
theorem Xsq (ns:List (List UInt8)) (hn:ns.length≤1048576) (hl:∀ n∈ns,n.length≤2147483648):Xji ns=some (cond (decide ((ns.length:Int)>6)) 2 (Yg2 X6 ns)):=by
 have h:Xk4 ns 0=_:=Yu0 ns X6 (fun i hi=>by
  simp only[Xk4.B,Yw1 hi,Ywy hi,Ywg,toNat_cast,getD_lt _ hi,Xp1 _ (hl _ (jE hi)),jA,Ywd (by omega:i<4294967296)]) (by
  simp only[Xk4.B,Yww (jB _),Ywf])
 simp only[Xji];rw[h,Xex,Xcc]
 cases decide ((ns.length:Int)>6)<;>rfl
theorem Xqe (p:List UInt8):∃ ns,Xk5 p=some (ns,(Xr p).2)∧((Xr p).2=0→ns=(Xr p).1):=by
 unfold Xr Xk5
 cases h30:decide ((p.length:Int)>30) with
 |true=>exact⟨_,rfl,fun h=>by cases h⟩
 |false=>
  have hl:p.length≤30:=by simp at h30;omega
  simp only[Ywf]
  cases h1:p == ([47]:List UInt8) with
  |true=>exact⟨_,rfl,fun _=>rfl⟩
  |false=>
   simp only[Ywf]
   cases p with
   |nil=>exact⟨_,rfl,fun h=>by cases h⟩
   |cons x t=>
    have hc:=Xgq t []
    have hlt:t.length≤29:=by simp at hl;omega
    have hcut:=Xsn t 47 (by omega)
    have hnames:=Xsq (Xai 47 [] t) (by omega) (fun n hn=>by have:=hc.2 n hn;simp at this;omega)
    have e0:(((t.length+1:Nat):Int) == 0)=false:=by rw[beq_eq_false_iff_ne];omega
    have e1:w64 (((t.length+1:Nat):Int)-1)=(t.length:Int):=by rw[Yss (by omega) (by omega)];omega
    have e2:inB 0 (t.length+1)=true:=by simp[inB]
    have e3:inB (t.length:Int) (t.length+1)=true:=by simp[inB];omega
    have e4:((x::t).getD (0:Int).toNat 0)=x:=rfl;have e5:(x::t).getD 0 0=x:=rfl
    have e6:(decide ((0:Int)≤1)&&decide ((1:Int)≤((t.length+1:Nat):Int)))=true:=by simp;omega
    have e7:((x::t).take (t.length+1)).drop (1:Int).toNat=t:=by simp
    have ex:(((x.toNat:Nat):Int) != 47)=(x != 47):=congrArg Bool.not (Xob x);have hcut':Xlv t 47=some (Xai 47 [] t):=hcut;simp only[jH,e0,e1,e2,e3,e4,e5,e6,e7,ex,Xob,kQ,Ywg,Ywf,jA,toNat_cast,Xpj,List.isEmpty_cons,Bool.false_or,Nat.add_sub_cancel,Yvg,List.drop_succ_cons,List.drop_zero,hcut',hnames]
    cases x != 47 with
    |true=>exact⟨_,rfl,fun h=>by cases h⟩
    |false=>
     simp only[kQ,Ywg,Ywf,Bool.false_or,e3]
     cases (x::t).getD t.length 0 == 47 with
     |true=>exact⟨_,rfl,fun h=>by cases h⟩
     |false=>
      simp only[Ywf]
      cases decide (((Xai 47 [] t).length:Int)>6) with
      |true=>exact⟨_,rfl,fun h=>by cases h⟩
      |false=>
       simp only[Ywf]
       cases h5:Yg2 X6 (Xai 47 [] t) != 0 with
       |true=>exact⟨_,rfl,fun h=>absurd h (by simpa using h5)⟩
       |false=>exact⟨_,rfl,fun _=>rfl⟩
theorem Xok (p:List UInt8):Xh1 p [47]=some (!p.isEmpty&&p.getD 0 0 == 47):=by
 cases p with
 |nil=>rfl
 |cons x t=>
  have e1:decide (((x::t).length:Int)≥(([47]:List UInt8).length:Int))=true:=by simp;omega
  have e2:(decide ((0:Int)≤(([47]:List UInt8).length:Int))&&decide ((([47]:List UInt8).length:Int)≤((x::t).length:Int)))=true:=by simp;omega
  simp only[Xh1,Xl,jA,e1,e2,Ywg];simp
theorem Xol (p:List UInt8) (hl:p.length≤30):Xh2 p [47]=some (!p.isEmpty&&p.getD (p.length-1) 0 == 47):=by
 cases p with
 |nil=>rfl
 |cons x t=>
  have e1:decide (((x::t).length:Int)≥(([47]:List UInt8).length:Int))=true:=by simp;omega
  have e0:w64 (((x::t).length:Int)-(([47]:List UInt8).length:Int))=(t.length:Int):=by
   simp only[jH,kD] at hl ⊢
   rw[Yss (by omega) (by omega)];omega
  have e2:(decide ((0:Int)≤(t.length:Int))&&decide ((t.length:Int)≤((x::t).length:Int)))=true:=by simp;omega
  have e3:(x::t).drop t.length=[(x::t).getD t.length 0]:=by
   rw[kZ (by simp),List.drop_eq_nil_of_le (by simp)]
   simp[List.getD]
  simp only[Xh2,Xm,jA];rw[e1];simp only[Ywg];rw[e0,e2];simp only[Ywg,toNat_cast,List.take_length,e3,jA,List.isEmpty_cons,kQ,Bool.true_and,jH,Nat.add_sub_cancel]
  rw[show(x::t).take (t.length+1)=x::t from List.take_of_length_le (by simp),e3]
  simp
theorem Xqf (p:List UInt8):Xbz p=some (Xr p):=by
 unfold Xr Xbz
 cases h30:decide ((p.length:Int)>30) with
 |true=>rfl
 |false=>
  have hl:p.length≤30:=by simp at h30;omega
  simp only[Ywf]
  cases h1:p == ([47]:List UInt8) with
  |true=>rfl
  |false=>
   simp only[Ywf,Xok,Xol p hl,jA]
   cases p with
   |nil=>rfl
   |cons x t=>
    have hc:=Xgq t []
    have hlt:t.length≤29:=by simp at hl;omega
    have hsp:=Xsp t 47 (by omega)
    have e6:(decide ((0:Int)≤1)&&decide ((1:Int)≤((t.length+1:Nat):Int)))=true:=by simp;omega
    have e7:((x::t).take (t.length+1)).drop (1:Int).toNat=t:=by simp
    have hloop:Xdz ((Xai 47 [] t).length:Int) (Xai 47 [] t) 0=some (Yb0 (τ:=Unit) (fun _ n _=>cond (X6 n != 0) (.inr (.inl (X6 n,[]))) (.inl ())) (fun _=>(.inr ():(Int×List (List UInt8))⊕Unit)) 0 (Xai 47 [] t) ()):=
     Yjc (τ:=Unit) (Xai 47 [] t) (f:=fun s=>Xdz.B ((Xai 47 [] t).length:Int) (Xai 47 [] t) s) (fun i _=>(i:Int)) (fun _ x _=>cond (X6 x != 0) (.inr (.inl (X6 x,[]))) (.inl ())) (fun _=>(.inr ():(Int×List (List UInt8))⊕Unit)) (fun i hi t'=>by
      have h4:=hc.2 _ (jE hi);simp only[kD] at h4
      simp only[Xdz.B,Yw1 hi,Ywy hi,Ywg,toNat_cast,getD_lt _ hi,Xp2 _ (by omega:((Xai 47 [] t)[i]).length≤2147483648),jA,Ywd (by omega:i<4294967296)]
      cases (X6 (Xai 47 [] t)[i] != 0)<;>rfl) (fun t'=>by simp only[Xdz.B,Yww (jB _),Ywf]) () (s:=0) rfl
    have hfold:∀ (l:List (List UInt8)) (i:Nat),Yb0 (τ:=Unit) (fun _ n _=>cond (X6 n != 0) (.inr (.inl (X6 n,[]))) (.inl ())) (fun _=>(.inr ():(Int×List (List UInt8))⊕Unit)) i l ()=cond (Yg2 X6 l != 0) (.inl (Yg2 X6 l,[])) (.inr ()):=by
     intro l
     induction l with
     |nil=>intro i;rfl
     |cons n l ih=>
      intro i;simp only[Yb0,Yg2]
      cases h:X6 n != 0 with
      |true=>simp[sel,h]
      |false=>simp only[Ywf,sel];exact ih (i+1)
    simp only[jH,Xpj,List.isEmpty_cons,kQ,Bool.true_and,Bool.false_or,Nat.add_sub_cancel,e6,e7,hsp,jA,hloop,hfold,Ywg,List.drop_succ_cons,List.drop_zero,show((x::t).getD 0 0)=x from rfl]
    cases hx:x == 47 with
    |false=>simp[bne,hx]
    |true=>
     simp only[bne,hx,jK,Ywf,Bool.false_or]
     cases (x::t).getD t.length 0 == 47 with
     |true=>rfl
     |false=>
      simp only[Ywf]
      cases decide (((Xai 47 [] t).length:Int)>6) with
      |true=>rfl
      |false=>
       simp only[Ywf]
       cases Yg2 X6 (Xai 47 [] t) == 0<;>rfl
theorem Xey {p:List UInt8} (h:(Xr p).2=0):(Xr p).1.length≤6∧∀ n∈(Xr p).1,X6 n=0:=by
 unfold Xr at *
 cases h30:decide ((p.length:Int)>30) with
 |true=>rw[h30] at h;cases h
 |false=>
  rw[h30] at h;simp only[Ywf] at h ⊢
  cases h1:p == ([47]:List UInt8) with
  |true=>simp
  |false=>
   rw[h1] at h;simp only[Ywf] at h ⊢
   cases h2:Xpj p with
   |true=>rw[h2] at h;cases h
   |false=>
    rw[h2] at h;simp only[Ywf] at h ⊢
    cases h3:decide (((Xai 47 [] (p.drop 1)).length:Int)>6) with
    |true=>rw[h3] at h;cases h
    |false=>
     rw[h3] at h;simp only[Ywf] at h ⊢
     cases h4:Yg2 X6 (Xai 47 [] (p.drop 1)) != 0 with
     |true=>rw[h4] at h;exact absurd h (by simpa using h4)
     |false=>exact⟨by simp at h3;simp;omega,Xgd.1 (by simpa using h4)⟩
def Xba (l:List Xb) (p:List UInt8):Int×Int:=cond ((Xr p).2 != 0) (0,(Xr p).2) (Xay l (Xr p).1 0)
def Xu (l:List Xb) (p:List UInt8):Int×List UInt8×Int:=
 cond ((Xr p).2 != 0) (0,[],(Xr p).2) (cond (((Xr p).1.length:Int) == 0) (0,[],4) (cond ((Xay l (Xr p).1.dropLast 0).2 != 0) (0,[],(Xay l (Xr p).1.dropLast 0).2)
  (cond ((l.getD (Xay l (Xr p).1.dropLast 0).1.toNat Xa).1 != 2) (0,[],9) ((Xay l (Xr p).1.dropLast 0).1,(Xr p).1.getLast?.getD [],0))))
theorem Xgl {l:List Xb} (h:Xa0 l):∀ (ns:List (List UInt8)) (a:Int),0≤a∧a<(l.length:Int)→0≤(Xay l ns a).1∧(Xay l ns a).1<(l.length:Int)
 |[],a,ha=>ha
 |n::ns,a,ha=>by
  have hp:=h.pos;simp only[Xay]
  cases h1:((l.getD a.toNat Xa).1 != 2) with
  |true=>simp only[Ywg];omega
  |false=>
   cases h2:decide (Xq (Xc l a) n<0) with
   |true=>simp only[Ywg,Ywf];omega
   |false=>simp only[Ywf];exact Xgl h ns _ (Xbs h ha.1 ha.2 n h2)
theorem Xlt {l:List Xb} (h:Xa0 l) (p:List UInt8):0≤(Xba l p).1∧(Xba l p).1<(l.length:Int):=by
 have hp:=h.pos;unfold Xba
 cases ((Xr p).2 != 0) with
 |true=>simp only[Ywg];omega
 |false=>exact Xgl h _ 0 ⟨Int.le_refl _,by omega⟩
theorem Xou (f:Fs_) (h:Xa0 f.1) (p:List UInt8):Xb7 f p=some (Xba f.1 p):=by
 simp only[Xb7,Xqf,jA,Xba]
 cases hc:((Xr p).2 != 0) with
 |true=>rfl
 |false=>
  have h6:=(Xey (p:=p) (by simpa using hc)).1
  simp only[Ywf,Xqc f h _ (by omega:(Xr p).1.length≤1048577),jA]
theorem Xov (f:Fs_) (h:Xa0 f.1) (p:List UInt8):Xf1 f p=some (Xba f.1 p):=by
 obtain⟨ns,e,hns⟩:=Xqe p;simp only[Xf1,e,jA,Xba]
 cases hc:((Xr p).2 != 0) with
 |true=>rfl
 |false=>
  have h0:(Xr p).2=0:=by simpa using hc
  have h6:=(Xey h0).1;rw[hns h0]
  simp only[Ywf,Xqd f h _ (by omega:(Xr p).1.length≤1048577),jA]
theorem Xnc {α:Type} {ns:List α} (h:((ns.length:Int) == 0)=false) (hl:ns.length≤6):w64 ((ns.length:Int)-1)=((ns.length-1:Nat):Int)∧inB ((ns.length-1:Nat):Int) ns.length=true∧(decide ((0:Int)≤((ns.length-1:Nat):Int))&&decide (((ns.length-1:Nat):Int)≤(ns.length:Int)))=true:=by
 have h1:ns.length≠0:=fun e=>by rw[e] at h;cases h
 refine⟨by rw[Yss (by omega) (by omega)];omega,by simp[inB]<;>omega,by simp<;>omega⟩
theorem Xna (ns:List (List UInt8)):ns.getD (ns.length-1) []=ns.getLast?.getD []:=by
 rw[List.getLast?_eq_getElem?];rfl
theorem Xn0 (f:Fs_) (h:Xa0 f.1) (p:List UInt8):Xe1 f p=some (Xu f.1 p):=by
 obtain⟨ns,e,hns⟩:=Xqe p;have hp:=h.pos;simp only[Xe1,Xmx,e,jA,Xu]
 cases hc:((Xr p).2 != 0) with
 |true=>simp only[Ywg,jA,hc]
 |false=>
  have h0:(Xr p).2=0:=by simpa using hc
  have h6:=(Xey h0).1;rw[hns h0]
  cases hz:(((Xr p).1.length:Int) == 0) with
  |true=>rfl
  |false=>
   obtain⟨e1,e2,e3⟩:=Xnc hz h6;simp only[Ywf,e1,e2,e3,Ywg,jA,toNat_cast,List.drop_zero,Nat.sub_zero,Xna,←List.dropLast_eq_take]
   rw[Xqd f h _ (by simp;omega)]
   have hi:=Xgl h (Xr p).1.dropLast 0 ⟨Int.le_refl _,by omega⟩
   simp only[jA,Yuw hi.1 hi.2,Ywg,bne_self_eq_false,Ywf]
   cases (Xay f.1 (Xr p).1.dropLast 0).2 != 0 with
   |true=>rfl
   |false=>
    simp only[Ywf]
    cases ((f.1.getD (Xay f.1 (Xr p).1.dropLast 0).1.toNat Xa).1 != 2)<;>rfl
theorem Xn1 (f:Fs_) (h:Xa0 f.1) (p:List UInt8):Xax f p=some (Xu f.1 p):=by
 have hp:=h.pos;simp only[Xax,Xqf,jA,Xu]
 cases hc:((Xr p).2 != 0) with
 |true=>rfl
 |false=>
  have h0:(Xr p).2=0:=by simpa using hc
  have h6:=(Xey h0).1
  cases hz:(((Xr p).1.length:Int) == 0) with
  |true=>rfl
  |false=>
   obtain⟨e1,e2,e3⟩:=Xnc hz h6;simp only[Ywf,e1,e2,e3,Ywg,jA,toNat_cast,List.drop_zero,Nat.sub_zero,Xna,←List.dropLast_eq_take]
   rw[Xqc f h _ (by simp;omega)]
   have hi:=Xgl h (Xr p).1.dropLast 0 ⟨Int.le_refl _,by omega⟩
   simp only[jA,Yuw hi.1 hi.2,Ywg]
   cases (Xay f.1 (Xr p).1.dropLast 0).2 != 0 with
   |true=>rfl
   |false=>
    simp only[Ywf]
    cases ((f.1.getD (Xay f.1 (Xr p).1.dropLast 0).1.toNat Xa).1 != 2)<;>rfl
theorem Xch {l:List Xb} (h:Xa0 l) {p:List UInt8} (hp:(Xu l p).2.2=0):0≤(Xu l p).1∧(Xu l p).1<(l.length:Int)∧(l.getD (Xu l p).1.toNat Xa).1=2∧X6 (Xu l p).2.1=0:=by
 have hpos:=h.pos;unfold Xu at *
 cases hc:((Xr p).2 != 0) with
 |true=>rw[hc] at hp;exact absurd hp (by simpa using hc)
 |false=>
  rw[hc] at hp
  have h0:(Xr p).2=0:=by simpa using hc
  obtain⟨h6,hn⟩:=Xey h0
  cases hz:(((Xr p).1.length:Int) == 0) with
  |true=>rw[hz] at hp;cases hp
  |false=>
   rw[hz] at hp;simp only[Ywf] at hp ⊢
   cases h1:(Xay l (Xr p).1.dropLast 0).2 != 0 with
   |true=>rw[h1] at hp;exact absurd hp (by simpa using h1)
   |false=>
    rw[h1] at hp;simp only[Ywf] at hp ⊢
    cases h2:((l.getD (Xay l (Xr p).1.dropLast 0).1.toNat Xa).1 != 2) with
    |true=>rw[h2] at hp;cases hp
    |false=>
     have hi:=Xgl h (Xr p).1.dropLast 0 ⟨Int.le_refl _,by omega⟩
     refine⟨hi.1,hi.2,by simpa using h2,?_⟩
     simp only[Ywf]
     cases hl:(Xr p).1.getLast? with
     |none=>
      rw[List.getLast?_eq_none_iff.1 hl] at hz
      cases hz
     |some n=>exact hn n (List.mem_of_getLast? hl)
def Xao (f:Fs_) (dir:Int) (nm:List UInt8) (a:Int):Fs_:=(f.1.set dir.toNat (Yka (f.1.getD dir.toNat Xa) (Yp9 (Xc f.1 dir) nm a)),f.2.1,())
theorem Xow (f:Fs_) {dir:Int} (nm:List UInt8) (a:Int) (h0:0≤dir) (h1:dir<(f.1.length:Int)) (hl:f.1.length≤1048576) (he:(Xc f.1 dir).length≤1048576):Xaq f dir nm a=some (Xao f dir nm a):=by
 have e1:decide (List.length f.1≤1152921504606846976)=true:=jZ (by omega)
 have e2:decide ((Xc f.1 dir).length≤1048576)=true:=jZ he;simp only[Xaq,Ye4,e1,Ywg];rw[show decide (List.length (f.1.getD dir.toNat (0,0,0,[],[],())).2.2.2.2.1≤1048576)=true from e2,Yuw h0 h1];rfl
theorem Xla (nm:List UInt8):∀ es:List Xg,Yux nm es≤es.length
 |[]=>jB _
 |e::es=>by
  simp only[Yux]
  cases leB e.1 nm with
  |true=>have:=Xla nm es;simp only[cond_true,jH];omega
  |false=>simp
theorem Xm6 (nm:List UInt8):∀ (l:List Xg) (i:Nat) (n:Int),n=((i+l.length:Nat):Int)→Yb0 (τ:=Unit) (fun i e _=>cond (leB e.1 nm) (.inl ()) (.inr (i:Int))) (fun _=>n) i l ()=((i+Yux nm l:Nat):Int)
 |[],i,n,h=>by simp[Yb0,Yux,h]
 |e::l,i,n,h=>by
  simp only[Yb0,Yux]
  cases leB e.1 nm with
  |true=>
   simp only[cond_true,sel]
   rw[Xm6 nm l (i+1) n (by rw[h];simp only[jH];omega)]
   omega
  |false=>simp[sel]
theorem Xqg (es:List Xg) (nm:List UInt8) (a:Int) (hl:es.length≤1048576):Xf0 es (nm,a,())=some (Yp9 es nm a):=by
 have h:Xjm es (nm,a,()) 0=some (Yb0 (τ:=Unit) (fun i e _=>cond (leB e.1 nm) (.inl ()) (.inr (i:Int))) (fun _=>(es.length:Int)) 0 es ()):=
  Yjc (τ:=Unit) es (f:=fun s=>Xjm.B es (nm,a,()) s) (fun i _=>(i:Int)) (fun i e _=>cond (leB e.1 nm) (.inl ()) (.inr (i:Int))) (fun _=>(es.length:Int)) (fun i hi t=>by
   simp only[Xjm.B,Yw1 hi,Ywy hi,Ywg,toNat_cast,getD_lt _ hi,jA,Ywd (by omega:i<4294967296)]
   cases leB (es[i]).1 nm<;>rfl) (fun t=>by simp only[Xjm.B,Yww (jB _),Ywf,Ywg,jA]) () (s:=0) rfl
 have hi:=Xla nm es
 rw[Xm6 nm es 0 _ (by simp),jJ] at h
 simp only[Xf0,h,jA,toNat_cast,jO,List.drop_zero];have hi:=Xla nm es
 rw[show(decide ((0:Int)≤(Yux nm es:Int))&&decide ((Yux nm es:Int)≤(es.length:Int)))=true by simp;omega,jZ (by rw[kK];omega:(es.take (Yux nm es)).length≤2147483648),
  jZ (by simp;omega:(es.take (Yux nm es)++[(nm,a,())]).length≤2147483648)]
 simp only[Ywg,jA,List.take_length]
 rw[jZ (by simp;omega:(es.take (Yux nm es)++[(nm,a,())]++es.drop (Yux nm es)).length≤2147483648)]
 simp[Yp9]
def Xl1 (x:Xb):Xb:=(x.1,w64 (x.2.1+1),x.2.2)
def Xit (f:Fs_) (dir:Int) (nm:List UInt8) (a:Int):Int×Fs_:=
 cond (decide (Xq (Xc f.1 dir) nm≥0)) (7,f) (cond ((f.1.getD a.toNat Xa).1 == 0) (4,f) (cond (cond (((Xc f.1 dir).length:Int) == 6) true ((f.1.getD a.toNat Xa).2.1 == 60)) (2,f)
  (0,cond ((f.1.getD a.toNat Xa).1 == 1) ((Xao f dir nm a).1.set a.toNat (Xl1 ((Xao f dir nm a).1.getD a.toNat Xa)),(Xao f dir nm a).2) (Xao f dir nm a))))
theorem Xju (f:Fs_) (dir:Int) (nm:List UInt8) (a:Int) (i:Nat):((Xao f dir nm a).1.getD i Xa).1=(f.1.getD i Xa).1∧(Xao f dir nm a).1.length=f.1.length:=by
 refine⟨?_,by simp[Xao]⟩
 unfold Xao
 by_cases h:dir.toNat<f.1.length
 ·by_cases e:dir.toNat=i
  ·subst e
   simp[List.getD,h,Yka]
  ·simp[List.getD,List.getElem?_set_ne e]
 ·rw[List.set_eq_of_length_le (by omega)]
def atI (es:List Xg) (nm:List UInt8):Int:=match Yoh (fun e:Xg=>e.1 == nm) 0 es with | some j=>(j:Int) | none=>-1
theorem Xlf (es:List Xg) (nm:List UInt8) (hl:es.length≤6):Xa8 es nm=some (atI es nm):=(Xqb es nm hl).trans (by unfold atI;cases Yoh (fun e:Xg=>e.1 == nm) 0 es<;>rfl)
theorem Xce (es:List Xg) (nm:List UInt8) (he:∀ e∈es,0≤e.2.1):decide (atI es nm≥0)=decide (Xq es nm≥0):=by
 have hx:=Xev (fun e:Xg=>e.1 == nm) Xk es 0;unfold Xq atI
 cases hi:Yoh (fun e:Xg=>e.1 == nm) 0 es with
 |none=>
  rw[hi] at hx
  simp only[hx]
 |some j=>
  rw[hi] at hx;obtain⟨x1,x2,x3⟩:=hx;rw[x1]
  have hm:es.getD (j-0) Xk∈es:=by rw[getD_lt _ x3];exact jE _
  have:=he _ hm
  rw[jZ (by simp:(j:Int)≥0),jZ (this:(es.getD (j-0) Xk).2.1≥0)]
theorem Xsr (f:Fs_) (ht:Xa0 f.1) {dir a:Int} (nm:List UInt8) (d0:0≤dir) (d1:dir<(f.1.length:Int)) (a0:0≤a) (a1:a<(f.1.length:Int)):Xib f dir nm a=some (Xit f dir nm a):=by
 have hq:=ht.at_ d0 d1;have hl:=ht.len
 have e1:w64 ((f.1.length:Int)-1)=(f.1.length:Int)-1:=Yss (by omega) (by omega)
 have e2:inR a 0 ((f.1.length:Int)-1)=true:=Xz.2 ⟨a0,by omega⟩
 have hp:=Xow f nm a d0 d1 (by omega) (by omega)
 have en:(f.1.getD dir.toNat Xa).2.2.2.2.1=Xc f.1 dir:=rfl;obtain⟨k1,k2⟩:=Xju f dir nm a a.toNat;simp only[Xib,Xle f dir nm d0 d1 hq.1,jA,Xit,Xl1,Xa1,Xgb,e1,e2,jK,kQ,Yuw a0 a1,Yuw d0 d1,Ywg,Ywf,en,Yvg,hp,k1,k2]
 cases decide (Xq (Xc f.1 dir) nm≥0) with
 |true=>rfl
 |false=>
  simp only[Ywf]
  cases (f.1.getD a.toNat Xa).1 == 0 with
  |true=>rfl
  |false=>
   simp only[Ywf]
   cases (((Xc f.1 dir).length:Int) == 6)<;>cases ((f.1.getD a.toNat Xa).2.1 == 60)<;>first | rfl | (cases ((f.1.getD a.toNat Xa).1 == 1)<;>rfl)
structure Xlc (l:List Xb):Prop where
 top:∀ x∈l,x.2.1≤60
 fil:∀ x∈l,x.1≠1→x.2.1=0
theorem Xlc.of {l:List Xb} (h:Xac l=0):Xlc l:=by
 have hf:∀ x∈l,x.1≠1→x.2.1=0:=fun x hx e=>((X8 ((Xw h).2 x hx)).2.2.2.2.1 e).1;refine⟨fun x hx=>?_,hf⟩
 by_cases e:x.1=1
 ·have h1:=(Xbq ((Xw h).2 x hx)).2.2.2 e
  unfold Xiv at h1
  cases h2:inR x.2.1 1 60 with
  |false=>rw[h2] at h1;cases h1
  |true=>exact(Xz.1 h2).2
 ·rw[hf x hx e];omega
theorem Xqh (f:Fs_) (ht:Xa0 f.1) (hk:Xlc f.1) {dir a:Int} (nm:List UInt8) (d0:0≤dir) (d1:dir<(f.1.length:Int)) (a0:0≤a) (a1:a<(f.1.length:Int)):Xg0 f dir nm a=some (Xit f dir nm a):=by
 have hq:=ht.at_ d0 d1;have hl:=ht.len
 have e1:w64 ((f.1.length:Int)-1)=(f.1.length:Int)-1:=Yss (by omega) (by omega)
 have e2:inR a 0 ((f.1.length:Int)-1)=true:=Xz.2 ⟨a0,by omega⟩
 have hp:=Xqg (Xc f.1 dir) nm a (by omega)
 have en:(f.1.getD dir.toNat Xa).2.2.2.2.1=Xc f.1 dir:=rfl;obtain⟨k1,k2⟩:=Xju f dir nm a a.toNat;have hm:=getD_in a0 a1;have hk1:=hk.top _ hm;have hk2:=hk.fil _ hm;have e8:=Xlf (Xc f.1 dir) nm hq.1;have hlook:=Xce (Xc f.1 dir) nm fun e he=>(hq.2.2 e he).2.1;have eput:∀ (x y z:Int) (u:List Int) (e:Unit),(f.1.set dir.toNat ((f.1.getD dir.toNat Xa).1,(f.1.getD dir.toNat Xa).2.1,(f.1.getD dir.toNat Xa).2.2.1,(f.1.getD dir.toNat Xa).2.2.2.1,Yp9 (Xc f.1 dir) nm a,(f.1.getD dir.toNat Xa).2.2.2.2.2))=(Xao f dir nm a).1:=fun _ _ _ _ _=>rfl;have eput2:(Xao f dir nm a).2=f.2:=rfl;have eput3:((Xao f dir nm a).1,f.2)=Xao f dir nm a:=rfl;simp only[Xg0,Xgz,Xeq,e1,e2,e8,hlook,Yuw d0 d1,Yuw a0 a1,en,hp,jA,Ywg,jK,kQ,Ywf,Xit,Yvg,eput 0 0 0 [] (),k1,k2,Xl1,eput2,eput3]
 cases decide (Xq (Xc f.1 dir) nm≥0) with
 |true=>rfl
 |false=>
  simp only[Ywf]
  cases (f.1.getD a.toNat Xa).1 == 0 with
  |true=>rfl
  |false=>
   simp only[Ywf]
   have h6:decide (((Xc f.1 dir).length:Int)≥6)=(((Xc f.1 dir).length:Int) == 6):=by
    rw[Bool.eq_iff_iff];simp only[jI,beq_iff_eq];omega
   rw[h6]
   cases (((Xc f.1 dir).length:Int) == 6) with
   |true=>rfl
   |false=>
    simp only[kQ,Bool.true_and,Ywf]
    cases h1:((f.1.getD a.toNat Xa).1 == 1) with
    |true=>
     have h60:decide ((f.1.getD a.toNat Xa).2.1≥60)=((f.1.getD a.toNat Xa).2.1 == 60):=by
      rw[Bool.eq_iff_iff];simp only[jI,beq_iff_eq];omega
     rw[h60]
     cases ((f.1.getD a.toNat Xa).2.1 == 60)<;>rfl
    |false=>
     rw[hk2 (by simpa using h1)]
     rfl
theorem FsB.ofT {f:Fs_} (h:X5 f):FsB f:=⟨(Xw h.inod).1,fun x hx=>X9.of ((Xw h.inod).2 x hx),h.dat,fun b hb=>by have:=h.dl b hb;omega⟩
theorem FsB.set {f:Fs_} (h:FsB f) (i:Nat) {x:Xb} (hx:X9 x) (u:Unit):FsB (f.1.set i x,f.2.1,u):=
 ⟨by simpa using h.l,fun y hy=>by
  rcases List.mem_or_eq_of_mem_set hy with hy | rfl
  ·exact h.s y hy
  ·exact hx,h.d,h.dl⟩
theorem X9.at_ {f:Fs_} (h:FsB f) (i:Nat):X9 (f.1.getD i Xa):=by
 by_cases hi:i<f.1.length
 ·rw[getD_lt _ hi];exact h.s _ (jE hi)
 ·rw[show f.1.getD i Xa=Xa by simp[List.getD,List.getElem?_eq_none (by omega:f.1.length≤i)]]
  exact⟨by decide,by decide,fun e he=>by cases he⟩
theorem Xm9 {es:List Xg} {nm:List UInt8} {a:Int} {e:Xg} (h:e∈Yp9 es nm a):e∈es∨e=(nm,a,()):=by
 unfold Yp9 at h;rcases List.mem_append.1 h with h | h
 ·exact .inl (List.mem_of_mem_take h)
 ·rcases List.mem_cons.1 h with h | h
  ·exact .inr h
  ·exact .inl (List.mem_of_mem_drop h)
theorem Xm8 (es:List Xg) (nm:List UInt8) (a:Int):(Yp9 es nm a).length=es.length+1:=by
 have:=Xla nm es;simp[Yp9];omega
theorem Xnv {f:Fs_} (h:FsB f) {dir:Int} {nm:List UInt8} (a:Int) (hn:nm.length≤4) (he:(Xc f.1 dir).length<6):FsB (Xao f dir nm a):=by
 have hs:=X9.at_ h dir.toNat;refine FsB.set h dir.toNat (x:=Yka (f.1.getD dir.toNat Xa) (Yp9 (Xc f.1 dir) nm a)) ⟨hs.blk,?_,fun e hm=>?_⟩ ()
 ·show(Yp9 (Xc f.1 dir) nm a).length≤6
  rw[Xm8];omega
 ·rcases Xm9 (show e∈Yp9 (Xc f.1 dir) nm a from hm) with hm | rfl
  ·exact hs.nam e hm
  ·exact hn
theorem Xno {f:Fs_} (h:FsB f) {dir:Int} {nm:List UInt8} {a:Int} (hn:nm.length≤4):FsB (Xit f dir nm a).2:=by
 unfold Xit
 cases decide (Xq (Xc f.1 dir) nm≥0) with
 |true=>exact h
 |false=>
  cases (f.1.getD a.toNat Xa).1 == 0 with
  |true=>exact h
  |false=>
   have hs:=X9.at_ h dir.toNat
   cases h6:(((Xc f.1 dir).length:Int) == 6) with
   |true=>exact h
   |false=>
    have h7:(Xc f.1 dir).length≤6:=hs.ent
    have hp:=Xnv h (dir:=dir) a hn (by
      have:((Xc f.1 dir).length:Int)≠6:=by simpa using h6
      omega)
    cases ((f.1.getD a.toNat Xa).2.1 == 60) with
    |true=>exact h
    |false=>
     simp only[Ywf]
     cases ((f.1.getD a.toNat Xa).1 == 1) with
     |true=>
      have hq:=X9.at_ hp a.toNat
      exact FsB.set hp a.toNat (x:=Xl1 ((Xao f dir nm a).1.getD a.toNat Xa)) ⟨hq.blk,hq.ent,hq.nam⟩ ()
     |false=>exact hp
theorem Xpi {f:Fs_} {dir a:Int} {nm:List UInt8} (h:(Xit f dir nm a).1≠0):(Xit f dir nm a).2=f:=by
 revert h
 unfold Xit
 cases decide (Xq (Xc f.1 dir) nm≥0)<;>cases (f.1.getD a.toNat Xa).1 == 0<;>cases (((Xc f.1 dir).length:Int) == 6)<;>cases ((f.1.getD a.toNat Xa).2.1 == 60)<;>intro h<;>first | rfl | exact absurd rfl h
def Xa5 (code rep val:Int) (f:Fs_):Xo:=(code,rep,val,[],[],f,())
theorem Xta {f:Fs_} (h:FsB f) (c r v:Int):wt Xj (Xa5 c r v f)≤2147483648:=by
 have:=h.wt;simp only[Xa5,Ymj,Yvd,Yt7,Ysv,qB,List.sum_nil] at *;omega
def Xbb (l:List Xb) (t:Int):Nat→Int→Bool
 |0,a=>t == a
 |d+1,a=>t == a || (Xc l a).any fun e=>Xbb l t d e.2.1
theorem Xss (f:Fs_) (ht:Xa0 f.1) (t:Int):∀ (d k:Nat) (a:Int),d<k→d≤10→0≤a→a<(f.1.length:Int)→Xab.R k f t a (d:Int)=some (Xbb f.1 t d a):=by
 intro d
 induction d with
 |zero=>
  intro k a hk _ a0 a1
  obtain⟨k,rfl⟩:∃ m,k=m+1:=⟨k-1,by omega⟩
  simp only[Xab.R,Xab.step,Xbb]
  have h:Xcn (Xab.R k) f t a ((0:Nat):Int) 0=some (.inr ()):=Yas (by simp only[Xcn.B];rfl)
  rw[h]
  cases t == a<;>rfl
 |succ d ih=>
  intro k a hk hd a0 a1
  obtain⟨k,rfl⟩:∃ m,k=m+1:=⟨k-1,by omega⟩
  obtain⟨q1,-,q3⟩:=ht.at_ a0 a1
  have e1:decide (((d+1:Nat):Int)>0)=true:=jZ (by omega)
  have e2:w64 (((d+1:Nat):Int)-1)=(d:Int):=by rw[Yss (by omega) (by omega)];omega
  have en:(f.1.getD a.toNat Xa).2.2.2.2.1=Xc f.1 a:=rfl
  have h:Xcn (Xab.R k) f t a ((d+1:Nat):Int) 0=_:=Yv2 (Xc f.1 a) (fun e=>Xbb f.1 t d e.2.1) true (fun i hi=>by
   have he:=q3 _ (jE hi)
   simp only[Xcn.B,e1,e2,Ywg,Yuw a0 a1,en,Yw1 hi,Ywy hi,toNat_cast,getD_lt _ hi,jA,ih k _ (by omega) (by omega) he.2.1 he.2.2,Ywd (by omega:i<4294967296)]) (by
   simp only[Xcn.B,e1,Ywg,Yuw a0 a1,en,Yww (jB _),jA,Ywf])
  simp only[Xab.R,Xab.step,Xbb];rw[h]
  cases t == a with
  |true=>rfl
  |false=>cases (Xc f.1 a).any fun e=>Xbb f.1 t d e.2.1<;>rfl
theorem Xn3 {α:Type} (p q:α→Bool):∀ l:List α,(∀ x∈l,p x=true→q x=true)→l.countP p≤l.countP q∧(l.countP q≤l.countP p→∀ x∈l,q x=true→p x=true)
 |[],_=>⟨jB _,fun _ x hx=>nomatch hx⟩
 |y::l,h=>by
  obtain⟨h1,h2⟩:=Xn3 p q l fun x hx=>h x (jG _ hx);have hy:=h y (jF ..);simp only[List.countP_cons]
  cases e1:p y with
  |true=>
   rw[hy e1]
   refine⟨by omega,fun hle x hx hq=>?_⟩
   rcases List.mem_cons.1 hx with rfl | hx
   ·exact e1
   ·exact h2 (by omega) x hx hq
  |false=>
   cases e2:q y with
   |true=>exact⟨by simp;omega,fun hle=>by simp at hle;omega⟩
   |false=>
    refine⟨by simp;omega,fun hle x hx hq=>?_⟩
    rcases List.mem_cons.1 hx with rfl | hx
    ·rw[e2] at hq;cases hq
    ·exact h2 (by simpa using hle) x hx hq
theorem Xnm (l:List Xb) (t:Int):∀ (d:Nat) (a:Int),Xbb l t d a=true→Xbb l t (d+1) a=true:=by
 intro d
 induction d with
 |zero=>intro a h;simp only[Xbb] at *;rw[h];rfl
 |succ d ih=>
  intro a h;rw[Xbb,Bool.or_eq_true] at h ⊢;refine h.imp id fun h=>?_;obtain⟨e,he,h2⟩:=List.any_eq_true.1 h;exact List.any_eq_true.2 ⟨e,he,ih _ h2⟩
theorem Xqw (l:List Xb) (t:Int) {d d':Nat} (h:d≤d') (a:Int) (hw:Xbb l t d a=true):Xbb l t d' a=true:=by
 induction h with
 |refl=>exact hw
 |step _ ih=>exact Xnm l t _ a ih
theorem Xon {l:List Xb} (hl:Xe6 l) (hn:l.length≤10) {a t:Nat} (ha:a<l.length) (ht:t<l.length):Xbb l (t:Int) 10 (a:Int)=true↔Reach l a t:=by
 have sound:∀ (d:Nat) (b:Nat),b<l.length→Xbb l (t:Int) d (b:Int)=true→∀ s,Reach l s b→Reach l s t:=by
  intro d
  induction d with
  |zero=>
   intro b hb h s hs;simp only[Xbb,beq_iff_eq] at h
   have:t=b:=by omega
   rw[this];exact hs
  |succ d ih=>
   intro b hb h s hs;rw[Xbb,Bool.or_eq_true] at h;rcases h with h | h
   ·simp only[beq_iff_eq] at h
    have:t=b:=by omega
    rw[this];exact hs
   ·obtain⟨e,he,h2⟩:=List.any_eq_true.1 h
    have he':e∈Xaf l b:=he;have hi:=Xbh hl he'
    obtain⟨c,hc⟩:∃ c:Nat,e.2.1=(c:Int):=⟨e.2.1.toNat,by omega⟩
    rw[hc] at h2 hi
    exact ih c (by omega) h2 s (.step hs ⟨e,he',hc⟩)
 have key:∀ m,m≤10→(∃ d,d<m∧∀ i,i<l.length→Xbb l (t:Int) (d+1) (i:Int)=true→Xbb l (t:Int) d (i:Int)=true)∨m+1≤(List.range l.length).countP fun i:Nat=>Xbb l (t:Int) m (i:Int):=by
  intro m
  induction m with
  |zero=>
   intro _;refine .inr (List.countP_pos_iff.2 ⟨t,List.mem_range.2 ht,?_⟩)
   simp[Xbb]
  |succ m ih=>
   intro hm
   rcases ih (by omega) with ⟨d,hd,h⟩ | h
   ·exact .inl ⟨d,by omega,h⟩
   ·obtain⟨h1,h2⟩:=Xn3 (fun i:Nat=>Xbb l (t:Int) m (i:Int)) (fun i:Nat=>Xbb l (t:Int) (m+1) (i:Int)) (List.range l.length) fun i _ hi=>Xnm l _ m _ hi
    by_cases hle:(List.range l.length).countP (fun i:Nat=>Xbb l (t:Int) (m+1) (i:Int))≤(List.range l.length).countP fun i:Nat=>Xbb l (t:Int) m (i:Int)
    ·exact .inl ⟨m,by omega,fun i hi hq=>h2 hle i (List.mem_range.2 hi) hq⟩
    ·exact .inr (by omega)
 refine⟨fun h=>sound 10 a ha h a .refl,fun hr=>?_⟩;rcases key 10 (jB _) with ⟨d,hd,hcl⟩ | h
 ·have back:∀ b,Reach l a b→Xbb l (t:Int) d (b:Int)=true→Xbb l (t:Int) d (a:Int)=true:=by
   intro b hb
   induction hb with
   |refl=>exact id
   |step h1 h2 ih=>
    rename_i x y;intro hy;obtain⟨e,he,h3⟩:=h2;have hx:=Reach.lt hl ha h1;refine ih (hcl x hx ?_);rw[Xbb,Bool.or_eq_true]
    exact .inr (List.any_eq_true.2 ⟨e,he,by rw[h3];exact hy⟩)
  refine Xqw l _ (by omega:d≤10) _ (back t hr ?_)
  cases d<;>simp[Xbb]
 ·have:=List.countP_le_length (p:=fun i:Nat=>Xbb l (t:Int) 10 (i:Int)) (l:=List.range l.length)
  simp only[kJ] at this;omega
theorem Xnl (f:Fs_) (hT:X5 f) {a t:Int} (a0:0≤a) (a1:a<(f.1.length:Int)) (t0:0≤t) (t1:t<(f.1.length:Int)) :
  ∃ b r,Xab f t a 10=some b∧Xcq f.1 a=some r∧Xa4 r t=some b:=by
 have hn:f.1.length≤10:=(Xw hT.inod).1
 obtain⟨x,rfl⟩:∃ x:Nat,a=(x:Int):=⟨a.toNat,by omega⟩
 obtain⟨y,rfl⟩:∃ y:Nat,t=(y:Int):=⟨t.toNat,by omega⟩
 have hx:x<f.1.length:=by omega
 have hy:y<f.1.length:=by omega
 refine⟨_,_,Xss f (Xa0.of hT) y 10 40 x (by omega) (by omega) a0 a1,Xp8 hT.Xm4 hn x hx,?_⟩
 have hlen:(Xag f.1 x).length≤2147483648:=by
  unfold Xag;rw[kP];refine jU (List.length_filter_le _ _) ?_;rw[kJ];omega
 rw[Xmv _ _ hlen]
 congr 1
 rw[Bool.eq_iff_iff,List.contains_iff_mem,Xon hT.Xm4 hn hx hy];exact Xnw hT.Xm4 hx
theorem Xn6 (a:List UInt8):leB a a=false:=by
 have:=Xmr a a;simp only[beq_self_eq_true,Bool.or_true] at this
 cases h:leB a a with
 |false=>rfl
 |true=>rw[h] at this;cases this
theorem Xl5:∀ (a b c:List UInt8),leB a b=true→leB b c=true→leB a c=true
 |a,b,[],_,h=>by cases b<;>cases h
 |[],b,_::_,_,_=>rfl
 |x::a,[],_::_,h,_=>by cases h
 |x::a,y::b,z::c,h1,h2=>by
  simp only[leB,Bool.or_eq_true,jI,jC,beq_iff_eq] at *;rcases h1 with h1 | ⟨rfl,h1⟩
  ·rcases h2 with h2 | ⟨rfl,h2⟩
   ·exact .inl (UInt8.lt_trans h1 h2)
   ·exact .inl h1
  ·rcases h2 with h2 | ⟨rfl,h2⟩
   ·exact .inl h2
   ·exact .inr ⟨rfl,Xl5 a b c h1 h2⟩
theorem Xkg:∀ (es:List Xg) (p:List UInt8),Xbp (some p) es=0→(∀ e∈es,leB p e.1=true)∧(es.map (·.1)).Nodup
 |[],p,_=>⟨fun e h=>(nomatch h),List.nodup_nil⟩
 |e::es,p,h=>by
  simp only[Xbp] at h
  cases h1:Xe3 (some p) e != 0 with
  |true=>rw[h1] at h;exact absurd h (by simpa using h1)
  |false=>
   rw[h1] at h;obtain⟨i1,i2⟩:=Xkg es e.1 h
   have hp:leB p e.1=true:=by
    have h2:Xe3 (some p) e=0:=by simpa using h1
    unfold Xe3 at h2
    cases h3:X6 e.1 != 0 with
    |true=>rw[h3] at h2;exact absurd h2 (by simpa using h3)
    |false=>
     rw[h3] at h2
     cases h4:(!inR e.2.1 0 9) with
     |true=>rw[h4] at h2;cases h2
     |false=>
      rw[h4] at h2
      cases h5:leB p e.1 with
      |true=>rfl
      |false=>simp[h5] at h2
   refine⟨fun x hx=>?_,?_⟩
   ·rcases List.mem_cons.1 hx with rfl | hx
    ·exact hp
    ·exact Xl5 _ _ _ hp (i1 x hx)
   ·rw[jS,List.nodup_cons]
    refine⟨fun hm=>?_,i2⟩;obtain⟨x,hx,e1⟩:=List.mem_map.1 hm;have:=i1 x hx;rw[e1,Xn6] at this;cases this
def Xgo (l:List Xb):Prop:=∀ x∈l,(x.2.2.2.2.1.map (·.1)).Nodup
theorem Xgo.of {l:List Xb} (h:Xac l=0):Xgo l:=fun x hx=>by
 have hx0:=(Xw h).2 x hx
 by_cases e:x.1=2
 ·have hd:=(X8 hx0).2.2.2.1 e
  unfold Xlw at hd
  cases h1:decide ((x.2.2.2.2.1.length:Int)>6) with
  |true=>rw[h1] at hd;cases hd
  |false=>
   rw[h1] at hd;have hd:Xbp none x.2.2.2.2.1=0:=hd
   cases hes:x.2.2.2.2.1 with
   |nil=>exact List.nodup_nil
   |cons y es=>
    rw[hes] at hd;simp only[Xbp] at hd
    cases h2:Xe3 none y != 0 with
    |true=>rw[h2] at hd;exact absurd hd (by simpa using h2)
    |false=>
     rw[h2] at hd;obtain⟨i1,i2⟩:=Xkg es y.1 hd;rw[jS,List.nodup_cons];refine⟨fun hm=>?_,i2⟩;obtain⟨z,hz,e1⟩:=List.mem_map.1 hm;have:=i1 z hz;rw[e1,Xn6] at this;cases this
 ·rw[(X8 hx0).2.2.1 e];exact List.nodup_nil
theorem Xoe {es:List Xg} {nm:List UInt8} (h:∀ e∈es,(e.1 == nm)=false):Ygy es nm=es:=by
 unfold Ygy;rw[List.filter_eq_self];intro e he;rw[h e he];rfl
theorem Xm3 (nm:List UInt8):∀ (es:List Xg) (i j:Nat),(es.map (·.1)).Nodup→Yoh (fun e:Xg=>e.1 == nm) i es=some j→i≤j∧j-i<es.length∧Ygy es nm=es.take (j-i)++es.drop (j-i+1)
 |[],i,j,_,h=>nomatch h
 |e::es,i,j,hn,h=>by
  rw[jS,List.nodup_cons] at hn;simp only[Yoh] at h
  cases he:e.1 == nm with
  |true=>
   rw[he] at h;cases h
   refine⟨jB _,by simp,?_⟩
   have hr:Ygy es nm=es:=Xoe fun x hx=>by
    cases h2:x.1 == nm with
    |false=>rfl
    |true=>
     have e1:e.1=nm:=by simpa using he
     have e2:x.1=nm:=by simpa using h2
     exact absurd (List.mem_map.2 ⟨x,hx,e2.trans e1.symm⟩) hn.1
   rw[show Ygy (e::es) nm=Ygy es nm by simp[Ygy,List.filter_cons,he],hr]
   simp
  |false=>
   rw[he] at h;obtain⟨h1,h2,h3⟩:=Xm3 nm es (i+1) j hn.2 h
   refine⟨by omega,by simp only[jH];omega,?_⟩
   rw[show Ygy (e::es) nm=e::Ygy es nm by simp[Ygy,List.filter_cons,he],h3,show j-i=(j-(i+1))+1 by omega]
   rfl
def Xae (f:Fs_) (dir:Int) (nm:List UInt8):Fs_:=(f.1.set dir.toNat (Yka (f.1.getD dir.toNat Xa) (Ygy (Xc f.1 dir) nm)),f.2.1,())
theorem Xox (f:Fs_) {dir:Int} (nm:List UInt8) (h0:0≤dir) (h1:dir<(f.1.length:Int)) (hl:f.1.length≤1048576) (he:(Xc f.1 dir).length≤1048576):Xau f dir nm=some (Xae f dir nm):=by
 have e1:decide (List.length f.1≤1152921504606846976)=true:=jZ (by omega)
 have e2:decide ((Xc f.1 dir).length≤1048576)=true:=jZ he;simp only[Xau,Yd9,e1,Ywg];rw[show decide (List.length (f.1.getD dir.toNat (0,0,0,[],[],())).2.2.2.2.1≤1048576)=true from e2,Yuw h0 h1];rfl
theorem Xqi (f:Fs_) {dir:Int} (nm:List UInt8) (h0:0≤dir) (h1:dir<(f.1.length:Int)) (hl:(Xc f.1 dir).length≤6) (hn:((Xc f.1 dir).map (·.1)).Nodup) (hi:decide (atI (Xc f.1 dir) nm≥0)=true) :
  Xa6 f dir (atI (Xc f.1 dir) nm)=some (Xq (Xc f.1 dir) nm,Xae f dir nm):=by
 have hx:=Xev (fun e:Xg=>e.1 == nm) Xk (Xc f.1 dir) 0;have en:(f.1.getD dir.toNat Xa).2.2.2.2.1=Xc f.1 dir:=rfl;unfold atI at hi ⊢
 cases hj:Yoh (fun e:Xg=>e.1 == nm) 0 (Xc f.1 dir) with
 |none=>rw[hj] at hi;simp at hi
 |some j=>
  obtain⟨-,i2,i3⟩:=Xm3 nm (Xc f.1 dir) 0 j hn hj;rw[hj] at hx;obtain⟨x1,-,-⟩:=hx;rw[Nat.sub_zero] at i2 i3 x1
  have e1:w64 ((j:Int)+1)=((j+1:Nat):Int):=Ywd (by omega)
  have ev:Xq (Xc f.1 dir) nm=((Xc f.1 dir).getD j Xk).2.1:=by unfold Xq;rw[x1]
  simp only[Xa6,Yuw h0 h1,en,Ywy i2,Ywg,toNat_cast,jA,e1,List.drop_zero,Nat.sub_zero,jO]
  rw[show(decide ((0:Int)≤(j:Int))&&decide ((j:Int)≤((Xc f.1 dir).length:Int)))=true by simp;omega,jZ (by rw[kK];omega:((Xc f.1 dir).take j).length≤2147483648),
   show(decide ((0:Int)≤((j+1:Nat):Int))&&decide (((j+1:Nat):Int)≤((Xc f.1 dir).length:Int)))=true by simp;omega]
  have et:((Xc f.1 dir).drop (j+1)).take ((Xc f.1 dir).length-(j+1))=(Xc f.1 dir).drop (j+1):=List.take_of_length_le (by simp)
  simp only[Ywg,jA,toNat_cast,et]
  rw[jZ (by simp;omega:((Xc f.1 dir).take j++(Xc f.1 dir).drop (j+1)).length≤2147483648)]
  simp only[Ywg,←i3,ev];rfl
def Xbg (bs:List Int) (ds:List (List Int)):List (List Int):=bs.foldl (fun d b=>d.set b.toNat []) ds
def Xha (f:Fs_) (a:Int):Fs_:=(f.1.set a.toNat (0,0,0,[],[],()),Xbg (f.1.getD a.toNat Xa).2.2.2.1 f.2.1,f.2.2)
theorem Xeu (u:List Xb) (w:Unit):∀ (bs:List Int) (ds:List (List Int)),bs.foldl (fun(t:Fs_) b=>(t.1,t.2.1.set b.toNat [],t.2.2)) (u,ds,w)=(u,Xbg bs ds,w)
 |[],ds=>rfl
 |b::bs,ds=>by simp only[kI,Xbg];exact Xeu u w bs _
theorem Xet:∀ (bs:List Int) (ds:List (List Int)),(Xbg bs ds).length=ds.length
 |[],ds=>rfl
 |b::bs,ds=>by simp only[Xbg,kI];exact(Xet bs _).trans (by simp)
theorem Xge:∀ (bs:List Int) {ds:List (List Int)} {k:Nat},(∀ d∈ds,d.length≤k)→∀ d∈Xbg bs ds,d.length≤k
 |[],_,_,h=>h
 |b::bs,ds,k,h=>by
  simp only[Xbg,kI];refine Xge bs fun d hd=>?_;rcases List.mem_or_eq_of_mem_set hd with hd | rfl
  ·exact h d hd
  ·simp
structure Xah (f:Fs_):Prop where
 dat:f.2.1.length=20
 len:∀ i,(f.1.getD i Xa).2.2.2.1.length≤4
 blk:∀ i,∀ b∈(f.1.getD i Xa).2.2.2.1,0≤b∧b≤19
theorem Xah.of {f:Fs_} (h:X5 f):Xah f:=by
 have hok:=Xcj.of h.inod;refine⟨h.dat,fun i=>?_,fun i b hb=>?_⟩
 ·by_cases hi:i<f.1.length
  ·rw[getD_lt _ hi];exact(hok.blk _ (jE hi)).1
  ·rw[show f.1.getD i Xa=Xa by simp[List.getD,List.getElem?_eq_none (by omega:f.1.length≤i)]];decide
 ·by_cases hi:i<f.1.length
  ·rw[getD_lt _ hi] at hb;exact(hok.blk _ (jE hi)).2 b hb
  ·rw[show f.1.getD i Xa=Xa by simp[List.getD,List.getElem?_eq_none (by omega:f.1.length≤i)]] at hb;cases hb
theorem Xah.set {f:Fs_} (h:Xah f) (i:Nat) {x:Xb} (hx:x.2.2.2.1=(f.1.getD i Xa).2.2.2.1) (u:Unit):Xah (f.1.set i x,f.2.1,u):=by
 have key:∀ j,((f.1.set i x).getD j Xa).2.2.2.1=(f.1.getD j Xa).2.2.2.1:=fun j=>by
  by_cases e:i=j
  ·subst e
   by_cases hi:i<f.1.length
   ·rw[←hx];simp[List.getD,hi]
   ·rw[List.set_eq_of_length_le (by omega)]
  ·simp[List.getD,List.getElem?_set_ne e]
 exact⟨h.dat,fun j=>by rw[key];exact h.len j,fun j b hb=>by rw[key] at hb;exact h.blk j b hb⟩
theorem Xst (f:Fs_) (h:Xah f) {a:Int} (a0:0≤a) (a1:a<(f.1.length:Int)):Xg2 f a=some (Xha f a):=by
 have hl:=h.len a.toNat;have hb:=h.blk a.toNat
 have h1:Xdg a (0,f)=_:=Yon (f.1.getD a.toNat Xa).2.2.2.1 (f:=fun s=>Xdg.B a s.1 s.2) (fun(t:Fs_) b=>(t.1,t.2.1.set b.toNat [],t.2.2)) id (fun _ t=>t.1=f.1∧t.2.1.length=20) (fun i hi t ht=>by
  obtain⟨t1,t2⟩:=ht;have hbi:=hb _ (jE hi)
  refine⟨?_,t1,by simpa using t2⟩
  simp only[Xdg.B,t1,Yuw a0 a1,Ywg,jA,Yw1 hi,Ywy hi,toNat_cast,getD_lt _ hi,Yuw hbi.1 (by rw[t2];omega:_<(t.2.1.length:Int)),Ywd (by omega:i<4294967296)]) (fun t ht=>by
  simp only[Xdg.B,ht.1,Yuw a0 a1,Ywg,jA,Yww (jB _),Ywf,id]) f ⟨rfl,h.dat⟩
 simp only[Xg2];rw[h1];obtain⟨xs,ds,w⟩:=f;simp only[id,Xeu,jA,Yuw a0 a1,Ywg,Xha]
theorem Xsu (f:Fs_) (h:Xah f) {a:Int} (a0:0≤a) (a1:a<(f.1.length:Int)):Xg7 f a=some (Xha f a):=by
 have hl:=h.len a.toNat;have hb:=h.blk a.toNat
 have h1:Xbn a.toNat ((f.1.getD a.toNat Xa).2.2.2.1.length:Int) (0,f)=_:=Yon (f.1.getD a.toNat Xa).2.2.2.1 (f:=fun s=>Xbn.B a.toNat ((f.1.getD a.toNat Xa).2.2.2.1.length:Int) s.1 s.2) (fun(t:Fs_) b=>(t.1,t.2.1.set b.toNat [],t.2.2)) id (fun _ t=>t.1=f.1∧t.2.1.length=20) (fun i hi t ht=>by
  obtain⟨t1,t2⟩:=ht;have hbi:=hb _ (jE hi)
  refine⟨?_,t1,by simpa using t2⟩
  simp only[Xbn.B,t1,Ywg,jA,Yw1 hi,Ywy hi,toNat_cast,getD_lt _ hi,Yuw hbi.1 (by rw[t2];omega:_<(t.2.1.length:Int)),Ywd (by omega:i<4294967296)]) (fun t ht=>by
  simp only[Xbn.B,Yww (jB _),Ywf,id]) f ⟨rfl,h.dat⟩
 simp only[Xg7,Xd4,Yuw a0 a1,Ywg,jA];rw[h1];obtain⟨xs,ds,w⟩:=f;simp only[id,Xeu,jA,Yuw a0 a1,Ywg,Xha]
def Xaw (f:Fs_) (a:Int):Fs_:=cond ((f.1.getD a.toNat Xa).1 != 1) f (cond (decide ((f.1.getD a.toNat Xa).2.1>1)) (f.1.set a.toNat ((f.1.getD a.toNat Xa).1,w64 ((f.1.getD a.toNat Xa).2.1-1),(f.1.getD a.toNat Xa).2.2),f.2) (cond (X4 f.1 a == 0) (Xha f a) f))
theorem Xnu (l:List Xb) (i:Nat) (x:Xb) (hx:x.2.2.2.2.1=(l.getD i Xa).2.2.2.2.1) (a:Int):X4 (l.set i x) a=X4 l a:=by
 unfold X4 Xm0
 have:(l.set i x).flatMap (fun y=>y.2.2.2.2.1.map fun e=>e.2.1)=l.flatMap fun y=>y.2.2.2.2.1.map fun e=>e.2.1:=by
  induction l generalizing i with
  |nil=>rfl
  |cons y l ih=>
   cases i with
   |zero=>simp only[List.set_cons_zero,List.flatMap_cons];rw[hx];rfl
   |succ i=>simp only[List.set_cons_succ,List.flatMap_cons];rw[ih i (by simpa using hx)]
 rw[this]
theorem Xsv (f:Fs_) (h:Xah f) (hl:∀ x∈f.1,x.2.2.2.2.1.length≤6) (hn:f.1.length≤10) {a:Int} (a0:0≤a) (a1:a<(f.1.length:Int)) :
  (cond (inB a f.1.length) (cond (((f.1.getD a.toNat Xa).1) != 1) (some f) (cond (decide ((((f.1.getD a.toNat Xa).2).1)>1)) ((some (f.1.set a.toNat ((f.1.getD a.toNat Xa).1,w64 ((((f.1.getD a.toNat Xa).2).1)-1),((f.1.getD a.toNat Xa).2).2))).bind fun f_=>some (f_,f.2)) ((Xdr f.1 a).bind fun r3=>cond (r3 == 0) ((Xg7 f a).bind fun r4=>some r4) (some f)))) none)=some (Xaw f a):=by
 simp only[Yuw a0 a1,Ywg,jA,Xqa f.1 hl hn,Xsu f h a0 a1,Xaw]
 cases ((f.1.getD a.toNat Xa).1 != 1)<;>cases decide ((f.1.getD a.toNat Xa).2.1>1)<;>cases X4 f.1 a == 0<;>rfl
theorem Xsw (f:Fs_) (h:Xah f) (hl:∀ x∈f.1,x.2.2.2.2.1.length≤6) (hn:f.1.length≤10) {a:Int} (a0:0≤a) (a1:a<(f.1.length:Int)) (hk:(f.1.getD a.toNat Xa).1=1→1≤(f.1.getD a.toNat Xa).2.1∧(f.1.getD a.toNat Xa).2.1≤60):Xho f a=some (Xaw f a):=by
 have ha:a.toNat<f.1.length:=by omega
 simp only[Xho,Yuw a0 a1,Ywg,jA,Xaw]
 cases h1:((f.1.getD a.toNat Xa).1 != 1) with
 |true=>rfl
 |false=>
  obtain⟨k1,k2⟩:=hk (by simpa using h1)
  have e1:w64 ((f.1.getD a.toNat Xa).2.1-1)=(f.1.getD a.toNat Xa).2.1-1:=Yss (by omega) (by omega)
  have eg:(f.1.set a.toNat ((f.1.getD a.toNat Xa).1,(f.1.getD a.toNat Xa).2.1-1,(f.1.getD a.toNat Xa).2.2)).getD a.toNat Xa=((f.1.getD a.toNat Xa).1,(f.1.getD a.toNat Xa).2.1-1,(f.1.getD a.toNat Xa).2.2):=by
   simp[List.getD,ha]
  have el:(f.1.set a.toNat ((f.1.getD a.toNat Xa).1,(f.1.getD a.toNat Xa).2.1-1,(f.1.getD a.toNat Xa).2.2)).length=f.1.length:=by simp
  have hl':∀ x∈f.1.set a.toNat ((f.1.getD a.toNat Xa).1,(f.1.getD a.toNat Xa).2.1-1,(f.1.getD a.toNat Xa).2.2),x.2.2.2.2.1.length≤6:=fun x hx=>by
   rcases List.mem_or_eq_of_mem_set hx with hx | rfl
   ·exact hl x hx
   ·show(f.1.getD a.toNat Xa).2.2.2.2.1.length≤6
    rw[getD_lt _ ha];exact hl _ (jE ha)
  have hB:=h.set a.toNat (x:=((f.1.getD a.toNat Xa).1,(f.1.getD a.toNat Xa).2.1-1,(f.1.getD a.toNat Xa).2.2)) rfl f.2.2
  have hd:=Xst _ hB a0 (by rw[el];exact a1)
  have hls:X4 (f.1.set a.toNat ((f.1.getD a.toNat Xa).1,(f.1.getD a.toNat Xa).2.1-1,(f.1.getD a.toNat Xa).2.2)) a=X4 f.1 a:=Xnu f.1 a.toNat ((f.1.getD a.toNat Xa).1,(f.1.getD a.toNat Xa).2.1-1,(f.1.getD a.toNat Xa).2.2) rfl a
  have hdd:Xha (f.1.set a.toNat ((f.1.getD a.toNat Xa).1,(f.1.getD a.toNat Xa).2.1-1,(f.1.getD a.toNat Xa).2.2),f.2.1,f.2.2) a=Xha f a:=by
   simp only[Xha,eg,kM]
  have hd':Xg2 (f.1.set a.toNat ((f.1.getD a.toNat Xa).1,(f.1.getD a.toNat Xa).2.1-1,(f.1.getD a.toNat Xa).2.2),f.2) a=some (Xha f a):=hd.trans (congrArg some hdd)
  simp only[Ywf,e1,el,Yuw a0 a1,Ywg,eg,Xp9 _ hl' (by rw[el];exact hn),hls,jA,hd']
  by_cases hgt:(f.1.getD a.toNat Xa).2.1>1
  ·rw[jZ hgt,jZ (by omega:(f.1.getD a.toNat Xa).2.1-1>0)]
   rfl
  ·have e2:(f.1.getD a.toNat Xa).2.1=1:=by omega
   rw[qA hgt,qA (by omega:¬ (f.1.getD a.toNat Xa).2.1-1>0)]
   simp only[Ywf]
   have h0:0≤X4 f.1 a:=by unfold X4;omega
   by_cases hz:X4 f.1 a=0
   ·rw[hz];rfl
   ·rw[jZ (by omega:X4 f.1 a>0),show(X4 f.1 a == 0)=false by simpa using hz]
    simp only[Ywg,Ywf,kM]
    have:((f.1.getD a.toNat Xa).1,(1:Int),(f.1.getD a.toNat Xa).2.2)=f.1[a.toNat]:=by rw[←e2,getD_lt _ ha]
    rw[this,List.set_getElem_self]
theorem Xiu (es:List Xg) (nm:List UInt8) (he:∀ e∈es,0≤e.2.1):decide (atI es nm<0)=decide (Xq es nm<0):=by
 have h:=Xce es nm he
 have e1:∀ x:Int,decide (x<0) = !decide (x≥0):=fun x=>by
  by_cases hx:x<0
  ·rw[jZ hx,qA (by omega)];rfl
  ·rw[qA hx,jZ (by omega)];rfl
 rw[e1,e1,h]
theorem Xnp {es:List Xg} {nm:List UInt8} (h:decide (atI es nm<0)=false):inB (atI es nm) es.length=true∧(es.getD (atI es nm).toNat Xk).2.1=Xq es nm:=by
 have hx:=Xev (fun e:Xg=>e.1 == nm) Xk es 0;unfold atI at *
 cases hj:Yoh (fun e:Xg=>e.1 == nm) 0 es with
 |none=>rw[hj] at h;simp at h
 |some j=>
  rw[hj] at hx;obtain⟨x1,x2,x3⟩:=hx;rw[Nat.sub_zero] at x1 x3;refine⟨Ywy x3,?_⟩;unfold Xq;rw[x1];simp
theorem Xoi (es:List Xg) {nm nn:List UInt8} (h:nm≠nn):Xq (Ygy es nn) nm=Xq es nm:=by
 have:(Ygy es nn).find? (fun e=>e.1 == nm)=es.find? fun e=>e.1 == nm:=by
  induction es with
  |nil=>rfl
  |cons e es ih=>
   cases h1:e.1 == nn with
   |true=>
    have h2:(e.1 == nm)=false:=by
     have:e.1=nn:=by simpa using h1
     rw[this];simpa using fun e=>h e.symm
    rw[show Ygy (e::es) nn=Ygy es nn by simp[Ygy,List.filter_cons,h1],ih,List.find?_cons,h2]
   |false=>
    rw[show Ygy (e::es) nn=e::Ygy es nn by simp[Ygy,List.filter_cons,h1],List.find?_cons,List.find?_cons]
    cases e.1 == nm with
    |true=>rfl
    |false=>exact ih
 unfold Xq;rw[this]
theorem getD_set_ne {l:List Xb} {i j:Nat} {x:Xb} (h:i≠j):(l.set i x).getD j Xa=l.getD j Xa:=by simp[List.getD,List.getElem?_set_ne h]
theorem Xaj {l:List Xb} {i:Nat} {x:Xb} (h:i<l.length):(l.set i x).getD i Xa=x:=by simp[List.getD,h]
theorem Xe2 {f:Fs_} (h:FsB f) (dir:Int) (nm:List UInt8):FsB (Xae f dir nm):=by
 have hs:=X9.at_ h dir.toNat;refine FsB.set h dir.toNat (x:=Yka (f.1.getD dir.toNat Xa) (Ygy (Xc f.1 dir) nm)) ⟨hs.blk,?_,fun e hm=>?_⟩ ()
 ·exact jU (List.length_filter_le _ _) hs.ent
 ·exact hs.nam e (List.mem_filter.1 (show e∈Ygy (Xc f.1 dir) nm from hm)).1
theorem Xbo (f:Fs_) (dir:Int) (nm:List UInt8):(Xae f dir nm).1.length=f.1.length:=by simp[Xae]
theorem Xm2 {f:Fs_} (h:Xah f) (dir:Int) (nm:List UInt8):Xah (Xae f dir nm):=h.set dir.toNat (x:=Yka (f.1.getD dir.toNat Xa) (Ygy (Xc f.1 dir) nm)) rfl ()
theorem Xl3 (f:Fs_) {dir:Int} (nm:List UInt8) (i:Nat):((Xae f dir nm).1.getD i Xa).1=(f.1.getD i Xa).1∧((Xae f dir nm).1.getD i Xa).2.1=(f.1.getD i Xa).2.1:=by
 unfold Xae
 by_cases h:dir.toNat<f.1.length
 ·by_cases e:dir.toNat=i
  ·subst e
   rw[Xaj h];exact⟨rfl,rfl⟩
  ·rw[getD_set_ne e];exact⟨rfl,rfl⟩
 ·rw[List.set_eq_of_length_le (by omega)];exact⟨rfl,rfl⟩
theorem Xod (f:Fs_) {dir d:Int} (nm:List UInt8) (h0:0≤dir) (h1:dir<(f.1.length:Int)) (d0:0≤d):Xc (Xae f dir nm).1 d=if d=dir then Ygy (Xc f.1 dir) nm else Xc f.1 d:=by
 by_cases e:d=dir
 ·rw[jL e,e]
  show((f.1.set dir.toNat _).getD dir.toNat Xa).2.2.2.2.1=_
  rw[Xaj (by omega)]
  rfl
 ·rw[jM e]
  show((f.1.set dir.toNat _).getD d.toNat Xa).2.2.2.2.1=_
  rw[getD_set_ne (by omega)]
  rfl
theorem X9.zero:X9 (0,0,0,[],[],()):=⟨by decide,by decide,fun e he=>by cases he⟩
theorem Xnd {f:Fs_} (h:FsB f) (a:Int):FsB (Xaw f a):=by
 have hs:=X9.at_ h a.toNat;unfold Xaw
 cases ((f.1.getD a.toNat Xa).1 != 1) with
 |true=>exact h
 |false=>
  cases decide ((f.1.getD a.toNat Xa).2.1>1) with
  |true=>exact FsB.set h a.toNat (x:=((f.1.getD a.toNat Xa).1,w64 ((f.1.getD a.toNat Xa).2.1-1),(f.1.getD a.toNat Xa).2.2)) ⟨hs.blk,hs.ent,hs.nam⟩ ()
  |false=>
   cases X4 f.1 a == 0 with
   |true=>
    have h2:=FsB.set h a.toNat X9.zero ()
    exact⟨h2.l,h2.s,by show(Xbg _ _).length=20;rw[Xet];exact h.d,Xge _ h.dl⟩
   |false=>exact h
theorem Xjs (f:Fs_) (a:Int):(Xaw f a).1.length=f.1.length:=by
 unfold Xaw
 cases ((f.1.getD a.toNat Xa).1 != 1)<;>cases decide ((f.1.getD a.toNat Xa).2.1>1)<;>cases X4 f.1 a == 0<;>simp[Xha]
theorem Xkj (f:Fs_) {a d:Int} (h:a.toNat≠d.toNat):(Xaw f a).1.getD d.toNat Xa=f.1.getD d.toNat Xa:=by
 unfold Xaw
 cases ((f.1.getD a.toNat Xa).1 != 1) with
 |true=>rfl
 |false=>
  cases decide ((f.1.getD a.toNat Xa).2.1>1) with
  |true=>exact getD_set_ne h
  |false=>
   cases X4 f.1 a == 0 with
   |true=>exact getD_set_ne h
   |false=>rfl
theorem Xnt (f:Fs_) {a:Int} (ha:a.toNat<f.1.length):(((Xaw f a).1.getD a.toNat Xa).1 == 2)=((f.1.getD a.toNat Xa).1 == 2):=by
 unfold Xaw
 cases h1:((f.1.getD a.toNat Xa).1 != 1) with
 |true=>rfl
 |false=>
  have e:(f.1.getD a.toNat Xa).1=1:=by simpa using h1
  rw[e]
  cases decide ((f.1.getD a.toNat Xa).2.1>1) with
  |true=>
   show(((f.1.set a.toNat _).getD a.toNat Xa).1 == 2)=_
   rw[Xaj ha]
  |false=>
   cases X4 f.1 a == 0 with
   |true=>
    show(((f.1.set a.toNat _).getD a.toNat Xa).1 == 2)=_
    rw[Xaj ha];rfl
   |false=>
    show((f.1.getD a.toNat Xa).1 == 2)=_;rw[e]
    try rfl
def Xad (f:Fs_) (nd:Int) (nn:List UInt8) (old:Int) (isDir:Bool):Fs_:=cond isDir ((Xaw (Xae f nd nn) old).1.set old.toNat (0,0,0,[],[],()),(Xaw (Xae f nd nn) old).2) (Xaw (Xae f nd nn) old)
theorem Xki {f:Fs_} (h:FsB f) (nd:Int) (nn:List UInt8) (old:Int) (b:Bool):FsB (Xad f nd nn old b):=by
 have h1:=Xnd (Xe2 h nd nn) old
 cases b with
 |false=>exact h1
 |true=>exact FsB.set h1 old.toNat X9.zero ()
theorem Xog (f:Fs_) (nd:Int) (nn:List UInt8) (old:Int) (b:Bool):(Xad f nd nn old b).1.length=f.1.length:=by
 have h1:=Xjs (Xae f nd nn) old;rw[Xbo] at h1
 cases b with
 |false=>exact h1
 |true=>show((Xaw (Xae f nd nn) old).1.set _ _).length=_;rw[kC];exact h1
theorem Xnr (f:Fs_) {nd old d:Int} (nn:List UInt8) (b:Bool) (h:old.toNat≠d.toNat):Xc (Xad f nd nn old b).1 d=Xc (Xae f nd nn).1 d:=by
 unfold Xc
 cases b with
 |false=>show((Xaw (Xae f nd nn) old).1.getD d.toNat Xa).2.2.2.2.1=_;rw[Xkj _ h]
 |true=>show(((Xaw (Xae f nd nn) old).1.set old.toNat _).getD d.toNat Xa).2.2.2.2.1=_;rw[getD_set_ne h,Xkj _ h]
theorem Xqj (f:Fs_) (hT:X5 f) {nd:Int} (nn:List UInt8) (d0:0≤nd) (d1:nd<(f.1.length:Int)) (ho:decide (Xq (Xc f.1 nd) nn<0)=false):Xcu f nd nn=some (Xaw (Xae f nd nn) (Xq (Xc f.1 nd) nn)):=by
 have ht:=Xa0.of hT;have hq:=ht.at_ d0 d1;have hl:=ht.len;have hi:=Xbs ht d0 d1 nn ho;have hB:=Xe2 (FsB.ofT hT) nd nn;have hln:=Xbo f nd nn
 have h:=Xsv (Xae f nd nn) (Xm2 (Xah.of hT) nd nn) (fun x hx=>(hB.s x hx).ent) (by rw[hln];exact hl) (a:=Xq (Xc f.1 nd) nn) hi.1 (by rw[hln];exact hi.2)
 simp only[Xcu,Xle f nd nn d0 d1 hq.1,Xox f nn d0 d1 (by omega) (by omega),jA]
 exact h
theorem Xqk (f:Fs_) (hT:X5 f) {nd:Int} (nn:List UInt8) (d0:0≤nd) (d1:nd<(f.1.length:Int)) (ho:decide (Xq (Xc f.1 nd) nn<0)=false) :
  Xbv f nd (atI (Xc f.1 nd) nn)=some (Xad f nd nn (Xq (Xc f.1 nd) nn) ((f.1.getD (Xq (Xc f.1 nd) nn).toNat Xa).1 == 2)):=by
 have ht:=Xa0.of hT;have hq:=ht.at_ d0 d1;have hl:=ht.len;have hi:=Xbs ht d0 d1 nn ho;have hB:=Xe2 (FsB.ofT hT) nd nn;have hln:=Xbo f nd nn
 have hnames:((Xc f.1 nd).map (·.1)).Nodup:=Xgo.of hT.inod _ (getD_in d0 d1)
 have hpos:decide (atI (Xc f.1 nd) nn≥0)=true:=by
  rw[Xce _ _ fun e he=>(hq.2.2 e he).2.1];exact jZ hi.1
 have hk:=Xl3 f (dir:=nd) nn (Xq (Xc f.1 nd) nn).toNat
 have hfile:(f.1.getD (Xq (Xc f.1 nd) nn).toNat Xa).1=1→1≤(f.1.getD (Xq (Xc f.1 nd) nn).toNat Xa).2.1∧(f.1.getD (Xq (Xc f.1 nd) nn).toNat Xa).2.1≤60:=fun e=>by
  have h1:=(Xbq ((Xw hT.inod).2 _ (getD_in hi.1 hi.2))).2.2.2 e;unfold Xiv at h1
  cases h2:inR (f.1.getD (Xq (Xc f.1 nd) nn).toNat Xa).2.1 1 60 with
  |false=>rw[h2] at h1;cases h1
  |true=>exact Xz.1 h2
 have hless:=Xsw (Xae f nd nn) (Xm2 (Xah.of hT) nd nn) (fun x hx=>(hB.s x hx).ent) (by rw[hln];exact hl) (a:=Xq (Xc f.1 nd) nn) hi.1 (by rw[hln];exact hi.2) (by rw[hk.1,hk.2];exact hfile)
 have hkind:=Xnt (Xae f nd nn) (a:=Xq (Xc f.1 nd) nn) (by rw[hln];omega)
 rw[hk.1] at hkind;simp only[Xbv,Xqi f nn d0 d1 hq.1 hnames hpos,jA,hless,Xjs,hln,Yuw hi.1 hi.2,Ywg,hkind,Xad]
 cases ((f.1.getD (Xq (Xc f.1 nd) nn).toNat Xa).1 == 2)<;>rfl
structure FsC (f:Fs_):Prop where
 l:f.1.length≤10
 s:∀ x∈f.1,x.2.2.2.1.length≤4∧x.2.2.2.2.1.length≤7∧∀ e∈x.2.2.2.2.1,e.1.length≤4
 d:f.2.1.length=20
 dl:∀ b∈f.2.1,b.length≤64
theorem FsC.wt {f:Fs_} (h:FsC f):wt Xh f≤100000:=by
 have e1:∀ w:List Int,(w.map (Mf.wt (.int .i64))).sum=w.length:=fun w=>Xgt .i64 w;have e2:∀ w:List Int,(w.map (Mf.wt (.int .u8))).sum=w.length:=fun w=>Xgt .u8 w
 have h1:=Yt2 (Mf.wt Xd) 100 (xs:=f.1) (fun x hx=>by
  obtain⟨hb,he,hnam⟩:=h.s x hx
  have h2:=Yt2 (Mf.wt Xi) 6 (xs:=x.2.2.2.2.1) (fun e hee=>by
   have:=hnam e hee
   simp only[Ymj,Yo3,Yvd,Yt7];omega)
  have e:Mf.wt Xd x=1+(1+(1+((x.2.2.2.1.map (Mf.wt (.int .i64))).sum+1+((x.2.2.2.2.1.map (Mf.wt Xi)).sum+1+0)))):=rfl;rw[e,e1]
  omega)
 have h2:=Yt2 (Mf.wt (.sl (.int .u8))) 65 (xs:=f.2.1) (fun b hb=>by
  have:=h.dl b hb
  rw[Ysv,e2];omega)
 have hl:=h.l;have hd:=h.d;rw[Ymj,Ymj,Yt7,Ysv,Ysv];rw[hd] at h2;have:f.1.length*100≤10*100:=jR _ hl;omega
theorem Xkk {f:Fs_} (h:FsB f) (dir:Int) {nm:List UInt8} (a:Int) (hn:nm.length≤4):FsC (Xao f dir nm a):=by
 have hs:=X9.at_ h dir.toNat
 refine⟨by simpa [Xao] using h.l,fun x hx=>?_,h.d,h.dl⟩
 rcases List.mem_or_eq_of_mem_set (show x∈f.1.set dir.toNat _ from hx) with hx | rfl
 ·have:=h.s x hx;exact⟨this.blk,Nat.le_succ_of_le this.ent,this.nam⟩
 ·refine⟨hs.blk,?_,fun e hm=>?_⟩
  ·show(Yp9 (Xc f.1 dir) nm a).length≤7
   rw[Xm8];exact Nat.succ_le_succ hs.ent
  ·rcases Xm9 (show e∈Yp9 (Xc f.1 dir) nm a from hm) with hm | rfl
   ·exact hs.nam e hm
   ·exact hn
theorem Xl7 {g:Fs_} (hg:FsB g) {dir nd at_:Int} {nm nn:List UInt8} (d0:0≤dir) (d1:dir<(g.1.length:Int)) (n0:0≤nd) (n1:nd<(g.1.length:Int)) (hn:((Xc g.1 dir).map (·.1)).Nodup) (hpos:decide (atI (Xc g.1 dir) nm≥0)=true) (hnn:nn.length≤4) :
  ((Xau g dir nm).bind fun r12=>(Xaq r12 nd nn at_).bind fun r13=>some ((0:Int),r13))=some (0,Xao (Xae g dir nm) nd nn at_)∧
  Xa6 g dir (atI (Xc g.1 dir) nm)=some (Xq (Xc g.1 dir) nm,Xae g dir nm)∧Xf0 (Xc (Xae g dir nm).1 nd) (nn,at_,())=some (Yp9 (Xc (Xae g dir nm).1 nd) nn at_)∧FsC (Xao (Xae g dir nm) nd nn at_):=by
 have hl:=hg.l;have he:(Xc g.1 dir).length≤6:=(X9.at_ hg dir.toNat).ent;have hc:=Xe2 hg dir nm;have he2:(Xc (Xae g dir nm).1 nd).length≤6:=(X9.at_ hc nd.toNat).ent;have hln:=Xbo g dir nm
 refine⟨?_,Xqi g nm d0 d1 he hn hpos,Xqg _ _ _ (by omega),Xkk hc nd at_ hnn⟩
 rw[Xox g nm d0 d1 (by omega) (by omega),jA,Xow _ nn at_ n0 (by rw[hln];exact n1) (by rw[hln];omega) (by omega)]
 rfl
theorem Xns (f:Fs_) (hT:X5 f) {dir nd old at_:Int} {nm nn:List UInt8} (p0:0≤dir) (p1:dir<(f.1.length:Int)) (t0:0≤nd) (t1:nd<(f.1.length:Int)) (hn4:nn.length≤4)
  (hA:Xq (Xc f.1 dir) nm=at_) (l0:0≤at_) (hO:Xq (Xc f.1 nd) nn=old) (o0:0≤old) (he:(old == at_)=false) (hz:decide (((Xc f.1 old).length:Int)>0)=false) (b:Bool) :
  ((Xau (Xad f nd nn old b) dir nm).bind fun r12=>(Xaq r12 nd nn at_).bind fun r13=>some ((0:Int),r13))=some (0,Xao (Xae (Xad f nd nn old b) dir nm) nd nn at_)∧
  (∃ v,Xa6 (Xad f nd nn old b) dir (atI (Xc (Xad f nd nn old b).1 dir) nm)=some (v,Xae (Xad f nd nn old b) dir nm))∧Xf0 (Xc (Xae (Xad f nd nn old b) dir nm).1 nd) (nn,at_,())=some (Yp9 (Xc (Xae (Xad f nd nn old b) dir nm).1 nd) nn at_)∧
  FsC (Xao (Xae (Xad f nd nn old b) dir nm) nd nn at_)∧(Xc (Xad f nd nn old b).1 dir).length≤6∧(Xad f nd nn old b).1.length=f.1.length:=by
 have ht:=Xa0.of hT;have hB:=FsB.ofT hT;have hq:=ht.at_ p0 p1;have hq2:=ht.at_ t0 t1;have hg:=Xki hB nd nn old b;have hln:=Xog f nd nn old b
 have hne:old.toNat≠dir.toNat:=fun e=>by
  have e1:Xc f.1 old=Xc f.1 dir:=by unfold Xc;rw[e]
  have e2:Xc f.1 dir=[]:=by
   rw[e1] at hz
   cases hd:Xc f.1 dir with
   |nil=>rfl
   |cons x l=>rw[hd] at hz;exact absurd hz (by simp)
  rw[e2] at hA;have:at_ = -1:=hA.symm;omega
 have hents:Xc (Xad f nd nn old b).1 dir=if dir=nd then Ygy (Xc f.1 nd) nn else Xc f.1 dir:=by
  rw[Xnr f nn b hne,Xod f nn t0 t1 p0]
 have hsub:∀ e∈Xc (Xad f nd nn old b).1 dir,e∈Xc f.1 dir:=fun e hm=>by
  rw[hents] at hm
  by_cases hd:dir=nd
  ·rw[jL hd] at hm;rw[hd];exact(List.mem_filter.1 hm).1
  ·rw[jM hd] at hm;exact hm
 have hnod:((Xc (Xad f nd nn old b).1 dir).map (·.1)).Nodup:=by
  rw[hents]
  by_cases hd:dir=nd
  ·rw[jL hd]
   have h1:((Xc f.1 nd).map (·.1)).Nodup:=Xgo.of hT.inod _ (getD_in t0 t1)
   exact List.Nodup.sublist (List.Sublist.map _ List.filter_sublist) h1
  ·rw[jM hd];exact Xgo.of hT.inod _ (getD_in p0 p1)
 have hlook:Xq (Xc (Xad f nd nn old b).1 dir) nm=at_:=by
  rw[hents]
  by_cases hd:dir=nd
  ·rw[jL hd]
   have hnn:nm≠nn:=fun e=>by
    rw[hd,e,hO] at hA;rw[hA] at he;simp at he
   rw[Xoi _ hnn,←hd];exact hA
  ·rw[jM hd];exact hA
 have hpos:decide (atI (Xc (Xad f nd nn old b).1 dir) nm≥0)=true:=by
  rw[Xce _ _ fun e hm=>(hq.2.2 e (hsub e hm)).2.1,hlook];exact jZ l0
 obtain⟨m1,m2,m3,m4⟩:=Xl7 hg (at_:=at_) (nm:=nm) p0 (by rw[hln];exact p1) t0 (by rw[hln];exact t1) hnod hpos hn4
 exact⟨m1,⟨_,m2⟩,m3,m4,(X9.at_ hg dir.toNat).ent,hln⟩
theorem FsC.ofB {f:Fs_} (h:FsB f):FsC f:=⟨h.l,fun x hx=>⟨(h.s x hx).blk,Nat.le_succ_of_le (h.s x hx).ent,(h.s x hx).nam⟩,h.d,h.dl⟩
theorem Xoh (f:Fs_) (hT:X5 f) (p t:List UInt8):∃ c g,Xhp f p t=some (Xa5 0 c 0 g)∧Xic f p t=some (c,g)∧FsC g:=by
 have ht:=Xa0.of hT;have hk:=Xlc.of hT.inod;have hB:=FsB.ofT hT;have hwalk:=Xlt ht p
 have e10:∀ c,X3 f c=some (Xa5 0 c 0 f):=fun c=>by simp only[X3,Xcb hB,jA,Xa5]
 simp only[Xhp,Xic,jA,Xov f ht,Xou f ht,e10,Xn0 f ht,Xn1 f ht,Xcb hB,Yuw hwalk.1 hwalk.2,Ywg]
 cases h1:((Xba f.1 p).2 != 0) with
 |true=>exact⟨_,_,rfl,rfl,FsC.ofB hB⟩
 |false=>
  simp only[Ywf]
  cases h2:((f.1.getD (Xba f.1 p).1.toNat Xa).1 == 2) with
  |true=>exact⟨_,_,rfl,rfl,FsC.ofB hB⟩
  |false=>
   simp only[Ywf]
   cases h3:((Xu f.1 t).2.2 != 0) with
   |true=>exact⟨_,_,rfl,rfl,FsC.ofB hB⟩
   |false=>
    obtain⟨p0,p1,p2,p3⟩:=Xch ht (by simpa using h3:(Xu f.1 t).2.2=0)
    have hs:=Xno hB (dir:=(Xu f.1 t).1) (a:=(Xba f.1 p).1) (Xgg p3).2.1;simp only[Ywf,Xqh f ht hk _ p0 p1 hwalk.1 hwalk.2,Xsr f ht _ p0 p1 hwalk.1 hwalk.2,jA];have hc:(Xit f (Xu f.1 t).1 (Xu f.1 t).2.1 (Xba f.1 p).1).1≠0→(Xit f (Xu f.1 t).1 (Xu f.1 t).2.1 (Xba f.1 p).1).2=f:=fun hne=>Xpi hne
    cases h4:((Xit f (Xu f.1 t).1 (Xu f.1 t).2.1 (Xba f.1 p).1).1 != 0) with
    |true=>
     simp only[Ywg,hc (by simpa using h4)]
     exact⟨_,_,rfl,rfl,FsC.ofB hB⟩
    |false=>
     have h5:(Xit f (Xu f.1 t).1 (Xu f.1 t).2.1 (Xba f.1 p).1).1=0:=by simpa using h4
     simp only[Ywf,h5];exact⟨_,_,rfl,rfl,FsC.ofB hs⟩
theorem Xnh (f:Fs_) (hT:X5 f) (p t:List UInt8):∃ c g,Xhr f p t=some (Xa5 0 c 0 g)∧Xid f p t=some (c,g)∧FsC g:=by
 have ht:=Xa0.of hT;have hB:=FsB.ofT hT
 have e10:∀ c,X3 f c=some (Xa5 0 c 0 f):=fun c=>by simp only[X3,Xcb hB,jA,Xa5]
 simp only[Xhr,Xid,jA,e10,Xn0 f ht,Xn1 f ht,Xcb hB]
 cases h1:((Xu f.1 p).2.2 != 0) with
 |true=>exact⟨_,_,rfl,rfl,FsC.ofB hB⟩
 |false=>
  obtain⟨p0,p1,p2,p3⟩:=Xch ht (by simpa using h1:(Xu f.1 p).2.2=0)
  generalize hP:Xu f.1 p=P at *;obtain⟨dir,nm,pc⟩:=P;simp only at p0 p1 p2 p3 h1;have hq:=ht.at_ p0 p1;have enD:(f.1.getD dir.toNat Xa).2.2.2.2.1=Xc f.1 dir:=rfl;simp only[Ywf,Yuw p0 p1,Ywg,enD,Xlf _ _ hq.1,Xle f dir nm p0 p1 hq.1,jA,Xiu _ nm fun e he=>(hq.2.2 e he).2.1]
  cases h2:decide (Xq (Xc f.1 dir) nm<0) with
  |true=>exact⟨_,_,rfl,rfl,FsC.ofB hB⟩
  |false=>
   have h2':decide (atI (Xc f.1 dir) nm<0)=false:=by rw[Xiu _ nm fun e he=>(hq.2.2 e he).2.1];exact h2
   obtain⟨a1,a2⟩:=Xnp h2';obtain⟨l0,l1⟩:=Xbs ht p0 p1 nm h2;generalize hA:Xq (Xc f.1 dir) nm=at_ at *;simp only[Ywf,a1,a2,Ywg,jA]
   cases h3:((Xu f.1 t).2.2 != 0) with
   |true=>exact⟨_,_,rfl,rfl,FsC.ofB hB⟩
   |false=>
    obtain⟨t0,t1,t2,t3⟩:=Xch ht (by simpa using h3:(Xu f.1 t).2.2=0)
    generalize hQ:Xu f.1 t=Q at *;obtain⟨nd,nn,qc⟩:=Q;simp only at t0 t1 t2 t3 h3;have hq2:=ht.at_ t0 t1;have hl:=ht.len;have enT:(f.1.getD nd.toNat Xa).2.2.2.2.1=Xc f.1 nd:=rfl;have hn4:nn.length≤4:=(Xgg t3).2.1
    have hnamD:((Xc f.1 dir).map (·.1)).Nodup:=Xgo.of hT.inod _ (getD_in p0 p1)
    have hposD:decide (atI (Xc f.1 dir) nm≥0)=true:=by
     rw[Xce _ _ fun e he=>(hq.2.2 e he).2.1,hA];exact jZ l0
    obtain⟨w,rr,w1,w2,w3⟩:=Xnl f hT l0 l1 t0 t1;obtain⟨bd,hd⟩:∃ b,((f.1.getD at_.toNat Xa).1 == 2)=b:=⟨_,rfl⟩
    have hdir0:Xc f.1 dir≠[]:=fun e=>by
     rw[e] at hA;have:at_ = -1:=hA.symm;omega
    simp only[Ywf,Yuw l0 l1,Ywg,enT,Yuw t0 t1,Xlf _ _ hq2.1,Xle f nd nn t0 t1 hq2.1,jA,w1,w2,w3,hd,Xce (Xc f.1 nd) nn fun e he=>(hq2.2.2 e he).2.1,Yvg]
    cases ho:decide (Xq (Xc f.1 nd) nn<0) with
    |true=>
     have ho':Xq (Xc f.1 nd) nn<0:=of_decide_eq_true ho
     have o1:decide (Xq (Xc f.1 nd) nn≥0)=false:=qA (by omega)
     have o2:(Xq (Xc f.1 nd) nn == at_)=false:=by simp;omega
     obtain⟨m1,m2,m3,m4⟩:=Xl7 hB (at_:=at_) (nm:=nm) p0 p1 t0 t1 hnamD hposD hn4;have m1':=m1;rw[hA] at m2;have hln:=Xbo f dir nm
     have h6:decide (((Xc f.1 nd).length:Int)≥6)=(((Xc f.1 nd).length:Int) == 6):=by
      have:=hq2.1;rw[Bool.eq_iff_iff];simp only[jI,beq_iff_eq];omega
     have enC:((Xae f dir nm).1.getD nd.toNat Xa).2.2.2.2.1=Xc (Xae f dir nm).1 nd:=rfl;have m2':Xa6 (f.1,f.2.1,f.2.2) dir (atI (Xc f.1 dir) nm)=some (at_,Xae f dir nm):=m2;simp only[o1,o2,Ywf,Ywg,ho,kQ,m2',m3,hln,hA,enC,enD,Yuw p0 p1,Yuw t0 t1,jA,m1,h6,Xlf _ _ hq.1,Yvg]
     cases bd with
     |true=>
      cases w with
      |true=>exact⟨_,_,rfl,rfl,FsC.ofB hB⟩
      |false=>
       simp only[Ywg,Ywf]
       cases (nd != dir)<;>cases ((Xc f.1 nd).length:Int) == 6<;>first | exact⟨_,_,rfl,rfl,m4⟩ | exact⟨_,_,rfl,rfl,FsC.ofB hB⟩
     |false=>
      simp only[Ywg,Ywf]
      cases (nd != dir)<;>cases ((Xc f.1 nd).length:Int) == 6<;>first | exact⟨_,_,rfl,rfl,m4⟩ | exact⟨_,_,rfl,rfl,FsC.ofB hB⟩
    |false=>
     have ho':¬ Xq (Xc f.1 nd) nn<0:=of_decide_eq_false ho
     have o1:decide (Xq (Xc f.1 nd) nn≥0)=true:=jZ (by omega)
     have o3:decide (atI (Xc f.1 nd) nn<0)=false:=by rw[Xiu _ nn fun e he=>(hq2.2.2 e he).2.1];exact ho
     obtain⟨b1,b2⟩:=Xnp o3;obtain⟨i0,i1⟩:=Xbs ht t0 t1 nn ho;have htake:=Xqk f hT nn t0 t1 ho;have hdrop:=Xqj f hT nn t0 t1 ho;generalize hO:Xq (Xc f.1 nd) nn=old at *;have enO:(f.1.getD old.toNat Xa).2.2.2.2.1=Xc f.1 old:=rfl;simp only[o1,ho,Ywf,Ywg,b1,b2,jA,Yuw i0 i1,Xhq,Yuw l0 l1,enO,hd,Yvg]
     have go:∀ b:Bool,(old == at_)=false→decide (((Xc f.1 old).length:Int)>0)=false→b=bd→((f.1.getD old.toNat Xa).1 == 2)=b→∃ r,
       ((Xbv (f.1,f.2.1,f.2.2) nd (atI (Xc f.1 nd) nn)).bind fun r14=>cond (inB dir r14.1.length) ((Xa8 (r14.1.getD dir.toNat Xa).2.2.2.2.1 nm).bind fun r15=>(Xa6 r14 dir r15).bind fun r16=>cond (inB nd r16.2.1.length) ((Xf0 (r16.2.1.getD nd.toNat Xa).2.2.2.2.1 (nn,at_,())).bind fun r17=>cond (inB nd r16.2.1.length) (some (((0:Int),(0:Int),(0:Int),([]:List Int),([]:List (List UInt8)),(r16.2.1.set nd.toNat ((r16.2.1.getD nd.toNat Xa).1,(r16.2.1.getD nd.toNat Xa).2.1,(r16.2.1.getD nd.toNat Xa).2.2.1,(r16.2.1.getD nd.toNat Xa).2.2.2.1,r17,(r16.2.1.getD nd.toNat Xa).2.2.2.2.2),r16.2.2.1,r16.2.2.2),()):Xo)) none) none) none)=some r∧
       ((Xcu f nd nn).bind fun r7=>cond bd (cond (inB old r7.1.length) ((Xau (r7.1.set old.toNat (0,0,0,[],[],()),r7.2) dir nm).bind fun r8=>(Xaq r8 nd nn at_).bind fun r9=>some ((0:Int),r9)) none) ((Xau r7 dir nm).bind fun r10=>(Xaq r10 nd nn at_).bind fun r11=>some ((0:Int),r11)))=some (0,r.2.2.2.2.2.1)∧r=Xa5 0 0 0 r.2.2.2.2.2.1∧FsC r.2.2.2.2.2.1:=by
      intro b he hz hb1 hb2;obtain⟨m1,⟨v,m2⟩,m3,m4,m5,m6⟩:=Xns f hT (at_:=at_) p0 p1 t0 t1 hn4 hA l0 hO i0 he hz b
      have htake':Xbv (f.1,f.2.1,f.2.2) nd (atI (Xc f.1 nd) nn)=some (Xad f nd nn old b):=by rw[←hb2];exact htake
      have enG:((Xad f nd nn old b).1.getD dir.toNat Xa).2.2.2.2.1=Xc (Xad f nd nn old b).1 dir:=rfl;have enC:((Xae (Xad f nd nn old b) dir nm).1.getD nd.toNat Xa).2.2.2.2.1=Xc (Xae (Xad f nd nn old b) dir nm).1 nd:=rfl;have hlc:=Xbo (Xad f nd nn old b) dir nm;refine⟨Xa5 0 0 0 (Xao (Xae (Xad f nd nn old b) dir nm) nd nn at_),?_,?_,rfl,m4⟩
      ·simp only[htake',jA,m6,Yuw p0 p1,Ywg,enG,Xlf _ _ m5,m2,hlc,Yuw t0 t1,enC,m3]
       rfl
      ·rw[hdrop]
       simp only[jA,Xjs,Xbo,Yuw i0 i1,Ywg];subst hb1
       cases b with
       |true=>exact m1
       |false=>exact m1
     clear hdrop htake
     have hn8:∀ x:Int,(x != 0)=false→x=0:=fun x h=>by simpa using h
     obtain⟨bo,hbo⟩:∃ b,((f.1.getD old.toNat Xa).1 == 2)=b:=⟨_,rfl⟩;simp only[hbo] at go ⊢
     cases he:(old == at_) with
     |true=>
      cases bd with
      |true=>cases w<;>exact⟨_,_,rfl,rfl,FsC.ofB hB⟩
      |false=>exact⟨_,_,rfl,rfl,FsC.ofB hB⟩
     |false=>
      simp only[Ywf]
      cases hz:decide (((Xc f.1 old).length:Int)>0) with
      |true=>
       cases bd with
       |true=>cases w<;>cases bo<;>exact⟨_,_,rfl,rfl,FsC.ofB hB⟩
       |false=>cases bo<;>exact⟨_,_,rfl,rfl,FsC.ofB hB⟩
      |false=>
       cases bd with
       |true=>
        cases w with
        |true=>exact⟨_,_,rfl,rfl,FsC.ofB hB⟩
        |false=>
         cases bo with
         |false=>exact⟨_,_,rfl,rfl,FsC.ofB hB⟩
         |true=>
          obtain⟨r,g1,g2,g3,g4⟩:=go true he hz rfl rfl;generalize r.2.2.2.2.2.1=fs at g2 g3 g4;subst g3;simp only[Ywg,Ywf] at g2;simp only[Ywg,Ywf,beq_self_eq_true,jK,jA,show((0:Int) != 0)=false from rfl,g1,g2]
          exact⟨_,_,rfl,rfl,g4⟩
       |false=>
        cases bo with
        |true=>exact⟨_,_,rfl,rfl,FsC.ofB hB⟩
        |false=>
         obtain⟨r,g1,g2,g3,g4⟩:=go false he hz rfl rfl;generalize r.2.2.2.2.2.1=fs at g2 g3 g4;subst g3;simp only[Ywg,Ywf] at g2;simp only[Ywg,Ywf,beq_self_eq_true,jK,jA,show((0:Int) != 0)=false from rfl,g1,g2];exact⟨_,_,rfl,rfl,g4⟩
def Xaz (l:List Xb):Int:=match Yoh (fun x:Xb=>x.1 == 0) 0 l with | some j=>(j:Int) | none=>cond (decide ((l.length:Int)<10)) (l.length:Int) (-1)
theorem Xsx (l:List Xb) (hl:l.length≤10):Xmk l=some (Xaz l):=by
 have h:Xk7 l 0=_:=Yv3 l (fun x=>x.1 == 0) (fun i hi=>by
  simp only[Xk7.B,Yw1 hi,Ywy hi,Ywg,toNat_cast,getD_lt _ hi,Ywd (by omega:i<4294967296)]) (by
  simp only[Xk7.B,Yww (jB _),Ywf]) 0 (kE _)
 simp only[Xmk,Xaz];rw[h,List.drop_zero]
 cases Yoh (fun x:Xb=>x.1 == 0) 0 l with
 |some j=>rfl
 |none=>cases decide ((l.length:Int)<10)<;>rfl
theorem Xoj (l:List Xb) (h:decide (Xaz l<0)=false):0≤Xaz l∧(Xaz l=(l.length:Int)∧l.length<10∨Xaz l<(l.length:Int)∧(l.getD (Xaz l).toNat Xa).1=0):=by
 unfold Xaz at *;have hx:=Xev (fun x:Xb=>x.1 == 0) Xa l 0
 cases hj:Yoh (fun x:Xb=>x.1 == 0) 0 l with
 |some j=>
  rw[hj] at hx;obtain⟨x1,-,x3⟩:=hx;rw[Nat.sub_zero] at x1 x3;have:=List.find?_some x1
  exact⟨by simp,.inr ⟨by simpa using x3,by simpa using this⟩⟩
 |none=>
  rw[hj] at h
  cases hl:decide ((l.length:Int)<10) with
  |true=>exact⟨by simp,.inl ⟨rfl,by simp at hl;omega⟩⟩
  |false=>rw[hl] at h;simp at h
theorem Xsy (l:List Xb) (hl:l.length≤10):Xh5 l=some (cond (decide (Xaz l<0)) (0,8) (Xaz l,0)):=by
 have h:Xfq l () (l.length:Int) 0=_:=Yv3 l (fun x=>x.1 == 0) (fun i hi=>by
  simp only[Xfq.B,Xj9,Yw1 hi,Ywy hi,Ywg,toNat_cast,getD_lt _ hi,jA,Ywd (by omega:i<4294967296)]) (by
  simp only[Xfq.B,Yww (jB _),Ywf]) 0 (kE _)
 have e0:Xaz l=(match Yoh (fun x:Xb=>x.1 == 0) 0 l with | some j=>(j:Int) | none=>cond (decide ((l.length:Int)<10)) (l.length:Int) (-1)):=rfl
 simp only[Xh5,Xfr];rw[h,List.drop_zero];rcases hx:Yoh (fun x:Xb=>x.1 == 0) 0 l with _ | j
 ·rw[hx] at e0
  by_cases h10:l.length=10
  ·have e2:Xaz l = -1:=by rw[e0,h10];rfl
   rw[e2,h10];rfl
  ·have e1:((l.length:Int) == 10)=false:=by rw[beq_eq_false_iff_ne];omega
   have e2:Xaz l=(l.length:Int):=by rw[e0,jZ (by omega:(l.length:Int)<10)];rfl
   rw[e2,qA (by omega:¬ (l.length:Int)<0)]
   simp only[jA,sel,e1,Ywf,Xa1];rfl
 ·rw[hx] at e0
  have e2:Xaz l=(j:Int):=e0
  rw[e2,qA (by omega:¬ (j:Int)<0)]
  simp only[jA,sel]
  rw[jZ (by omega:(j:Int)≥0)]
  rfl
def newF (f:Fs_) (a:Int) (x:Xb):Fs_:=cond (a == (f.1.length:Int)) (f.1++[x],f.2) (f.1.set a.toNat x,f.2)
structure Xl0 (f:Fs_) (a:Int):Prop where
 a0:0≤a
 le:a≤(f.1.length:Int)
 ten:(newF f a Xa).1.length≤10
theorem Xn8 {f:Fs_} {a:Int} (ha:a=(f.1.length:Int)∧f.1.length<10∨a<(f.1.length:Int)∧(f.1.getD a.toNat Xa).1=0) (e:(a == (f.1.length:Int))=false):a<(f.1.length:Int):=by
 rcases ha with ⟨e2,-⟩ | ⟨e2,-⟩
 ·rw[e2] at e;simp at e
 ·exact e2
theorem Xnf (f:Fs_) (a:Int) (x y:Xb):(newF f a x).1.length=(newF f a y).1.length:=by
 unfold newF
 cases a == (f.1.length:Int)<;>simp
theorem Xms {f:Fs_} {a:Int} (x:Xb) (h:Xl0 f a):a<((newF f a x).1.length:Int)∧f.1.length≤(newF f a x).1.length:=by
 have h0:=h.a0;have h1:=h.le;unfold newF
 cases e:a == (f.1.length:Int) with
 |true=>have:a=(f.1.length:Int):=by simpa using e
        simp only[Ywg,jP,jH,kD];omega
 |false=>have:a≠(f.1.length:Int):=by simpa using e
         simp only[Ywf,kC];omega
theorem Xpl {f:Fs_} {a:Int} (x:Xb) (h:Xl0 f a):(newF f a x).1.getD a.toNat Xa=x:=by
 have h0:=h.a0;have h1:=h.le;unfold newF
 cases e:a == (f.1.length:Int) with
 |true=>
  have e1:a.toNat=f.1.length:=by
    have:a=(f.1.length:Int):=by simpa using e
    omega
  rw[e1];simp[List.getD]
 |false=>
  have:a≠(f.1.length:Int):=by simpa using e
  exact Xaj (by omega)
theorem Xcg {f:Fs_} {a:Int} (x:Xb) {i:Nat} (hi:i<f.1.length) (h:a.toNat≠i):(newF f a x).1.getD i Xa=f.1.getD i Xa:=by
 unfold newF
 cases a == (f.1.length:Int) with
 |true=>show(f.1++[x]).getD i Xa=_;simp[List.getD,List.getElem?_append_left hi]
 |false=>exact getD_set_ne h
theorem Xo8 {f:Fs_} {a:Int} (x y:Xb) (h:Xl0 f a):(newF f a x).1.set a.toNat y=(newF f a y).1:=by
 have h0:=h.a0;unfold newF
 cases e:a == (f.1.length:Int) with
 |true=>
  have e1:a.toNat=f.1.length:=by
    have:a=(f.1.length:Int):=by simpa using e
    omega
  rw[e1];simp[List.set_append]
 |false=>simp
theorem Xcf {f:Fs_} {a:Int} {x y:Xb} (h:y∈(newF f a x).1):y∈f.1∨y=x:=by
 unfold newF at h
 cases e:a == (f.1.length:Int) with
 |true=>rw[e] at h;simpa using h
 |false=>rw[e] at h;exact List.mem_or_eq_of_mem_set h
theorem Xln {f:Fs_} (hB:FsB f) {a:Int} {x:Xb} (h:Xl0 f a) (hx:X9 x):FsB (newF f a x):=by
 refine⟨by rw[Xnf f a x Xa];exact h.ten,fun y hy=>?_,?_,?_⟩
 ·rcases Xcf hy with hy | rfl
  ·exact hB.s y hy
  ·exact hx
 ·unfold newF;cases a == (f.1.length:Int)<;>exact hB.d
 ·unfold newF;cases a == (f.1.length:Int)<;>exact hB.dl
theorem Xpm {f:Fs_} (ht:Xa0 f.1) {a:Int} {x:Xb} (h:Xl0 f a) (hx:x.2.2.2.2.1=[]):Xa0 (newF f a x).1:=by
 have hlt:=Xms x h
 refine⟨by rw[Xnf f a x Xa];exact h.ten,by have:=ht.pos;omega,fun y hy=>?_,fun y hy e=>?_,fun y hy e he=>?_,fun y hy e he=>?_⟩
 ·rcases Xcf hy with hy | rfl
  ·exact ht.six y hy
  ·rw[hx];simp
 ·rcases Xcf hy with hy | rfl
  ·exact ht.fil y hy e
  ·exact hx
 ·rcases Xcf hy with hy | rfl
  ·exact ht.nam y hy e he
  ·rw[hx] at he;cases he
 ·rcases Xcf hy with hy | rfl
  ·have:=ht.ent y hy e he;exact⟨this.1,by omega⟩
  ·rw[hx] at he;cases he
theorem Xo7 {f:Fs_} (hk:Xlc f.1) {a:Int} {x:Xb} (hx:x.2.1=0):Xlc (newF f a x).1:=by
 refine⟨fun y hy=>?_,fun y hy e=>?_⟩
 ·rcases Xcf hy with hy | rfl
  ·exact hk.top y hy
  ·rw[hx];omega
 ·rcases Xcf hy with hy | rfl
  ·exact hk.fil y hy e
  ·exact hx
def Xix (isDir:Bool):Xb:=cond isDir (2,0,0,[],[],()) (1,1,0,[],[],())
theorem Xl6 (f:Fs_) (hT:X5 f) (p:List UInt8) (isDir:Bool):∃ a c g,Xk8 f p (cond isDir 2 1)=some (Xa5 0 c a g)∧Xg6 f p isDir=some (a,c,g)∧FsC g:=by
 have ht:=Xa0.of hT;have hk:=Xlc.of hT.inod;have hB:=FsB.ofT hT;have hl:=ht.len
 have e10:∀ c,X3 f c=some (Xa5 0 c 0 f):=fun c=>by simp only[X3,Xcb hB,jA,Xa5]
 simp only[Xk8,Xg6,jA,e10,Xn0 f ht,Xn1 f ht,Xcb hB]
 cases h1:((Xu f.1 p).2.2 != 0) with
 |true=>exact⟨_,_,_,rfl,rfl,FsC.ofB hB⟩
 |false=>
  obtain⟨p0,p1,p2,p3⟩:=Xch ht (by simpa using h1:(Xu f.1 p).2.2=0)
  generalize Xu f.1 p=P at *;obtain⟨dir,nm,pc⟩:=P;simp only at p0 p1 p2 p3 h1;have hq:=ht.at_ p0 p1;have hn4:nm.length≤4:=(Xgg p3).2.1;have enD:(f.1.getD dir.toNat Xa).2.2.2.2.1=Xc f.1 dir:=rfl
  have h6:decide (((Xc f.1 dir).length:Int)≥6)=(((Xc f.1 dir).length:Int) == 6):=by
   have:=hq.1;rw[Bool.eq_iff_iff];simp only[jI,beq_iff_eq];omega
  simp only[Ywf,Yuw p0 p1,Ywg,enD,Xlf _ _ hq.1,Xle f dir nm p0 p1 hq.1,jA,Xce _ nm fun e he=>(hq.2.2 e he).2.1,h6,Xsx f.1 hl,Xsy f.1 hl]
  cases h2:decide (Xq (Xc f.1 dir) nm≥0) with
  |true=>exact⟨_,_,_,rfl,rfl,FsC.ofB hB⟩
  |false=>
   simp only[Ywf]
   cases h3:(((Xc f.1 dir).length:Int) == 6) with
   |true=>exact⟨_,_,_,rfl,rfl,FsC.ofB hB⟩
   |false=>
    simp only[Ywf]
    cases h4:decide (Xaz f.1<0) with
    |true=>exact⟨_,_,_,rfl,rfl,FsC.ofB hB⟩
    |false=>
     obtain⟨a0,ha⟩:=Xoj f.1 h4;generalize Xaz f.1=a at *
     have hN:Xl0 f a:=by
      refine⟨a0,by omega,?_⟩
      unfold newF
      cases e:a == (f.1.length:Int) with
      |true=>
       have:a=(f.1.length:Int):=by simpa using e
       simp only[Ywg,jP,jH,kD];omega
      |false=>simp only[Ywf,kC];omega
     have hne:a.toNat≠dir.toNat:=by
      rcases ha with ⟨e,-⟩ | ⟨-,e⟩
      ·omega
      ·intro e2;rw[e2,p2] at e;cases e
     have spec:Xg0 (newF f a (cond isDir 2 1,0,0,[],[],())) dir nm a=some (0,Xao (newF f a (Xix isDir)) dir nm a):=by
      have hlt:=Xms (cond isDir 2 1,0,0,[],[],()) hN;have ht2:=Xpm ht hN (x:=(cond isDir 2 1,0,0,[],[],())) rfl
      have hents:Xc (newF f a (cond isDir 2 1,0,0,[],[],())).1 dir=Xc f.1 dir:=by unfold Xc;rw[Xcg _ (by omega) hne]
      have hat:=Xpl (cond isDir 2 1,0,0,[],[],()) hN
      rw[Xqh _ ht2 (Xo7 hk rfl) nm p0 (by omega) a0 hlt.1]
      have hpk:=Xju (newF f a (cond isDir 2 1,0,0,[],[],())) dir nm a a.toNat
      have hpat:(Xao (newF f a (cond isDir 2 1,0,0,[],[],())) dir nm a).1.getD a.toNat Xa=(cond isDir 2 1,0,0,[],[],()):=by
       show((newF f a (cond isDir 2 1,0,0,[],[],())).1.set dir.toNat _).getD a.toNat Xa=_;rw[getD_set_ne (Ne.symm hne),hat]
      unfold Xit;rw[hents,h2,hat,h3]
      cases isDir with
      |true=>
       show some ((0:Int),Xao (newF f a (2,0,0,[],[],())) dir nm a)=_
       rfl
      |false=>
       show some ((0:Int),(((Xao (newF f a (1,0,0,[],[],())) dir nm a).1.set a.toNat (Xl1 ((Xao (newF f a (1,0,0,[],[],())) dir nm a).1.getD a.toNat Xa)),(Xao (newF f a (1,0,0,[],[],())) dir nm a).2):Fs_))=some (0,Xao (newF f a (1,1,0,[],[],())) dir nm a);have hpat':(Xao (newF f a (1,0,0,[],[],())) dir nm a).1.getD a.toNat Xa=(1,0,0,[],[],()):=hpat;rw[hpat']
       have e1:(Xao (newF f a (1,0,0,[],[],())) dir nm a).1.set a.toNat (Xl1 (1,0,0,[],[],()))=(Xao (newF f a (1,1,0,[],[],())) dir nm a).1:=by
        show((newF f a (1,0,0,[],[],())).1.set dir.toNat _).set a.toNat (1,1,0,[],[],())=(newF f a (1,1,0,[],[],())).1.set dir.toNat _;rw[List.set_comm _ _ (Ne.symm hne),Xo8 _ _ hN]
        congr 2
        ·rw[Xcg _ (by omega) hne,Xcg _ (by omega) hne]
        ·unfold Xc;rw[Xcg _ (by omega) hne,Xcg _ (by omega) hne]
       have e2:(Xao (newF f a (1,0,0,[],[],())) dir nm a).2=(Xao (newF f a (1,1,0,[],[],())) dir nm a).2:=by
        unfold Xao newF
        cases a == (f.1.length:Int)<;>rfl
       rw[e1,e2]
     have hltI:=Xms (Xix isDir) hN
     have hI:Xaq (newF f a (Xix isDir)) dir nm a=some (Xao (newF f a (Xix isDir)) dir nm a):=by
      have hb:=Xln hB hN (x:=Xix isDir) (by cases isDir<;>exact⟨by decide,by decide,fun e he=>by cases he⟩)
      have he:(Xc (newF f a (Xix isDir)).1 dir).length≤6:=(X9.at_ hb dir.toNat).ent
      exact Xow _ nm a p0 (by omega) (by have:=hb.l;omega) (by omega)
     have hC:FsC (Xao (newF f a (Xix isDir)) dir nm a):=Xkk (Xln hB hN (x:=Xix isDir) (by cases isDir<;>exact⟨by decide,by decide,fun e he=>by cases he⟩)) dir a hn4
     refine⟨a,0,Xao (newF f a (Xix isDir)) dir nm a,?_,?_,hC⟩
     ·simp only[Ywf]
      unfold newF at spec
      cases e:a == (f.1.length:Int) with
      |true=>
       have e1:a.toNat=f.1.length:=by
         have:a=(f.1.length:Int):=by simpa using e
         omega
       rw[e] at spec
       have hin:inB a (f.1.length+1)=true:=Yuw a0 (by omega)
       simp only[Ywg,jP,jH,kD,jJ,hin,jA]
       rw[jZ (by omega:f.1.length+1≤2147483648)]
       have es:(f.1++[((0:Int),(0:Int),(0:Int),([]:List Int),([]:List Xg),())]).set a.toNat (cond isDir 2 1,0,0,[],[],())=f.1++[(cond isDir 2 1,0,0,[],[],())]:=by rw[e1];simp[List.set_append]
       simp only[Ywg,es];have spec':Xg0 (f.1++[(cond isDir 2 1,0,0,[],[],())],f.2.1,f.2.2) dir nm a=_:=spec;rw[spec'];show some (Xa5 0 0 a (Xao _ dir nm a))=some (Xa5 0 0 a (Xao _ dir nm a));unfold newF
       rw[e]
      |false=>
       rw[e] at spec;have hin:inB a f.1.length=true:=Yuw a0 (Xn8 ha e);simp only[Ywf,hin,Ywg];have spec':Xg0 (f.1.set a.toNat (cond isDir 2 1,0,0,[],[],()),f.2.1,f.2.2) dir nm a=_:=spec;rw[spec'];show some (Xa5 0 0 a (Xao _ dir nm a))=some (Xa5 0 0 a (Xao _ dir nm a));unfold newF;rw[e]
     ·have hI':=hI
      unfold newF at hI';simp only[Ywf,Xa1,jA,show((0:Int) != 0)=false from rfl]
      cases e:a == (f.1.length:Int) with
      |true=>
       rw[e] at hI'
       rw[jZ (by simp;omega:(f.1++[((2:Int),(0:Int),(0:Int),([]:List Int),([]:List Xg),())]).length≤2147483648),jZ (by simp;omega:(f.1++[((1:Int),(1:Int),(0:Int),([]:List Int),([]:List Xg),())]).length≤2147483648)]
       unfold newF;rw[e]
       cases isDir with
       |true=>simp only[Ywg];exact congrArg (fun o=>Option.bind o fun r5=>some (a,0,r5)) hI'
       |false=>simp only[Ywg,Ywf];exact congrArg (fun o=>Option.bind o fun r5=>some (a,0,r5)) hI'
      |false=>
       rw[e] at hI';have hin:inB a f.1.length=true:=Yuw a0 (Xn8 ha e);unfold newF;rw[e]
       cases isDir with
       |true=>simp only[Ywg,Ywf,hin];exact congrArg (fun o=>Option.bind o fun r5=>some (a,0,r5)) hI'
       |false=>simp only[Ywg,Ywf,hin];exact congrArg (fun o=>Option.bind o fun r5=>some (a,0,r5)) hI'
theorem Xsz (f:Fs_) (hT:X5 f) (c:Xap):∃ r g,Xg3 f c=some (Xa5 0 r 0 g)∧FsC g∧(c.1=6→Xh9 f c.2.1=some (r,g))∧(c.1=7→Xia f c.2.1=some (r,g)):=by
 have ht:=Xa0.of hT;have hB:=FsB.ofT hT;have hl:=ht.len
 have e10:∀ c,X3 f c=some (Xa5 0 c 0 f):=fun c=>by simp only[X3,Xcb hB,jA,Xa5]
 simp only[Xg3,Xh9,Xia,jA,e10,Xn0 f ht,Xn1 f ht,Xcb hB]
 cases h1:((Xu f.1 c.2.1).2.2 != 0) with
 |true=>exact⟨_,_,rfl,FsC.ofB hB,fun _=>rfl,fun _=>rfl⟩
 |false=>
  obtain⟨p0,p1,p2,p3⟩:=Xch ht (by simpa using h1:(Xu f.1 c.2.1).2.2=0)
  generalize Xu f.1 c.2.1=P at *;obtain⟨dir,nm,pc⟩:=P;simp only at p0 p1 p2 p3 h1;have hq:=ht.at_ p0 p1;have enD:(f.1.getD dir.toNat Xa).2.2.2.2.1=Xc f.1 dir:=rfl;simp only[Ywf,Yuw p0 p1,Ywg,enD,Xlf _ _ hq.1,Xle f dir nm p0 p1 hq.1,jA,Xiu _ nm fun e he=>(hq.2.2 e he).2.1]
  cases h2:decide (Xq (Xc f.1 dir) nm<0) with
  |true=>exact⟨_,_,rfl,FsC.ofB hB,fun _=>rfl,fun _=>rfl⟩
  |false=>
   have h2':decide (atI (Xc f.1 dir) nm<0)=false:=by rw[Xiu _ nm fun e he=>(hq.2.2 e he).2.1];exact h2
   obtain⟨a1,a2⟩:=Xnp h2';obtain⟨l0,l1⟩:=Xbs ht p0 p1 nm h2;have htake:=Xqk f hT nm p0 p1 h2;have hdrop:=Xqj f hT nm p0 p1 h2
   have hcut:=Xox f nm p0 p1 (by omega) (by have:=hq.1;omega)
   have hln:=Xbo f dir nm;have hkind:=Xl3 f (dir:=dir) nm (Xq (Xc f.1 dir) nm).toNat;have hGC:=fun b=>FsC.ofB (Xki hB dir nm (Xq (Xc f.1 dir) nm) b);have hdirE:=X8 ((Xw hT.inod).2 _ (getD_in l0 l1));generalize Xq (Xc f.1 dir) nm=at_ at *;have enA:(f.1.getD at_.toNat Xa).2.2.2.2.1=Xc f.1 at_:=rfl;simp only[Ywf,a1,a2,Ywg,jA,Yuw l0 l1,enA];have htake':Xbv (f.1,f.2.1,f.2.2) dir (atI (Xc f.1 dir) nm)=_:=htake;have hfile:(f.1.getD at_.toNat Xa).1≠2→Xc f.1 at_=[]:=hdirE.2.2.1
   by_cases k6:c.1=6
   ·rw[k6]
    simp only[show((6:Int) == 6)=true from rfl,show((6:Int) == 7)=false from rfl,Ywg,Ywf]
    cases hk:((f.1.getD at_.toNat Xa).1 == 2) with
    |true=>exact⟨_,_,rfl,FsC.ofB hB,fun _=>rfl,fun e=>by cases e⟩
    |false=>
     have he:Xc f.1 at_=[]:=hfile (by simpa using hk)
     rw[hk] at htake';simp only[Ywf,he,kD,show decide (((0:Nat):Int)>0)=false from rfl,htake',jA,hdrop]
     exact⟨0,Xad f dir nm at_ false,rfl,hGC false,fun _=>rfl,fun e=>by cases e⟩
   ·have h6:(c.1 == 6)=false:=by simpa using k6
    simp only[h6,Ywf]
    by_cases k7:c.1=7
    ·rw[k7]
     simp only[show((7:Int) == 7)=true from rfl,Ywg]
     cases hk:((f.1.getD at_.toNat Xa).1 == 2) with
     |false=>
      have hk':((f.1.getD at_.toNat Xa).1 != 2)=true:=by simp only[bne,hk];rfl
      simp only[hk',Ywg]
      exact⟨_,_,rfl,FsC.ofB hB,fun e=>(by cases e),fun _=>rfl⟩
     |true=>
      have hk':((f.1.getD at_.toNat Xa).1 != 2)=false:=by simp only[bne,hk];rfl
      simp only[hk',Ywf]
      cases hz:decide (((Xc f.1 at_).length:Int)>0) with
      |true=>exact⟨_,_,rfl,FsC.ofB hB,fun e=>(by cases e),fun _=>rfl⟩
      |false=>
       rw[hk] at htake'
       have hless:Xaw (Xae f dir nm) at_=Xae f dir nm:=by
        unfold Xaw;rw[hkind.1]
        have:((f.1.getD at_.toNat Xa).1 != 1)=true:=by
         have:(f.1.getD at_.toNat Xa).1=2:=by simpa using hk
         rw[this];rfl
        rw[this];rfl
       have hg:Xad f dir nm at_ true=((Xae f dir nm).1.set at_.toNat (0,0,0,[],[],()),(Xae f dir nm).2):=by
        show((Xaw (Xae f dir nm) at_).1.set at_.toNat _,(Xaw (Xae f dir nm) at_).2)=_;rw[hless]
       simp only[Ywf,htake',jA,hcut,hln,Yuw l0 l1,Ywg]
       exact⟨0,Xad f dir nm at_ true,rfl,hGC true,fun e=>(by cases e),fun _=>by rw[hg]⟩
    ·have h7:(c.1 == 7)=false:=by simpa using k7
     simp only[h7,Ywf]
     cases hz:decide (((Xc f.1 at_).length:Int)>0) with
     |true=>exact⟨_,_,rfl,FsC.ofB hB,fun e=>absurd e k6,fun e=>absurd e k7⟩
     |false=>
      simp only[Ywf,htake',jA];exact⟨_,_,rfl,hGC _,fun e=>absurd e k6,fun e=>absurd e k7⟩
theorem Xlu {f:Fs_} (hT:X5 f):∀ (ns:List (List UInt8)) (a:Int),0≤a∧a<(f.1.length:Int)→(f.1.getD a.toNat Xa).1≠0→(Xay f.1 ns a).2=0→(f.1.getD (Xay f.1 ns a).1.toNat Xa).1≠0
 |[],a,ha,hk,_=>hk
 |n::ns,a,ha,hk,h=>by
  have ht:=Xa0.of hT;simp only[Xay] at h ⊢
  cases h1:((f.1.getD a.toNat Xa).1 != 2) with
  |true=>rw[h1] at h;cases h
  |false=>
   cases h2:decide (Xq (Xc f.1 a) n<0) with
   |true=>rw[h1,h2] at h;cases h
   |false=>
    rw[h1,h2] at h;have hin:=Xbs ht ha.1 ha.2 n h2;refine Xlu hT ns _ hin ?_ h;have hm:=getD_in ha.1 ha.2;unfold Xq at h2 ⊢
    cases hf:(Xc f.1 a).find? (fun e=>e.1 == n) with
    |none=>rw[hf] at h2;simp at h2
    |some e=>exact(hT.ent _ hm e (List.mem_of_find?_eq_some hf)).2.2
theorem Xnz {f:Fs_} (hT:X5 f) {p:List UInt8} (h:(Xba f.1 p).2=0):(f.1.getD (Xba f.1 p).1.toNat Xa).1≠0:=by
 have hp:=hT.pos;unfold Xba at *
 cases hc:((Xr p).2 != 0) with
 |true=>rw[hc] at h;exact absurd h (by simpa using hc)
 |false=>
  rw[hc] at h
  exact Xlu hT _ 0 ⟨Int.le_refl _,by omega⟩ (by rw[show(0:Int).toNat=0 from rfl,hT.root];decide) h
def Xgh (es:List Xg):List (List UInt8):=es.map fun e=>e.1
theorem Xs0 (f:Fs_) {a:Int} (a0:0≤a) (a1:a<(f.1.length:Int)) (h6:(Xc f.1 a).length≤6):Xie f a=some (Xgh (Xc f.1 a)):=by
 have en:(f.1.getD a.toNat Xa).2.2.2.2.1=Xc f.1 a:=rfl
 have h:Xd6 (Xc f.1 a) ((Xc f.1 a).length:Int) (0,[])=_:=Yvi (Xc f.1 a) (f:=fun s=>Xd6.B (Xc f.1 a) ((Xc f.1 a).length:Int) s.1 s.2) (fun e=>e.1) id 0 (fun i hi t ht=>by
  simp only[Xd6.B,Yw1 hi,Ywy hi,Ywg,toNat_cast,getD_lt _ hi,Ywd (by omega:i<4294967296)]
  rw[jZ (by simp;omega:(t++[(Xc f.1 a)[i].1]).length≤2147483648)];rfl) (fun t ht=>by
  simp only[Xd6.B,Yww (jB _),Ywf,id]) [] rfl
 simp only[Xie,Yuw a0 a1,Ywg,en,jA,h];rfl
def Xt (f:Fs_) (a:Int):List Int:=(f.1.getD a.toNat Xa).2.2.2.1.flatMap fun b=>f.2.1.getD b.toNat []
theorem Xjq {α β:Type} (g:α→List β):∀ (l:List α) (t:List β),l.foldl (fun t b=>t++g b) t=t++l.flatMap g
 |[],t=>by simp
 |b::l,t=>by simp[Xjq g l]
theorem Xmn {f:Fs_} (h:FsB f) (i:Nat):(f.2.1.getD i []).length≤64:=by
 by_cases hi:i<f.2.1.length
 ·rw[getD_lt _ hi];exact h.dl _ (jE hi)
 ·rw[show f.2.1.getD i []=[] by simp[List.getD,List.getElem?_eq_none (by omega:f.2.1.length≤i)]];simp
theorem Xoy (f:Fs_) (hB:FsB f) (h:Xah f) {a:Int} (a0:0≤a) (a1:a<(f.1.length:Int)):Xhh f a=some (Xt f a):=by
 have hl:=h.len a.toNat;have hb:=h.blk a.toNat
 have h1:Xjn f (f.1.getD a.toNat Xa) (0,[])=_:=Yon (f.1.getD a.toNat Xa).2.2.2.1 (f:=fun s=>Xjn.B f (f.1.getD a.toNat Xa) s.1 s.2) (fun t b=>t++f.2.1.getD b.toNat []) id (fun i t=>t.length≤64*i) (fun i hi t ht=>by
  have hbi:=hb _ (jE hi);have hd:=Xmn hB ((f.1.getD a.toNat Xa).2.2.2.1[i]).toNat
  refine⟨?_,by simp only[jP];omega⟩
  simp only[Xjn.B,Yw1 hi,Ywy hi,Ywg,toNat_cast,getD_lt _ hi,Yuw hbi.1 (by rw[h.dat];omega:_<(f.2.1.length:Int)),jA,Ywd (by omega:i<4294967296)]
  rw[jZ (by simp only[jP];omega:(t++f.2.1.getD ((f.1.getD a.toNat Xa).2.2.2.1[i]).toNat []).length≤2147483648)];rfl) (fun t ht=>by
  simp only[Xjn.B,Yww (jB _),Ywf,id]) [] (by simp)
 simp only[Xhh,Yuw a0 a1,Ywg];rw[h1,Xjq];rfl
theorem Xoz (f:Fs_) (hB:FsB f) (h:Xah f) {a:Int} (a0:0≤a) (a1:a<(f.1.length:Int)):Xb8 f a=some (Xt f a):=by
 have hl:=h.len a.toNat;have hb:=h.blk a.toNat
 have h1:Xd1 f (f.1.getD a.toNat Xa).2.2.2.1 ((f.1.getD a.toNat Xa).2.2.2.1.length:Int) (0,[])=_:=Yon (f.1.getD a.toNat Xa).2.2.2.1 (f:=fun s=>Xd1.B f (f.1.getD a.toNat Xa).2.2.2.1 ((f.1.getD a.toNat Xa).2.2.2.1.length:Int) s.1 s.2) (fun t b=>t++f.2.1.getD b.toNat []) id (fun i t=>t.length≤64*i) (fun i hi t ht=>by
  have hbi:=hb _ (jE hi);have hd:=Xmn hB ((f.1.getD a.toNat Xa).2.2.2.1[i]).toNat
  refine⟨?_,by simp only[jP];omega⟩
  simp only[Xd1.B,Yw1 hi,Ywy hi,Ywg,toNat_cast,getD_lt _ hi,Yuw hbi.1 (by rw[h.dat];omega:_<(f.2.1.length:Int)),jA,Ywd (by omega:i<4294967296)]
  rw[jZ (by simp only[jP];omega:(t++f.2.1.getD ((f.1.getD a.toNat Xa).2.2.2.1[i]).toNat []).length≤2147483648)];rfl) (fun t ht=>by
  simp only[Xd1.B,Yww (jB _),Ywf,id]) [] (by simp)
 simp only[Xb8,Yuw a0 a1,Ywg,jA];rw[h1,Xjq];rfl
theorem Xhi {f:Fs_} (hB:FsB f) (h:Xah f) (a:Int):(Xt f a).length≤256:=by
 have h1:=Xkh (fun b:Int=>f.2.1.getD b.toNat []) 64 (f.1.getD a.toNat Xa).2.2.2.1 fun b _=>Xmn hB _;have h2:=h.len a.toNat;unfold Xt;have:(f.1.getD a.toNat Xa).2.2.2.1.length*64≤4*64:=jR _ h2;omega
theorem Xkf (xs:List Int) (h:xs.length≤2147483648):Xby xs=some xs:=by
 simp only[Xby,Yq8,jZ h,Ywg]
def Xlp (f:Fs_) (a from_ n:Int):List Int×Int:=
 cond (!inR from_ 0 1000) ([],3) (cond (!inR n 0 100) ([],3) (((Xt f a).drop (min from_.toNat (Xt f a).length)).take (min (Xt f a).length (min from_.toNat (Xt f a).length+n.toNat)-min from_.toNat (Xt f a).length),0))
theorem Xs1 (f:Fs_) (hB:FsB f) (h:Xah f) {a:Int} (a0:0≤a) (a1:a<(f.1.length:Int)) (from_ n:Int):Xh6 f a from_ n=some (Xlp f a from_ n):=by
 simp only[Xh6,Xgb,jA,Xlp]
 cases h1:inR from_ 0 1000 with
 |false=>rfl
 |true=>
  cases h2:inR n 0 100 with
  |false=>rfl
  |true=>
   have q1:=Xz.1 h1;have q2:=Xz.1 h2;have hlen:=Xhi hB h a;simp only[jK,Ywf,Xoz f hB h a0 a1,Xaa,jA];generalize Xt f a=bs at *
   have e1:cond (decide ((bs.length:Int)<from_)) (bs.length:Int) from_=((min from_.toNat bs.length:Nat):Int):=by
    by_cases hlt:(bs.length:Int)<from_
    ·rw[jZ hlt];simp only[Ywg];omega
    ·rw[qA hlt];simp only[Ywf];omega
   have e2:w64 (((min from_.toNat bs.length:Nat):Int)+n)=((min from_.toNat bs.length+n.toNat:Nat):Int):=by rw[Yss (by omega) (by omega)];omega
   have e3:cond (decide ((bs.length:Int)<((min from_.toNat bs.length+n.toNat:Nat):Int))) (bs.length:Int) ((min from_.toNat bs.length+n.toNat:Nat):Int)=((min bs.length (min from_.toNat bs.length+n.toNat):Nat):Int):=by
    by_cases hlt:(bs.length:Int)<((min from_.toNat bs.length+n.toNat:Nat):Int)
    ·rw[jZ hlt];simp only[Ywg];omega
    ·rw[qA hlt];simp only[Ywf];omega
   simp only[e1,e2,e3,toNat_cast]
   rw[show(decide ((0:Int)≤((min bs.length (min from_.toNat bs.length+n.toNat):Nat):Int))&&decide (((min bs.length (min from_.toNat bs.length+n.toNat):Nat):Int)≤(bs.length:Int))&&(decide ((0:Int)≤((min from_.toNat bs.length:Nat):Int))&&decide (((min from_.toNat bs.length:Nat):Int)≤((min bs.length (min from_.toNat bs.length+n.toNat):Nat):Int))))=true by
    simp only[jC,jI];omega]
   simp only[Ywg]
   rw[Xkf _ (by simp;omega)]
   rfl
theorem Xql (f:Fs_) (hb:Bd Xh f) (h0:fsF f=0) (hB:FsB f) (h:Xah f) {a:Int} (a0:0≤a) (a1:a<(f.1.length:Int)) (hk0:(f.1.getD a.toNat Xa).1≠0) (hk2:((f.1.getD a.toNat Xa).1 == 2)=false):Xk9 f a=some (0,Xt f a,()):=by
 have hl:=hB.l
 have e1:w64 ((f.1.length:Int)-1)=(f.1.length:Int)-1:=Yss (by omega) (by omega)
 have e2:inR a 0 ((f.1.length:Int)-1)=true:=Xz.2 ⟨a0,by omega⟩
 have e3:((f.1.getD a.toNat Xa).1 == 0)=false:=by simpa using hk0
 simp only[Xk9,Xos f hb,h0,jA,Xgz,Xeq,e1,e2,e3,hk2,show((0:Int) != 0)=false from rfl,Ywf,jK,Yuw a0 a1,Ywg,Xoy f hB h a0 a1]
theorem Xs2 (f:Fs_) (hb:Bd Xh f) (h0:fsF f=0) (hB:FsB f) (h:Xah f) {a:Int} (a0:0≤a) (a1:a<(f.1.length:Int)) (hk0:(f.1.getD a.toNat Xa).1≠0) (hk2:((f.1.getD a.toNat Xa).1 == 2)=false) (from_ n:Int) :
  Xml f a from_ n=some ((Xlp f a from_ n).2,(Xlp f a from_ n).1,()):=by
 simp only[Xml,Xql f hb h0 hB h a0 a1 hk0 hk2,jA,Xeq,show((0:Int) != 0)=false from rfl,Ywf,Xlp]
 cases h1:inR from_ 0 1000 with
 |false=>rfl
 |true=>
  cases h2:inR n 0 100 with
  |false=>rfl
  |true=>
   have q1:=Xz.1 h1;have q2:=Xz.1 h2;have hlen:=Xhi hB h a;simp only[jK,Ywf];generalize Xt f a=bs at *
   have e1:Xck from_ (bs.length:Int)=some ((min from_.toNat bs.length:Nat):Int):=by
    unfold Xck
    by_cases hlt:from_<(bs.length:Int)
    ·rw[jZ hlt];simp only[Ywg];congr 1;omega
    ·rw[qA hlt];simp only[Ywf];congr 1;omega
   have e2:w64 (((min from_.toNat bs.length:Nat):Int)+n)=((min from_.toNat bs.length+n.toNat:Nat):Int):=by rw[Yss (by omega) (by omega)];omega
   have e3:Xck (bs.length:Int) ((min from_.toNat bs.length+n.toNat:Nat):Int)=some ((min bs.length (min from_.toNat bs.length+n.toNat):Nat):Int):=by
    unfold Xck
    by_cases hlt:(bs.length:Int)<((min from_.toNat bs.length+n.toNat:Nat):Int)
    ·rw[jZ hlt];simp only[Ywg];congr 1;omega
    ·rw[qA hlt];simp only[Ywf];congr 1;omega
   simp only[e1,e2,e3,jA,toNat_cast,jO]
   rw[show(decide ((0:Int)≤((min bs.length (min from_.toNat bs.length+n.toNat):Nat):Int))&&decide (((min bs.length (min from_.toNat bs.length+n.toNat):Nat):Int)≤(bs.length:Int))&&(decide ((0:Int)≤((min from_.toNat bs.length:Nat):Int))&&decide (((min from_.toNat bs.length:Nat):Int)≤((min bs.length (min from_.toNat bs.length+n.toNat):Nat):Int))))=true by
    simp only[jC,jI];omega]
   simp only[Ywg]
   rw[jZ (by simp;omega)]
   rfl
theorem Xpc {f:Fs_} (hB:FsB f) (h:Xah f) (a from_ n:Int):(Xlp f a from_ n).1.length≤256:=by
 have:=Xhi hB h a;unfold Xlp
 cases inR from_ 0 1000<;>cases inR n 0 100<;>simp<;>omega
def Xbc (xs:List Int) (n:Nat):List Int:=xs++List.replicate (n-xs.length) 0
theorem Xlo {f:List Int→Option (List Int⊕List Int)} (n:Nat) (hs:∀ xs,xs.length<n→f xs=some (.inl (xs++[0]))) (he:∀ xs,n≤xs.length→f xs=some (.inr xs)):∀ (k:Nat) (xs:List Int),n-xs.length=k→Yan f xs=some (Xbc xs n):=by
 intro k
 induction k with
 |zero=>
  intro xs h
  rw[Yas (he xs (by omega))]
  unfold Xbc
  rw[h];simp
 |succ k ih=>
  intro xs h
  rw[Ybd (hs xs (by omega)),ih (xs++[0]) (by simp;omega)]
  unfold Xbc
  rw[h,jP,jH,kD,show n-(xs.length+(0+1))=k by omega,kO]
  rfl
theorem Xgj (xs:List Int) (n:Nat):(Xbc xs n).length=max xs.length n:=by unfold Xbc;simp;omega
theorem Xqm (xs:List Int) {n:Int} (h0:0≤n) (h1:n≤100000) (hx:xs.length≤100000):Xb1 xs n=some (Xbc xs n.toNat):=by
 have h:Xd2 n xs=some (Xbc xs n.toNat):=Xlo (f:=fun s=>Xd2.B n s) n.toNat (fun ys hy=>by
  simp only[Xd2.B,Xaa,jA]
  rw[jZ (by omega:(ys.length:Int)<n)]
  simp only[Ywg]
  rw[jZ (by simp;omega:(ys++[(0:Int)]).length≤2147483648)];rfl) (fun ys hy=>by
  simp only[Xd2.B,Xaa,jA]
  rw[qA (by omega:¬ (ys.length:Int)<n)];rfl) _ xs rfl
 simp only[Xb1,h,jA]
def ovr:Nat→List Int→List Int→List Int
 |_,[],t=>t
 |lo,x::xs,t=>ovr (lo+1) xs (t.set lo x)
theorem Xpb:∀ (xs:List Int) (lo:Nat) (t:List Int),lo+xs.length≤t.length→ovr lo xs t=splice t lo xs
 |[],lo,t,_=>by simp[ovr,splice]
 |x::xs,lo,t,h=>by
  simp only[jH] at h
  rw[ovr,Xpb xs (lo+1) (t.set lo x) (by simp;omega)]
  have hA:(t.take lo).length=lo:=by rw[kK];omega
  have e:t.set lo x=t.take lo++x::t.drop (lo+1):=by rw[List.set_eq_take_append_cons_drop,jL (by omega)]
  have h1:(t.take lo++x::t.drop (lo+1)).take (lo+1)=t.take lo++[x]:=by
   rw[List.take_append,hA,List.take_of_length_le (l:=t.take lo) (by omega),show lo+1-lo=1 by omega];rfl
  have h2:(t.take lo++x::t.drop (lo+1)).drop (lo+1+xs.length)=t.drop (lo+(xs.length+1)):=by
   rw[List.drop_append,hA,List.drop_eq_nil_of_le (by omega:(t.take lo).length≤lo+1+xs.length),show lo+1+xs.length-lo=xs.length+1 by omega,List.drop_succ_cons,List.drop_drop,jO]
   congr 1;omega
  unfold splice;rw[e,h1,h2];simp
theorem Xng (lo:Nat):∀ (xs:List Int) (k:Nat) (t:List Int),Yb0 (τ:=List Int) (fun k x t=>(.inl (t.set (lo+k) x):List Int⊕List Int)) id k xs t=ovr (lo+k) xs t
 |[],k,t=>rfl
 |x::xs,k,t=>by
  simp only[Yb0,sel,ovr];exact Xng lo xs (k+1) _
def Xlg (data:List Int) (k:Nat):List Int:=(data.take (min data.length ((k+1)*8))).drop (k*8)
def Xmq (data:List Int):Nat→List Int→List (List Int)→List (List Int)
 |_,[],ds=>ds
 |k,b::bs,ds=>Xmq data (k+1) bs (ds.set b.toNat (Xlg data k))
theorem Xll (data:List Int) (u:List Xb) (w:Unit):∀ (bs:List Int) (k:Nat) (ds:List (List Int)),Yb0 (τ:=Fs_) (fun k b t=>(.inl (t.1,t.2.1.set b.toNat (Xlg data k),t.2.2):Fs_⊕Fs_)) id k bs (u,ds,w)=(u,Xmq data k bs ds,w)
 |[],k,ds=>rfl
 |b::bs,k,ds=>by
  simp only[Yb0,sel,Xmq];exact Xll data u w bs (k+1) _
theorem Xnb (data:List Int):∀ (bs:List Int) (k:Nat) (ds:List (List Int)),(Xmq data k bs ds).length=ds.length
 |[],k,ds=>rfl
 |b::bs,k,ds=>by simp only[Xmq];rw[Xnb data bs];simp
theorem Xlk (data:List Int):∀ (bs:List Int) (k:Nat) {ds:List (List Int)},(∀ d∈ds,d.length≤64)→∀ d∈Xmq data k bs ds,d.length≤64
 |[],k,ds,h=>h
 |b::bs,k,ds,h=>by
  simp only[Xmq];refine Xlk data bs (k+1) fun d hd=>?_;rcases List.mem_or_eq_of_mem_set hd with hd | rfl
  ·exact h d hd
  ·unfold Xlg;simp;omega
def Xiz (f:Fs_) (a:Int) (data bs:List Int):Fs_:=(f.1.set a.toNat ((f.1.getD a.toNat Xa).1,(f.1.getD a.toNat Xa).2.1,(data.length:Int),bs,(f.1.getD a.toNat Xa).2.2.2.2),Xmq data 0 bs (Xbg (f.1.getD a.toNat Xa).2.2.2.1 f.2.1),f.2.2)
theorem Xn5 {n:Nat} (h:n≤32):Xly (n:Int)=(((n+7) / 8:Nat):Int)∧(n+7) / 8≤4:=by
 have h1:w64 ((n:Int)+8)=(n:Int)+8:=Yss (by omega) (by omega)
 have h2:w64 ((n:Int)+8-1)=(n:Int)+7:=by rw[Yss (by omega) (by omega)];omega
 refine⟨?_,by omega⟩
 unfold Xly;rw[h1,h2]
 have h3:((n:Int)+7).tdiv 8=(((n+7) / 8:Nat):Int):=by
  rw[Int.tdiv_eq_ediv_of_nonneg (by omega)];omega
 rw[h3,Yss (by omega) (by omega)]
structure Whole (f:Fs_) (busy:List Int):Prop where
 tree:X5 f
 busy:Xke busy=0
theorem chunk_ok {data:List Int} {k:Nat} (hd:data.length≤32) (hk:k<(data.length+7) / 8):k*8≤min data.length ((k+1)*8)∧min data.length ((k+1)*8)≤data.length:=by omega
theorem Xm7 (l:List Xb) (busy:List Int):∀ b∈Xcd l busy,0≤b∧b<20:=fun b hb=>by
 have h:=(List.mem_filter.1 hb).1
 have h20:∀ b∈r20,0≤b∧b<20:=by decide
 exact h20 b h
def Xan (f:Fs_) (busy data:List Int):List Int:=(Xcd f.1 busy).take ((data.length+7) / 8)
def Xfy (f:Fs_) (busy data:List Int):Bool:=decide (((Xcd f.1 busy).length:Int)<(((data.length+7) / 8:Nat):Int))
theorem Xqn (f:Fs_) {busy:List Int} (h:Whole f busy) {a:Int} (a0:0≤a) (a1:a<(f.1.length:Int)) (data:List Int) (hd:data.length≤32):Xb2 f a data busy=some (cond (Xfy f busy data) (8,f) (0,Xiz f a data (Xan f busy data))):=by
 have hok:=Xcj.of h.tree.inod;have hbl:=Xah.of h.tree;obtain⟨q1,q2⟩:=Xn5 hd;have hbf:Xfa (data.length:Int)=some (Xly (data.length:Int)):=rfl
 have hin:inR ((((data.length+7) / 8:Nat)):Int) 0 4=true:=Xz.2 ⟨by omega,by omega⟩
 simp only[Xb2,Xaa,hbf,q1,jA,Xka,Xgb,hin,jK,Ywf,Xsl f.1 busy hok (Xl2 h.busy),Xe9]
 cases hfull:decide (((Xcd f.1 busy).length:Int)<(((data.length+7) / 8:Nat):Int)) with
 |true=>simp only[Ywg,jA,Xfy,hfull];rfl
 |false=>
  have hge:(data.length+7) / 8≤(Xcd f.1 busy).length:=by simp at hfull;omega
  have hpl:(Xan f busy data).length=(data.length+7) / 8:=by unfold Xan;rw[kK];omega
  have hpin:∀ b∈Xan f busy data,0≤b∧b<20:=fun b hb=>Xm7 f.1 busy b (List.mem_of_mem_take hb)
  rw[show(decide ((0:Int)≤(((data.length+7) / 8:Nat):Int))&&decide ((((data.length+7) / 8:Nat):Int)≤((Xcd f.1 busy).length:Int)))=true by simp only[jC,jI];omega]
  have hpk:((Xcd f.1 busy).drop 0).take ((((data.length+7) / 8:Nat):Int).toNat-0)=Xan f busy data:=by rw[List.drop_zero,toNat_cast,Nat.sub_zero];rfl
  simp only[Ywf,Ywg,jA,hpk,show((0:Int) != 0)=false from rfl,Xfy,hfull]
  have hfree:Xd4 f a=some (f.1,Xbg (f.1.getD a.toNat Xa).2.2.2.1 f.2.1,f.2.2):=by
   have hb:=hbl.blk a.toNat;have hl:=hbl.len a.toNat
   have h1:Xbn a.toNat ((f.1.getD a.toNat Xa).2.2.2.1.length:Int) (0,f)=_:=Yon (f.1.getD a.toNat Xa).2.2.2.1 (f:=fun s=>Xbn.B a.toNat ((f.1.getD a.toNat Xa).2.2.2.1.length:Int) s.1 s.2) (fun(t:Fs_) b=>(t.1,t.2.1.set b.toNat [],t.2.2)) id (fun _ t=>t.1=f.1∧t.2.1.length=20) (fun i hi t ht=>by
    obtain⟨t1,t2⟩:=ht;have hbi:=hb _ (jE hi)
    refine⟨?_,t1,by simpa using t2⟩
    simp only[Xbn.B,t1,Ywg,jA,Yw1 hi,Ywy hi,toNat_cast,getD_lt _ hi,Yuw hbi.1 (by rw[t2];omega:_<(t.2.1.length:Int)),Ywd (by omega:i<4294967296)]) (fun t ht=>by
    simp only[Xbn.B,Yww (jB _),Ywf,id]) f ⟨rfl,hbl.dat⟩
   simp only[Xd4,Yuw a0 a1,Ywg,jA];rw[h1];obtain⟨xs,ds,w⟩:=f;simp only[id,Xeu,jA]
  have hlay:Xd5 a data ((Xan f busy data).length:Int) (Xan f busy data) 0 () (0,(f.1,Xbg (f.1.getD a.toNat Xa).2.2.2.1 f.2.1,f.2.2))=_:=
   Ym8 (τ:=Fs_) (Xan f busy data) (f:=fun s=>Xd5.B a data ((Xan f busy data).length:Int) (Xan f busy data) 0 () s.1 s.2) (fun k t=>((k:Int),t)) (fun k b t=>(.inl (t.1,t.2.1.set b.toNat (Xlg data k),t.2.2):Fs_⊕Fs_)) id (fun _ t=>t.2.1.length=20) (fun k hk t ht=>by
    have hbi:=hpin _ (jE hk)
    obtain⟨c1,c2⟩:=chunk_ok hd (by omega:k<(data.length+7) / 8)
    have e1:w64 ((k:Int)+1)=((k+1:Nat):Int):=Ywd (by omega)
    have e2:w64 (((k+1:Nat):Int)*8)=(((k+1)*8:Nat):Int):=by rw[Yss (by omega) (by omega)];omega
    have e3:w64 ((k:Int)*8)=((k*8:Nat):Int):=by rw[Yss (by omega) (by omega)];omega
    have e4:cond (decide ((data.length:Int)<(((k+1)*8:Nat):Int))) (data.length:Int) (((k+1)*8:Nat):Int)=((min data.length ((k+1)*8):Nat):Int):=by
     by_cases hlt:(data.length:Int)<(((k+1)*8:Nat):Int)
     ·rw[jZ hlt];simp only[Ywg];omega
     ·rw[qA hlt];simp only[Ywf];omega
    simp only[Xd5.B,Yw1 hk,Ywy hk,Ywg,e1,e2,e3,e4,jA,toNat_cast,getD_lt _ hk,Yuw hbi.1 (by rw[ht];omega:_<(t.2.1.length:Int))]
    rw[show(decide ((0:Int)≤((min data.length ((k+1)*8):Nat):Int))&&decide (((min data.length ((k+1)*8):Nat):Int)≤(data.length:Int))&&(decide ((0:Int)≤((k*8:Nat):Int))&&decide (((k*8:Nat):Int)≤((min data.length ((k+1)*8):Nat):Int))))=true by
     simp only[jC,jI];omega]
    rw[Xkf _ (by simp;omega)]
    rfl) (fun k hk t t' ht e=>by cases e;simpa using ht) (fun t ht=>by simp only[Xd5.B,Yww (jB _),Ywf,id]) _ (by show(Xbg _ f.2.1).length=20;rw[Xet];exact hbl.dat) (s:=(0,(f.1,Xbg (f.1.getD a.toNat Xa).2.2.2.1 f.2.1,f.2.2))) rfl
  rw[Xll] at hlay
  have hal:a.toNat<f.1.length:=by omega
  simp only[hfree,jA,hlay,Yuw a0 a1,Ywg,Xaj hal,kM];rfl
theorem Xqo (f:Fs_) (hb:Bd Xh f) {busy:List Int} (h:Whole f busy) {a:Int} (a0:0≤a) (a1:a<(f.1.length:Int)) (data:List Int) (hd:data.length≤32) :
  Xbe f a data busy=some (cond (Xfy f busy data) (8,([],[],()),()) (0,Xiz f a data (Xan f busy data),())):=by
 have hok:=Xcj.of h.tree.inod;have hbl:=Xah.of h.tree;have hB:=FsB.ofT h.tree;obtain⟨q1,q2⟩:=Xn5 hd;have hbf:Xkq (data.length:Int)=some (Xly (data.length:Int)):=rfl
 have hin:inR ((((data.length+7) / 8:Nat)):Int) 0 4=true:=Xz.2 ⟨by omega,by omega⟩
 have hin2:inR (data.length:Int) 0 32=true:=Xz.2 ⟨by omega,by omega⟩
 have hask:Xhn f.1 busy=some 0:=by
  simp only[Xhn,Xp4 f.1 hb.1,h.tree.inod,jA,Xot,h.busy];rfl
 simp only[Xbe,Xgv,Xeq,hin2,hbf,q1,jA,Xjz,hask,show((0:Int) != 0)=false from rfl,hin,jK,Ywf,Xsk f.1 busy hok (Xl2 h.busy),Xcb hB]
 cases hfull:decide (((Xcd f.1 busy).length:Int)<(((data.length+7) / 8:Nat):Int)) with
 |true=>simp only[Ywg,jA,Xfy,hfull];rfl
 |false=>
  have hge:(data.length+7) / 8≤(Xcd f.1 busy).length:=by simp at hfull;omega
  have hpl:(Xan f busy data).length=(data.length+7) / 8:=by unfold Xan;rw[kK];omega
  have hpin:∀ b∈Xan f busy data,0≤b∧b<20:=fun b hb=>Xm7 f.1 busy b (List.mem_of_mem_take hb)
  rw[show(decide ((0:Int)≤(((data.length+7) / 8:Nat):Int))&&decide ((((data.length+7) / 8:Nat):Int)≤((Xcd f.1 busy).length:Int)))=true by simp only[jC,jI];omega]
  have hpk:((Xcd f.1 busy).drop 0).take ((((data.length+7) / 8:Nat):Int).toNat-0)=Xan f busy data:=by rw[List.drop_zero,toNat_cast,Nat.sub_zero];rfl
  simp only[Ywf,Ywg,jA,hpk,show((0:Int) != 0)=false from rfl,Xfy,hfull,Yuw a0 a1];have hbk:=hbl.blk a.toNat;have hlk:=hbl.len a.toNat
  have hal:a.toNat<f.1.length:=by omega
  have h0:Xcm data a.toNat (0,([],[],()),()) (0,Xan f busy data,()) (0,f)=_:=Yon (f.1.getD a.toNat Xa).2.2.2.1 (f:=fun s=>Xcm.B data a.toNat (0,([],[],()),()) (0,Xan f busy data,()) s.1 s.2) (fun(t:Fs_) b=>(t.1,t.2.1.set b.toNat [],t.2.2)) id (fun _ t=>t.1=f.1∧t.2.1.length=20) (fun i hi t ht=>by
   obtain⟨t1,t2⟩:=ht;have hbi:=hbk _ (jE hi)
   refine⟨?_,t1,by simpa using t2⟩
   simp only[Xcm.B,t1,Ywg,jA,Yw1 hi,Ywy hi,toNat_cast,getD_lt _ hi,Yuw hbi.1 (by rw[t2];omega:_<(t.2.1.length:Int)),Ywd (by omega:i<4294967296)]) (fun t ht=>by
   simp only[Xcm.B,ht.1,jA,Yww (jB _),Ywf,id]) f ⟨rfl,hbl.dat⟩
  have h0':Xcm data a.toNat (0,([],[],()),()) (0,Xan f busy data,()) (0,(f.1,f.2.1,f.2.2))=some (f.1,Xbg (f.1.getD a.toNat Xa).2.2.2.1 f.2.1,f.2.2):=by
   refine h0.trans ?_;obtain⟨xs,ds,w⟩:=f;simp only[id,Xeu]
  simp only[h0',jA,Xaj hal,kM];have hxl:(f.1.set a.toNat ((f.1.getD a.toNat Xa).1,(f.1.getD a.toNat Xa).2.1,(data.length:Int),Xan f busy data,(f.1.getD a.toNat Xa).2.2.2.2)).getD a.toNat Xa=((f.1.getD a.toNat Xa).1,(f.1.getD a.toNat Xa).2.1,(data.length:Int),Xan f busy data,(f.1.getD a.toNat Xa).2.2.2.2):=Xaj hal
  have hlay:Xdb data a.toNat (0,([],[],()),()) (0,(f.1.set a.toNat ((f.1.getD a.toNat Xa).1,(f.1.getD a.toNat Xa).2.1,(data.length:Int),Xan f busy data,(f.1.getD a.toNat Xa).2.2.2.2),Xbg (f.1.getD a.toNat Xa).2.2.2.1 f.2.1,f.2.2))=_:=
   Ym8 (τ:=Fs_) (Xan f busy data) (f:=fun s=>Xdb.B data a.toNat (0,([],[],()),()) s.1 s.2) (fun k t=>((k:Int),t)) (fun k b t=>(.inl (t.1,t.2.1.set b.toNat (Xlg data k),t.2.2):Fs_⊕Fs_)) id (fun _ t=>t.1=f.1.set a.toNat ((f.1.getD a.toNat Xa).1,(f.1.getD a.toNat Xa).2.1,(data.length:Int),Xan f busy data,(f.1.getD a.toNat Xa).2.2.2.2)∧t.2.1.length=20) (fun k hk t ht=>by
    obtain⟨t1,t2⟩:=ht;have hbi:=hpin _ (jE hk)
    obtain⟨c1,c2⟩:=chunk_ok hd (by omega:k<(data.length+7) / 8)
    have e1:w64 ((k:Int)+1)=((k+1:Nat):Int):=Ywd (by omega)
    have e2:w64 (((k+1:Nat):Int)*8)=(((k+1)*8:Nat):Int):=by rw[Yss (by omega) (by omega)];omega
    have e3:w64 ((k:Int)*8)=((k*8:Nat):Int):=by rw[Yss (by omega) (by omega)];omega
    have e4:Xck (data.length:Int) (((k+1)*8:Nat):Int)=some ((min data.length ((k+1)*8):Nat):Int):=by
     unfold Xck
     by_cases hlt:(data.length:Int)<(((k+1)*8:Nat):Int)
     ·rw[jZ hlt];simp only[Ywg];congr 1;omega
     ·rw[qA hlt];simp only[Ywf];congr 1;omega
    simp only[Xdb.B,t1,hxl,Yw1 hk,Ywy hk,Ywg,e1,e2,e3,e4,jA,toNat_cast,getD_lt _ hk,Yuw hbi.1 (by rw[t2];omega:_<(t.2.1.length:Int)),jO]
    rw[show(decide ((0:Int)≤((min data.length ((k+1)*8):Nat):Int))&&decide (((min data.length ((k+1)*8):Nat):Int)≤(data.length:Int))&&(decide ((0:Int)≤((k*8:Nat):Int))&&decide (((k*8:Nat):Int)≤((min data.length ((k+1)*8):Nat):Int))))=true by
     simp only[jC,jI];omega]
    simp only[Ywg]
    rw[jZ (by simp;omega)]
    rfl) (fun k hk t t' ht e=>by cases e;exact⟨ht.1,by simpa using ht.2⟩) (fun t ht=>by simp only[Xdb.B,ht.1,hxl,jA,Yww (jB _),Ywf,id]) _ ⟨rfl,by show(Xbg _ f.2.1).length=20;rw[Xet];exact hbl.dat⟩ (s:=(0,(_,Xbg (f.1.getD a.toNat Xa).2.2.2.1 f.2.1,f.2.2))) rfl
  rw[Xll] at hlay;simp only[hlay,jA];rfl
theorem Xkm {f:Fs_} (hB:FsB f) {busy:List Int} (a:Int) (data:List Int) (hd:data.length≤32):FsB (Xiz f a data (Xan f busy data)):=by
 have hs:=X9.at_ hB a.toNat
 refine⟨by simpa [Xiz] using hB.l,fun y hy=>?_,?_,?_⟩
 ·rcases List.mem_or_eq_of_mem_set (show y∈f.1.set a.toNat _ from hy) with hy | rfl
  ·exact hB.s y hy
  ·exact⟨by show(Xan f busy data).length≤4;unfold Xan;rw[kK];omega,hs.ent,hs.nam⟩
 ·show(Xmq data 0 _ (Xbg _ _)).length=20
  rw[Xnb,Xet];exact hB.d
 ·exact Xlk data _ 0 (Xge _ hB.dl)
theorem Xls (f:Fs_) (a:Int) (data bs:List Int) (ha:a.toNat<f.1.length):(((Xiz f a data bs).1.getD a.toNat Xa).2).2.1=(data.length:Int)∧(Xiz f a data bs).1.length=f.1.length:=by
 refine⟨?_,by simp[Xiz]⟩
 show((f.1.set a.toNat _).getD a.toNat Xa).2.2.1=_;rw[Xaj ha]
def wrF (f:Fs_) (busy:List Int) (a from_:Int) (data:List Int):Int×Fs_:=
 cond (!inR from_ 0 1000) (3,f) (cond (decide (from_+(data.length:Int)>32)) (2,f) (cond ((data.length:Int) == 0) (0,f)
  (cond (Xfy f busy (splice (Xbc (Xt f a) (from_.toNat+data.length)) from_.toNat data)) (8,f) (0,Xiz f a (splice (Xbc (Xt f a) (from_.toNat+data.length)) from_.toNat data) (Xan f busy (splice (Xbc (Xt f a) (from_.toNat+data.length)) from_.toNat data))))))
def ctF (f:Fs_) (busy:List Int) (a n:Int):Int×Fs_:=
 cond (!inR n 0 32) (3,f) (cond (Xfy f busy ((Xbc (Xt f a) n.toNat).take n.toNat)) (8,f) (0,Xiz f a ((Xbc (Xt f a) n.toNat).take n.toNat) (Xan f busy ((Xbc (Xt f a) n.toNat).take n.toNat))))
theorem Xes {f:Fs_} (hT:X5 f) (a:Int):(Xt f a).length≤32:=by
 have h1:=Xkh (fun b:Int=>f.2.1.getD b.toNat []) 8 (f.1.getD a.toNat Xa).2.2.2.1 fun b _=>by
  by_cases hi:b.toNat<f.2.1.length
  ·rw[getD_lt _ hi];exact hT.dl _ (jE hi)
  ·rw[show f.2.1.getD b.toNat []=[] by simp[List.getD,List.getElem?_eq_none (by omega:f.2.1.length≤b.toNat)]];simp
 have h2:=(Xah.of hT).len a.toNat;unfold Xt;have:(f.1.getD a.toNat Xa).2.2.2.1.length*8≤4*8:=jR _ h2;omega
theorem Xjw {t xs:List Int} {lo:Nat} (h:lo+xs.length≤t.length):(splice t lo xs).length=t.length:=by
 unfold splice;simp;omega
theorem Xs3 (f:Fs_) {busy:List Int} (h:Whole f busy) {a:Int} (a0:0≤a) (a1:a<(f.1.length:Int)) (from_:Int) (data:List Int) (hd:data.length≤1048576):Xh7 f a from_ data busy=some (wrF f busy a from_ data):=by
 simp only[Xh7,Xgb,Xaa,jA,wrF]
 cases h1:inR from_ 0 1000 with
 |false=>rfl
 |true=>
  have q1:=Xz.1 h1
  have e1:w64 (from_+(data.length:Int))=from_+(data.length:Int):=Yss (by omega) (by omega)
  simp only[jK,Ywf,e1]
  cases h2:decide (from_+(data.length:Int)>32) with
  |true=>rfl
  |false=>
   have h2':from_+(data.length:Int)≤32:=by simp at h2;omega
   simp only[Ywf]
   cases h3:((data.length:Int) == 0) with
   |true=>rfl
   |false=>
    have hbl:=Xes h.tree a;have hpl:=Xgj (Xt f a) (from_.toNat+data.length)
    have en:(from_+(data.length:Int)).toNat=from_.toNat+data.length:=by omega
    simp only[Ywf,Xoz f (FsB.ofT h.tree) (Xah.of h.tree) a0 a1,jA,Xqm (Xt f a) (n:=from_+(data.length:Int)) (by omega) (by omega) (by omega),en]
    rw[show(decide ((0:Int)≤from_)&&decide (from_≤((Xbc (Xt f a) (from_.toNat+data.length)).length:Int)))=true by simp only[jC,jI];omega]
    rw[List.take_of_length_le (by omega:data.length≤(Xbc (Xt f a) (from_.toNat+data.length)).length-from_.toNat)]
    simp only[Ywg]
    rw[Xqn f h a0 a1 _ (by rw[Xjw (by omega)];omega)]
    simp only[jA]
theorem Xs4 (f:Fs_) {busy:List Int} (h:Whole f busy) {a:Int} (a0:0≤a) (a1:a<(f.1.length:Int)) (n:Int):Xh8 f a n busy=some (ctF f busy a n):=by
 simp only[Xh8,Xgb,jA,ctF]
 cases h1:inR n 0 32 with
 |false=>rfl
 |true=>
  have q1:=Xz.1 h1;have hbl:=Xes h.tree a;have hpl:=Xgj (Xt f a) n.toNat
  simp only[jK,Ywf,Xoz f (FsB.ofT h.tree) (Xah.of h.tree) a0 a1,jA,Xqm (Xt f a) q1.1 (by omega) (by omega)]
  rw[show(decide ((0:Int)≤n)&&decide (n≤((Xbc (Xt f a) n.toNat).length:Int)))=true by simp only[jC,jI];omega]
  simp only[Ywg,List.drop_zero,Nat.sub_zero]
  rw[Xqn f h a0 a1 _ (by rw[kK];omega)]
  simp only[jA]
def Xmt (r:Int×Fs_):Int×Fs_×Unit:=cond (r.1 != 0) (r.1,([],[],()),()) (0,r.2,())
theorem Xqp (f:Fs_) (hb:Bd Xh f) (h0:fsF f=0) {busy:List Int} (h:Whole f busy) {a:Int} (a0:0≤a) (a1:a<(f.1.length:Int)) (hk0:(f.1.getD a.toNat Xa).1≠0) (hk2:((f.1.getD a.toNat Xa).1 == 2)=false):Xe7 f a busy=some 0:=by
 simp only[Xe7,Xjy,Xql f hb h0 (FsB.ofT h.tree) (Xah.of h.tree) a0 a1 hk0 hk2,jA,show((0:Int) != 0)=false from rfl,Ywf,Xot,h.busy]
theorem Xs5 (f:Fs_) (hb:Bd Xh f) (h0:fsF f=0) {busy:List Int} (h:Whole f busy) {a:Int} (a0:0≤a) (a1:a<(f.1.length:Int)) (hk0:(f.1.getD a.toNat Xa).1≠0) (hk2:((f.1.getD a.toNat Xa).1 == 2)=false) (from_:Int) (data:List Int) (hd:data.length≤1048576) :
  Xb5 f a from_ data busy=some (Xmt (wrF f busy a from_ data)):=by
 simp only[Xb5,Xqp f hb h0 h a0 a1 hk0 hk2,jA,Xeq,show((0:Int) != 0)=false from rfl,Ywf,wrF,Xcb (FsB.ofT h.tree)]
 cases h1:inR from_ 0 1000 with
 |false=>rfl
 |true=>
  have q1:=Xz.1 h1
  have e1:w64 (from_+(data.length:Int))=from_+(data.length:Int):=Yss (by omega) (by omega)
  simp only[jK,Ywf,e1]
  cases h2:decide (from_+(data.length:Int)>32) with
  |true=>rfl
  |false=>
   have h2':from_+(data.length:Int)≤32:=by simp at h2;omega
   simp only[Ywf]
   cases h3:((data.length:Int) == 0) with
   |true=>rfl
   |false=>
    have hbl:=Xes h.tree a;have hpl:=Xgj (Xt f a) (from_.toNat+data.length)
    have en:from_+(data.length:Int)=((from_.toNat+data.length:Nat):Int):=by omega
    have hpad:Xdc a from_ data busy f (0,([],[],()),()) (Xt f a)=some (Xbc (Xt f a) (from_.toNat+data.length)):=Xlo (f:=fun s=>Xdc.B a from_ data busy f (0,([],[],()),()) s) (from_.toNat+data.length) (fun ys hy=>by
     simp only[Xdc.B,jA,e1]
     rw[jZ (by omega:(ys.length:Int)<from_+(data.length:Int))]
     simp only[Ywg]
     rw[jZ (by simp;omega:(ys++[(0:Int)]).length≤2147483648)];rfl) (fun ys hy=>by
     simp only[Xdc.B,jA,e1]
     rw[qA (by omega:¬ (ys.length:Int)<from_+(data.length:Int))];rfl) _ _ rfl
    have hovr:Xdd a from_ data busy f (0,([],[],()),()) (0,Xbc (Xt f a) (from_.toNat+data.length))=_:=Ym8 (τ:=List Int) data (f:=fun s=>Xdd.B a from_ data busy f (0,([],[],()),()) s.1 s.2) (fun k t=>((k:Int),t)) (fun k x t=>(.inl (t.set (from_.toNat+k) x):List Int⊕List Int)) id (fun _ t=>t.length=(Xbc (Xt f a) (from_.toNat+data.length)).length) (fun k hk t ht=>by
     have e2:w64 (from_+(k:Int))=((from_.toNat+k:Nat):Int):=by rw[Yss (by omega) (by omega)];omega
     simp only[Xdd.B,Yw1 hk,Ywy hk,Ywg,e2,Ywy (by omega:from_.toNat+k<t.length),toNat_cast,getD_lt _ hk,jA,Ywd (by omega:k<4294967296),sel]) (fun k hk t t' ht e=>by cases e;simpa using ht) (fun t ht=>by simp only[Xdd.B,Yww (jB _),Ywf,id]) _ rfl (s:=(0,Xbc (Xt f a) (from_.toNat+data.length))) rfl
    rw[Xng,kF,Xpb _ _ _ (by omega)] at hovr
    simp only[Ywf,Xoy f (FsB.ofT h.tree) (Xah.of h.tree) a0 a1,jA,hpad,hovr]
    rw[Xqo f hb h a0 a1 _ (by rw[Xjw (by omega)];omega)]
    simp only[jA]
    cases Xfy f busy (splice (Xbc (Xt f a) (from_.toNat+data.length)) from_.toNat data)<;>rfl
theorem Xs6 (f:Fs_) (hb:Bd Xh f) (h0:fsF f=0) {busy:List Int} (h:Whole f busy) {a:Int} (a0:0≤a) (a1:a<(f.1.length:Int)) (hk0:(f.1.getD a.toNat Xa).1≠0) (hk2:((f.1.getD a.toNat Xa).1 == 2)=false) (n:Int) :
  Xdf f a n busy=some (Xmt (ctF f busy a n)):=by
 simp only[Xdf,Xqp f hb h0 h a0 a1 hk0 hk2,jA,Xgv,Xeq,show((0:Int) != 0)=false from rfl,Ywf,ctF]
 cases h1:inR n 0 32 with
 |false=>rfl
 |true=>
  have q1:=Xz.1 h1;have hbl:=Xes h.tree a;have hpl:=Xgj (Xt f a) n.toNat
  have hpad:Xde a n busy f (0,([],[],()),()) (Xt f a)=some (Xbc (Xt f a) n.toNat):=Xlo (f:=fun s=>Xde.B a n busy f (0,([],[],()),()) s) n.toNat (fun ys hy=>by
   simp only[Xde.B]
   rw[jZ (by omega:(ys.length:Int)<n)]
   simp only[Ywg]
   rw[jZ (by simp;omega:(ys++[(0:Int)]).length≤2147483648)];rfl) (fun ys hy=>by
   simp only[Xde.B]
   rw[qA (by omega:¬ (ys.length:Int)<n)];rfl) _ _ rfl
  simp only[jK,Ywf,Xoy f (FsB.ofT h.tree) (Xah.of h.tree) a0 a1,jA,hpad]
  rw[show(decide ((0:Int)≤n)&&decide (n≤((Xbc (Xt f a) n.toNat).length:Int)))=true by simp only[jC,jI];omega]
  simp only[Ywg,List.drop_zero,Nat.sub_zero]
  rw[Xqo f hb h a0 a1 _ (by rw[kK];omega)]
  simp only[jA]
  cases Xfy f busy ((Xbc (Xt f a) n.toNat).take n.toNat)<;>rfl
theorem Xoc (c:Xap):∃ k,Xmi c=some k∧Xhz c=some k∧(k=0→1≤c.1∧c.1≤11∧c.2.2.2.2.2.1.length≤40):=by
 simp only[Xmi,Xhz,Xeq,Xgb,Xmw,jA]
 cases h1:inR c.1 1 11 with
 |false=>exact⟨1,rfl,rfl,fun e=>by cases e⟩
 |true=>
  have q1:=Xz.1 h1;simp only[jK,Ywf];generalize cond (!(cond (c.1 == 8) true (c.1 == 9))) (!(c.2.2.1 == ([]:List UInt8))) false=v1;generalize cond (!(cond (c.1 == 3) true (c.1 == 4))) (c.2.2.2.1 != 0) false=v2;generalize cond (!(cond (c.1 == 4) true (c.1 == 5))) (c.2.2.2.2.1 != 0) false=v3;generalize cond (c.1 != 3) (decide ((c.2.2.2.2.2.1.length:Int)>0)) false=v4
  cases h40:decide ((c.2.2.2.2.2.1.length:Int)>40) with
  |true=>cases v1<;>cases v2<;>cases v3<;>cases v4<;>first | exact⟨1,rfl,rfl,fun e=>by cases e⟩ | exact⟨2,rfl,rfl,fun e=>by cases e⟩
  |false=>
   have:c.2.2.2.2.2.1.length≤40:=by simp at h40;omega
   cases v1<;>cases v2<;>cases v3<;>cases v4<;>first | exact⟨1,rfl,rfl,fun e=>by cases e⟩ | exact⟨0,rfl,rfl,fun _=>⟨q1.1,q1.2,this⟩⟩
theorem Xqv {f:Fs_} {busy:List Int} (h:Whole f busy) {a:Int} (a0:0≤a) (a1:a<(f.1.length:Int)) (from_:Int) (data:List Int) :
  ((wrF f busy a from_ data).1≠0→(wrF f busy a from_ data).2=f)∧FsB (wrF f busy a from_ data).2∧(wrF f busy a from_ data).2.1.length=f.1.length:=by
 have hB:=FsB.ofT h.tree
 have hal:a.toNat<f.1.length:=by omega
 unfold wrF
 cases h1:inR from_ 0 1000 with
 |false=>exact⟨fun _=>rfl,hB,rfl⟩
 |true=>
  have q1:=Xz.1 h1
  cases h2:decide (from_+(data.length:Int)>32) with
  |true=>exact⟨fun _=>rfl,hB,rfl⟩
  |false=>
   have h2':from_+(data.length:Int)≤32:=by simp at h2;omega
   cases h3:((data.length:Int) == 0) with
   |true=>exact⟨fun _=>rfl,hB,rfl⟩
   |false=>
    have hbl:=Xes h.tree a;have hpl:=Xgj (Xt f a) (from_.toNat+data.length)
    have hs:=Xjw (t:=Xbc (Xt f a) (from_.toNat+data.length)) (xs:=data) (lo:=from_.toNat) (by omega)
    simp only[jK,Ywf];generalize splice (Xbc (Xt f a) (from_.toNat+data.length)) from_.toNat data=d at *
    cases Xfy f busy d with
    |true=>exact⟨fun _=>rfl,hB,rfl⟩
    |false=>exact⟨fun e=>absurd rfl e,Xkm hB a d (by omega),(Xls f a d _ hal).2⟩
theorem Xqs {f:Fs_} {busy:List Int} (h:Whole f busy) {a:Int} (a0:0≤a) (a1:a<(f.1.length:Int)) (n:Int) :
  ((ctF f busy a n).1≠0→(ctF f busy a n).2=f)∧FsB (ctF f busy a n).2∧(ctF f busy a n).2.1.length=f.1.length:=by
 have hB:=FsB.ofT h.tree
 have hal:a.toNat<f.1.length:=by omega
 unfold ctF
 cases h1:inR n 0 32 with
 |false=>exact⟨fun _=>rfl,hB,rfl⟩
 |true=>
  have q1:=Xz.1 h1
  have hs:((Xbc (Xt f a) n.toNat).take n.toNat).length≤32:=by rw[kK];omega
  simp only[jK,Ywf];generalize (Xbc (Xt f a) n.toNat).take n.toNat=d at *
  cases Xfy f busy d with
  |true=>exact⟨fun _=>rfl,hB,rfl⟩
  |false=>exact⟨fun e=>absurd rfl e,Xkm hB a d (by omega),(Xls f a d _ hal).2⟩
theorem Xof (f:Fs_) (hb:Bd Xh f) (h0:fsF f=0) {busy:List Int} (h:Whole f busy) (c:Xap) (hd:c.2.2.2.2.2.1.length≤40) :
  ∃ r v bs g,Xf4 f c busy=some (0,r,v,bs,[],g,())∧Xf7 f c busy=some ((0,r,v,bs,[],([],[],()),()),g)∧FsC g∧bs.length≤256:=by
 have hT:=h.tree;have ht:=Xa0.of hT;have hB:=FsB.ofT hT;have hbl:=Xah.of hT;have hC:=FsC.ofB hB;have hwalk:=Xlt ht c.2.1;have hwk:=@Xnz f hT c.2.1
 have e10:∀ c,X3 f c=some (Xa5 0 c 0 f):=fun c=>by simp only[X3,Xcb hB,jA,Xa5]
 simp only[Xf4,Xf7,jA,e10,Xov f ht,Xou f ht,Xcb hB];generalize Xba f.1 c.2.1=W at *;obtain⟨a,wc⟩:=W;simp only at hwalk hwk
 cases h1:(wc != 0) with
 |true=>exact⟨_,_,_,_,rfl,rfl,hC,kE 256⟩
 |false=>
  have hk0:=hwk (by simpa using h1)
  simp only[Ywf,Yuw hwalk.1 hwalk.2,Ywg]
  cases hk2:((f.1.getD a.toNat Xa).1 == 2) with
  |true=>exact⟨_,_,_,_,rfl,rfl,hC,kE 256⟩
  |false=>
   simp only[Ywf]
   cases h4:(c.1 == 4) with
   |true=>
    simp only[Ywg,Xs2 f hb h0 hB hbl hwalk.1 hwalk.2 hk0 hk2,Xs1 f hB hbl hwalk.1 hwalk.2,Xaa,jA];have hlen:=Xpc hB hbl a c.2.2.2.1 c.2.2.2.2.1
    cases hc:((Xlp f a c.2.2.2.1 c.2.2.2.2.1).2 != 0) with
    |false=>
     have:(Xlp f a c.2.2.2.1 c.2.2.2.2.1).2=0:=by simpa using hc
     rw[this]
     exact⟨_,_,_,_,rfl,rfl,hC,hlen⟩
    |true=>
     have hnil:(Xlp f a c.2.2.2.1 c.2.2.2.2.1).1=[]:=by
      revert hc
      unfold Xlp
      cases inR c.2.2.2.1 0 1000 with
      |false=>intro _;rfl
      |true=>
       cases inR c.2.2.2.2.1 0 100 with
       |false=>intro _;rfl
       |true=>intro e;cases e
     rw[hnil]
     exact⟨_,_,_,_,rfl,rfl,hC,kE 256⟩
   |false=>
    simp only[Ywf]
    cases h3:(c.1 == 3) with
    |true=>
     obtain⟨w1,w2,w3⟩:=Xqv h hwalk.1 hwalk.2 c.2.2.2.1 c.2.2.2.2.2.1
     simp only[Ywg,Xs5 f hb h0 h hwalk.1 hwalk.2 hk0 hk2 _ _ (by omega:c.2.2.2.2.2.1.length≤1048576),Xs3 f h hwalk.1 hwalk.2 _ _ (by omega:c.2.2.2.2.2.1.length≤1048576),jA]
     generalize wrF f busy a c.2.2.2.1 c.2.2.2.2.2.1=R at *;obtain⟨rc,g⟩:=R;simp only at w1 w2 w3;unfold Xmt
     cases hc:(rc != 0) with
     |true=>
      have e:=w1 (by simpa using hc)
      subst e;simp only[Ywg,hc]
      exact⟨_,_,_,_,rfl,rfl,hC,kE 256⟩
     |false=>
      simp only[Ywf,Ywg,show((0:Int) != 0)=false from rfl,Yuw hwalk.1 (by rw[w3];exact hwalk.2:a<(g.1.length:Int))]
      exact⟨_,_,_,_,rfl,rfl,FsC.ofB w2,kE 256⟩
    |false=>
     obtain⟨w1,w2,w3⟩:=Xqs h hwalk.1 hwalk.2 c.2.2.2.2.1;simp only[Ywf,Xs6 f hb h0 h hwalk.1 hwalk.2 hk0 hk2,Xs4 f h hwalk.1 hwalk.2,jA];generalize ctF f busy a c.2.2.2.2.1=R at *;obtain⟨rc,g⟩:=R;simp only at w1 w2 w3;unfold Xmt
     cases hc:(rc != 0) with
     |true=>
      have e:=w1 (by simpa using hc)
      subst e;simp only[Ywg,hc]
      exact⟨_,_,_,_,rfl,rfl,hC,kE 256⟩
     |false=>
      simp only[Ywf,Ywg,show((0:Int) != 0)=false from rfl,Yuw hwalk.1 (by rw[w3];exact hwalk.2:a<(g.1.length:Int))]
      exact⟨_,_,_,_,rfl,rfl,FsC.ofB w2,kE 256⟩
theorem Xnx {f:Fs_} (h:fsF f=0):Xci f=0:=by
 unfold fsF at h
 cases h0:(Xci f != 0) with
 |true=>rw[h0] at h;exact absurd h (by simpa using h0)
 |false=>simpa using h0
theorem Xs7 (f:Fs_) (hb:Bd Xh f) (h0:fsF f=0) (ht:Xa0 f.1) {a:Int} (a0:0≤a) (a1:a<(f.1.length:Int)):Xdi f a=some (cond ((f.1.getD a.toNat Xa).1 != 2) (9,[],()) (0,Xgh (Xc f.1 a),())):=by
 have hl:=ht.len;have hq:=ht.at_ a0 a1
 have e1:w64 ((f.1.length:Int)-1)=(f.1.length:Int)-1:=Yss (by omega) (by omega)
 have e2:inR a 0 ((f.1.length:Int)-1)=true:=Xz.2 ⟨a0,by omega⟩
 have en:(f.1.getD a.toNat Xa).2.2.2.2.1=Xc f.1 a:=rfl
 have h:Xdh a f (0,[],()) (0,(0,[],()))=_:=Yon (Xc f.1 a) (f:=fun s=>Xdh.B a f (0,[],()) s.1 s.2) (fun(t:Xx) e=>(t.1,t.2.1++[e.1],t.2.2)) id (fun i t=>t.2.1.length=i) (fun i hi t ht=>by
  refine⟨?_,by simp[ht]⟩
  simp only[Xdh.B,Yuw a0 a1,Ywg,en,jA,Yw1 hi,Ywy hi,toNat_cast,getD_lt _ hi,Ywd (by omega:i<4294967296)]
  rw[jZ (by simp;omega:(t.2.1++[(Xc f.1 a)[i].1]).length≤2147483648)];rfl) (fun t ht=>by
  simp only[Xdh.B,Yuw a0 a1,Ywg,en,jA,Yww (jB _),Ywf,id]) (0,[],()) rfl
 have hf:∀ (l:List Xg) (t:Xx),l.foldl (fun(t:Xx) e=>(t.1,t.2.1++[e.1],t.2.2)) t=(t.1,t.2.1++Xgh l,t.2.2):=by
  intro l
  induction l with
  |nil=>intro t;simp[Xgh]
  |cons e l ih=>intro t;rw[kI,ih];simp[Xgh]
 rw[hf] at h;simp only[Xdi,Xj1,Xp7 f hb,Xnx h0,jA,show((0:Int) != 0)=false from rfl,Ywf,Xgz,Xeq,e1,e2,jK,Yuw a0 a1,Ywg]
 cases ((f.1.getD a.toNat Xa).1 != 2) with
 |true=>rfl
 |false=>simp only[Ywf,jA,show((0:Int) != 0)=false from rfl,h,id,jO]
structure Xbd (r:Xo):Prop where
 fs:FsC r.2.2.2.2.2.1
 by_:r.2.2.2.1.length≤256
 nm:r.2.2.2.2.1.length≤6
 nl:∀ n∈r.2.2.2.2.1,n.length≤4
theorem Xbd.of {f:Fs_} (h:FsC f) (c r v:Int):Xbd (Xa5 c r v f):=⟨h,kE _,kE _,fun n hn=>by cases hn⟩
theorem Xbd.wt {r:Xo} (h:Xbd r):wt Xj r≤2147483648:=by
 have h1:=h.fs.wt;have h2:=h.by_;have h3:=h.nm;have e2:∀ w:List Int,(w.map (Mf.wt (.int .u8))).sum=w.length:=fun w=>Xgt .u8 w
 have h4:=Yt2 (Mf.wt .str) 5 (xs:=r.2.2.2.2.1) fun n hn=>by
  have:=h.nl n hn;rw[Yo3];omega
 obtain⟨a,b,c,bs,ns,g,u⟩:=r;have e:Mf.wt Xj (a,b,c,bs,ns,g,u)=1+(1+(1+((bs.map (Mf.wt (.int .u8))).sum+1+((ns.map (Mf.wt .str)).sum+1+(Mf.wt Xh g+0))))):=rfl;simp only at h1 h2 h3 h4;rw[e,e2];omega
theorem Xpk (f:Fs_) (hb:Bd Xh f) (h0:fsF f=0) {busy:List Int} (h:Whole f busy) (c:Xap) (hk:1≤c.1∧c.1≤11∧c.2.2.2.2.2.1.length≤40) :
  ∃ r,Xf5 f c busy=some r∧Xft f c busy=some (r,())∧Xbd r:=by
 have hT:=h.tree;have ht:=Xa0.of hT;have hB:=FsB.ofT hT;have hC:=FsC.ofB hB;obtain⟨k1,k2,k3⟩:=hk
 by_cases c1:c.1=1
 ·obtain⟨a,rc,g,q1,q2,q3⟩:=Xl6 f hT c.2.1 false
  have q1':Xk8 f c.2.1 1=some (Xa5 0 rc a g):=q1;simp only[Xf5,Xft,c1,show((1:Int) == 1)=true from rfl,show((1:Int) == 2)=false from rfl,Ywg,q1',q2,jA];exact⟨_,rfl,rfl,Xbd.of q3 0 rc a⟩
 by_cases c2:c.1=2
 ·obtain⟨a,rc,g,q1,q2,q3⟩:=Xl6 f hT c.2.1 true
  have q1':Xk8 f c.2.1 2=some (Xa5 0 rc a g):=q1;simp only[Xf5,Xft,c2,show((2:Int) == 1)=false from rfl,show((2:Int) == 2)=true from rfl,Ywg,Ywf,q1',q2,jA];exact⟨_,rfl,rfl,Xbd.of q3 0 rc a⟩
 have n1:(c.1 == 1)=false:=by simpa using c1
 have n2:(c.1 == 2)=false:=by simpa using c2
 obtain⟨fr,fv,fb,fg,s1,s2,s3,s4⟩:=Xof f hb h0 h c k3
 have fileR:Xbd (0,fr,fv,fb,[],fg,()):=⟨s3,s4,kE _,fun n hn=>by cases hn⟩
 simp only[Xf5,Xft,n1,n2,Ywf,s1,s2,jA]
 by_cases c3:c.1=3
 ·rw[c3];exact⟨_,rfl,rfl,fileR⟩
 by_cases c4:c.1=4
 ·rw[c4];exact⟨_,rfl,rfl,fileR⟩
 by_cases c5:c.1=5
 ·rw[c5];exact⟨_,rfl,rfl,fileR⟩
 have n3:(c.1 == 3)=false:=by simpa using c3
 have n4:(c.1 == 4)=false:=by simpa using c4
 have n5:(c.1 == 5)=false:=by simpa using c5
 clear s1 s2 s3 s4 fileR;obtain⟨gr,gg,t1,t2,t3,t4⟩:=Xsz f hT c;simp only[n3,n4,n5,Ywf,t1,jA]
 by_cases c6:c.1=6
 ·rw[t3 c6,c6];exact⟨_,rfl,rfl,Xbd.of t2 0 gr 0⟩
 by_cases c7:c.1=7
 ·rw[t4 c7,c7];exact⟨_,rfl,rfl,Xbd.of t2 0 gr 0⟩
 have n6:(c.1 == 6)=false:=by simpa using c6
 have n7:(c.1 == 7)=false:=by simpa using c7
 obtain⟨lc,lg,u1,u2,u3⟩:=Xoh f hT c.2.1 c.2.2.1;obtain⟨rc,rg,v1,v2,v3⟩:=Xnh f hT c.2.1 c.2.2.1;simp only[n6,n7,Ywf,u1,u2,v1,v2,jA]
 by_cases c8:c.1=8
 ·rw[c8];exact⟨_,rfl,rfl,Xbd.of u3 0 lc 0⟩
 by_cases c9:c.1=9
 ·rw[c9];exact⟨_,rfl,rfl,Xbd.of v3 0 rc 0⟩
 have n8:(c.1 == 8)=false:=by simpa using c8
 have n9:(c.1 == 9)=false:=by simpa using c9
 have hwalk:=Xlt ht c.2.1
 have e10:∀ c,X3 f c=some (Xa5 0 c 0 f):=fun c=>by simp only[X3,Xcb hB,jA,Xa5]
 simp only[n8,n9,Ywf,Xj2,Xou f ht,Xov f ht,jA,Xj0,Xos f hb,h0,show((0:Int) != 0)=false from rfl,e10,Xcb hB];generalize Xba f.1 c.2.1=W at *;obtain⟨a,wc⟩:=W;simp only at hwalk;have hq:=ht.at_ hwalk.1 hwalk.2
 cases h1:(wc != 0) with
 |true=>
  by_cases c10:c.1=10
  ·rw[c10]
   exact⟨Xa5 0 wc 0 f,rfl,rfl,Xbd.of hC 0 wc 0⟩
  ·have n10:(c.1 == 10)=false:=by simpa using c10
   rw[n10]
   exact⟨Xa5 0 wc 0 f,rfl,rfl,Xbd.of hC 0 wc 0⟩
 |false=>
  have en:(f.1.getD a.toNat Xa).2.2.2.2.1=Xc f.1 a:=rfl;simp only[Ywf,Yuw hwalk.1 hwalk.2,Ywg,Xs7 f hb h0 ht hwalk.1 hwalk.2,Xs0 f hwalk.1 hwalk.2 hq.1,Xkc,Xkb,en,jA,Xcb hB]
  by_cases c10:c.1=10
  ·simp only[c10,show((10:Int) == 10)=true from rfl,Ywg]
   cases ((f.1.getD a.toNat Xa).1 == 2) with
   |true=>
    simp only[Ywg,jA,Int.mul_comm (1000:Int),Int.mul_comm (100:Int),show((0:Int) != 0)=false from rfl,Ywf]
    exact⟨_,rfl,rfl,Xbd.of hC _ _ _⟩
   |false=>
    simp only[Ywg,jA,Int.mul_comm (1000:Int),Int.mul_comm (100:Int),show((0:Int) != 0)=false from rfl,Ywf];exact⟨_,rfl,rfl,Xbd.of hC _ _ _⟩
  ·have n10:(c.1 == 10)=false:=by simpa using c10
   simp only[n10,Ywf]
   cases ((f.1.getD a.toNat Xa).1 != 2) with
   |true=>exact⟨Xa5 0 9 0 f,rfl,rfl,Xbd.of hC 0 9 0⟩
   |false=>
    refine⟨(0,0,0,[],Xgh (Xc f.1 a),f,()),rfl,rfl,hC,kE _,?_,fun n hn=>?_⟩
    ·show(Xgh (Xc f.1 a)).length≤6
     unfold Xgh;rw[kP];exact hq.1
    ·obtain⟨e,he,rfl⟩:=List.mem_map.1 (show n∈(Xc f.1 a).map _ from hn)
     exact(Xgg (hq.2.2 e he).1).2.1
theorem DoCall.main (f:Fs_) (c:Xap) (busy:List Int) (hf:Fit Xh f) (hf1:Fit Xv c) (hf2:Fit (.sl (.int .i64)) busy) (hw:wt Xh f≤1048576) (hw1:wt Xv c≤1048576) (hw2:wt (.sl (.int .i64)) busy≤1048576):∃ r,Xg4 f c busy=some r∧Xf8 f c busy=some r∧wt Xj r≤2147483648:=by
 have hb:Bd Xh f:=Yo7 rfl (by omega)
 have bad:∀ x:Int,Xbd (x,0,0,[],[],([],[],()),())→True:=fun _ _=>trivial
 have wt0:∀ x:Int,wt Xj (x,0,0,[],[],([],[],()),())≤2147483648:=fun x=>by simp[Ymj,Yvd,Yt7,Ysv]
 obtain⟨ck,g1,g2,g3⟩:=Xoc c;simp only[Xg4,Xf8,Xos f hb,Xsi f hb,jA,g1,g2,Xsj,Xot,Xrr f hb]
 cases h:(fsF f != 0) with
 |true=>
  have h':(fsF f == 0)=false:=by simpa using h
  simp only[Ywg,h',Ywf,h]
  exact⟨_,rfl,rfl,wt0 _⟩
 |false=>
  have h0:fsF f=0:=by simpa using h
  have hT:=(Xoo.of h0).tree;simp only[h0,show((0:Int) == 0)=true from rfl,Ywg,Ywf,show((0:Int) != 0)=false from rfl]
  cases hc:(ck != 0) with
  |true=>
   simp only[Ywg,hc]
   exact⟨_,rfl,rfl,wt0 _⟩
  |false=>
   have hc0:ck=0:=by simpa using hc
   simp only[Ywf]
   cases hy:(Xke busy != 0) with
   |true=>exact⟨_,rfl,rfl,wt0 _⟩
   |false=>
    obtain⟨r,r1,r2,r3⟩:=Xpk f hb h0 ⟨hT,by simpa using hy⟩ c (g3 hc0)
    simp only[Ywf,r1,r2,jA];exact⟨r,rfl,rfl,r3.wt⟩
theorem DoCall.law (x:PT.Els (shs [Xh,Xv,(.sl (.int .i64))])) (hf:Ynv [Xh,Xv,(.sl (.int .i64))] x) (hw:Ypw [Xh,Xv,(.sl (.int .i64))] x≤1048576):Xkd x.1 x.2.1 x.2.2.1=some true:=by
 simp only[Ypw] at hw;have hf0:Fit Xh x.1:=hf.1;have hf1:Fit Xv x.2.1:=hf.2.1;have hf2:Fit (.sl (.int .i64)) x.2.2.1:=hf.2.2.1
 have hw0:wt Xh x.1≤1048576:=by omega
 have hw1:wt Xv x.2.1≤1048576:=by omega
 have hw2:wt (.sl (.int .i64)) x.2.2.1≤1048576:=by omega
 clear hw hf;generalize x.2.2.1=a2 at hf2 hw2 ⊢;generalize x.2.1=a1 at hf1 hw1 ⊢;generalize x.1=a0 at hf0 hw0 ⊢;obtain⟨r,hr1,hr2,hr3⟩:=DoCall.main a0 a1 a2 hf0 hf1 hf2 hw0 hw1 hw2;obtain⟨r_0,r_1,r_2,r_3,r_4,⟨r_5_0,r_5_1,⟨⟩⟩,⟨⟩⟩:=r;replace hr3:wt Xj (r_0,r_1,r_2,r_3,r_4,(r_5_0,r_5_1,()),())≤2147483648:=hr3;replace hr1:Xg4 a0 a1 a2=some (r_0,r_1,r_2,r_3,r_4,(r_5_0,r_5_1,()),()):=hr1;replace hr2:Xf8 a0 a1 a2=some (r_0,r_1,r_2,r_3,r_4,(r_5_0,r_5_1,()),()):=hr2;have er:=Xrj (r_0,r_1,r_2,r_3,r_4,(r_5_0,r_5_1,()),()) hr3
 obtain⟨kr,y0,y1,y2,y3,l1,l2,hm,hh⟩:=Xrp r_0 r_1 r_2 r_3 r_4 r_5_0 r_5_1 1 (by omega) (by omega) hr3
 have to0:=Xrb a0 (by omega)
 have eq0:=Xpv a0 (by omega)
 have to1:=Xrc a1 (by omega)
 have eq1:=Xrk a1 (by omega)
 have to2:=Xps a2 (by omega)
 have eq2:=Xpu a2 (by omega)
 obtain⟨k0,z0_0,z0_1,l0,u0,m0,_⟩:=Xro a0.1 a0.2.1 1 (by omega) (by show _+((wt Xh a0:Nat):Int)≤_;omega) (by show wt Xh a0≤_;omega)
 have u0:k0≤1+((wt Xh a0:Nat):Int):=u0
 try simp only[Yxc] at m0
 obtain⟨k1,z1_0,l1,u1,m1⟩:=Xrl a1.1 a1.2.1 a1.2.2.1 a1.2.2.2.1 a1.2.2.2.2.1 a1.2.2.2.2.2.1 k0 (by omega) (by show _+((wt Xv a1:Nat):Int)≤_;omega) (by show wt Xv a1≤_;omega)
 have u1:k1≤k0+((wt Xv a1:Nat):Int):=u1
 try simp only[Yxc] at m1
 obtain⟨k2,z2,l2,u2,m2,_⟩:=Xpy a2 k1 (by omega) (by omega) (by omega)
 have hsz:∀ g:Option Bool,g=some true→∀ b:Bool,cond b (some true) g=some true:=fun g h b=>by cases b<;>first | rfl | exact h
 simp only[Xkd]
 repeat' (first | with_reducible refine hsz _ ?_ _ | (rw[jA]) | (obtain⟨q,hq⟩:=Xq4 a0 _ (by omega);rw[hq,jA];clear hq) | (obtain⟨q,hq⟩:=Xq5 a1 _ (by omega);rw[hq,jA];clear hq))
 simp only[er,hm,hh,to0,eq0,to1,eq1,to2,eq2,m0,m1,m2,hr1,hr2,Yxc,jA,jK,Ywf,Ywg,Yvo,Yve,Yvf,Ywm (by omega:0≤kr),Ywm (by omega:0≤k2)]
end Mf
