import Derived.Test.YthaonimonnheeaaRepairFsA
noncomputable section
namespace Mf
open Go
set_option linter.unusedVariables false
set_option linter.unusedSimpArgs false
set_option maxRecDepth 100000
theorem Xi4 (a:(List Int)) (n:Int) (hw:wt (.sl (.int .i64)) a≤2147483648):∃ r,Zq0 a n=some r:=by
 simp only[Zq0]
 repeat' (first | with_reducible exact Ywo _ | with_reducible refine Ywq (Ywo _) fun _=>?_ | with_reducible apply Yww)
theorem Xii (a:Xc) (n:Int) (hw:wt Xe a≤2147483648):∃ r,Zq1 a n=some r:=by
 simp only[Zq1]
 repeat' (first | with_reducible exact Ywo _ | with_reducible refine Ywq (Ywo _) fun _=>?_ | with_reducible apply Yww)
theorem Xjd (a:(List Xc)) (n:Int) (hw:wt (.sl Xe) a≤2147483648):∃ r,Zq3 a n=some r:=by
 have hw2:=hw;simp only[Yt8,Ypv,Yw2,Ywu,Yrv,Ywt] at hw2
 have hl:a.length≤2147483648:=by have:=Ylh (wt Xe) (fun x=>by simp only[Yt8,Ypv,Yw2,Ywu,Yrv,Ywt];omega) a;omega
 have lp:∀ k,∃ r,Zq2 a (k,0)=some r:=fun k=>by
  refine Ysx (f:=fun s=>Zq2.B a s.1 s.2) (fun(i:Nat) (k:Int)=>(k,(i:Int))) a.length (fun i k hi=>?_) (fun k=>?_) a.length 0 k (by omega)
  ·have hm:=Ytv (wt Xe) a i hi
   have hb:inB (i:Int) a.length=true:=Yuq (by omega) (by omega)
   simp only[Zq2.B,Yxe hi,hb,Ywx,toNat_cast,getD_lt _ hi,Ywe (by omega:i<4294967296)]
   repeat' (first | with_reducible exact Yw1 _ | (with_reducible refine .inl ⟨_,rfl,?_⟩;exact⟨_,rfl⟩) | with_reducible refine Yvp (Xii _ _ (by first | omega | (simp only[Yt8,Ypv,Yw2,Ywu,Yrv,Ywt] at hm ⊢;omega))) fun _=>?_ | with_reducible refine Yvp (Ywo _) fun _=>?_ | with_reducible apply Yvx)
  ·refine⟨.inr k,?_⟩;simp only[Zq2.B,Yxg (Nat.le_refl _),Ywl]
 simp only[Zq3]
 repeat' (first | with_reducible exact Ywo _ | with_reducible refine Ywq (lp _) fun o=>?_ | with_reducible refine Ywq (Ywo _) fun _=>?_ | with_reducible apply Yww | (cases o<;>exact⟨_,rfl⟩))
theorem Xih (a:Xb) (n:Int) (hw:wt Xd a≤2147483648):∃ r,Zq4 a n=some r:=by
 simp only[Zq4]
 repeat' (first | with_reducible exact Ywo _ | with_reducible refine Ywq (Xi4 _ _ (by first | omega | (simp only[Yt8,Ypv,Yw2,Ywu,Yrv,Ywt] at hw ⊢;omega))) fun _=>?_ | with_reducible refine Ywq (Xjd _ _ (by first | omega | (simp only[Yt8,Ypv,Yw2,Ywu,Yrv,Ywt] at hw ⊢;omega))) fun _=>?_ | with_reducible refine Ywq (Ywo _) fun _=>?_ | with_reducible apply Yww)
theorem Xig (a:(List Xb)) (n:Int) (hw:wt (.sl Xd) a≤2147483648):∃ r,Zq6 a n=some r:=by
 have hw2:=hw;simp only[Yt8,Ypv,Yw2,Ywu,Yrv,Ywt] at hw2
 have hl:a.length≤2147483648:=by have:=Ylh (wt Xd) (fun x=>by simp only[Yt8,Ypv,Yw2,Ywu,Yrv,Ywt];omega) a;omega
 have lp:∀ k,∃ r,Zq5 a (k,0)=some r:=fun k=>by
  refine Ysx (f:=fun s=>Zq5.B a s.1 s.2) (fun(i:Nat) (k:Int)=>(k,(i:Int))) a.length (fun i k hi=>?_) (fun k=>?_) a.length 0 k (by omega)
  ·have hm:=Ytv (wt Xd) a i hi
   have hb:inB (i:Int) a.length=true:=Yuq (by omega) (by omega)
   simp only[Zq5.B,Yxe hi,hb,Ywx,toNat_cast,getD_lt _ hi,Ywe (by omega:i<4294967296)]
   repeat' (first | with_reducible exact Yw1 _ | (with_reducible refine .inl ⟨_,rfl,?_⟩;exact⟨_,rfl⟩) | with_reducible refine Yvp (Xih _ _ (by first | omega | (simp only[Yt8,Ypv,Yw2,Ywu,Yrv,Ywt] at hm ⊢;omega))) fun _=>?_ | with_reducible refine Yvp (Ywo _) fun _=>?_ | with_reducible apply Yvx)
  ·refine⟨.inr k,?_⟩;simp only[Zq5.B,Yxg (Nat.le_refl _),Ywl]
 simp only[Zq6]
 repeat' (first | with_reducible exact Ywo _ | with_reducible refine Ywq (lp _) fun o=>?_ | with_reducible refine Ywq (Ywo _) fun _=>?_ | with_reducible apply Yww | (cases o<;>exact⟨_,rfl⟩))
theorem Xin (a:(List Int)) (n:Int) (hw:wt (.sl (.int .u8)) a≤2147483648):∃ r,Zq7 a n=some r:=by
 simp only[Zq7]
 repeat' (first | with_reducible exact Ywo _ | with_reducible refine Ywq (Ywo _) fun _=>?_ | with_reducible apply Yww)
theorem Xhz (a:(List (List Int))) (n:Int) (hw:wt (.sl (.sl (.int .u8))) a≤2147483648):∃ r,Zq9 a n=some r:=by
 have hw2:=hw;simp only[Yt8,Ypv,Yw2,Ywu,Yrv,Ywt] at hw2
 have hl:a.length≤2147483648:=by have:=Ylh (wt (.sl (.int .u8))) (fun x=>by simp only[Yt8,Ypv,Yw2,Ywu,Yrv,Ywt];omega) a;omega
 have lp:∀ k,∃ r,Zq8 a (k,0)=some r:=fun k=>by
  refine Ysx (f:=fun s=>Zq8.B a s.1 s.2) (fun(i:Nat) (k:Int)=>(k,(i:Int))) a.length (fun i k hi=>?_) (fun k=>?_) a.length 0 k (by omega)
  ·have hm:=Ytv (wt (.sl (.int .u8))) a i hi
   have hb:inB (i:Int) a.length=true:=Yuq (by omega) (by omega)
   simp only[Zq8.B,Yxe hi,hb,Ywx,toNat_cast,getD_lt _ hi,Ywe (by omega:i<4294967296)]
   repeat' (first | with_reducible exact Yw1 _ | (with_reducible refine .inl ⟨_,rfl,?_⟩;exact⟨_,rfl⟩) | with_reducible refine Yvp (Xin _ _ (by first | omega | (simp only[Yt8,Ypv,Yw2,Ywu,Yrv,Ywt] at hm ⊢;omega))) fun _=>?_ | with_reducible refine Yvp (Ywo _) fun _=>?_ | with_reducible apply Yvx)
  ·refine⟨.inr k,?_⟩;simp only[Zq8.B,Yxg (Nat.le_refl _),Ywl]
 simp only[Zq9]
 repeat' (first | with_reducible exact Ywo _ | with_reducible refine Ywq (lp _) fun o=>?_ | with_reducible refine Ywq (Ywo _) fun _=>?_ | with_reducible apply Yww | (cases o<;>exact⟨_,rfl⟩))
theorem Xip (a:Fs_) (n:Int) (hw:wt Xi a≤2147483648):∃ r,Xfc a n=some r:=by
 simp only[Xfc]
 repeat' (first | with_reducible exact Ywo _ | with_reducible refine Ywq (Xig _ _ (by first | omega | (simp only[Yt8,Ypv,Yw2,Ywu,Yrv,Ywt] at hw ⊢;omega))) fun _=>?_ | with_reducible refine Ywq (Xhz _ _ (by first | omega | (simp only[Yt8,Ypv,Yw2,Ywu,Yrv,Ywt] at hw ⊢;omega))) fun _=>?_ | with_reducible refine Ywq (Ywo _) fun _=>?_ | with_reducible apply Yww)
theorem Xiq (a:(List Int)) (hw:wt (.sl (.int .i64)) a≤2147483648):Xe4 a=some a:=by
 have hw2:=hw;simp only[Yt8,Ypv,Yw2,Ywu,Yrv,Ywt] at hw2
 have hl:a.length≤2147483648:=by have:=Ylh (wt (.int .i64)) (fun x=>by simp only[Yt8,Ypv,Yw2,Ywu,Yrv,Ywt];omega) a;omega
 have lp:Xdu a (0,List.replicate (a.length:Int).toNat 0)=some a:=by
  refine Yvu a (fun s=>Xdu.B a s.1 s.2) 0 (fun i hi out ho=>?_) (fun out ho=>?_)
  ·have hm:=Ytv (wt (.int .i64)) a i hi
   have hb:inB (i:Int) a.length=true:=Yuq (by omega) (by omega)
   have hc:inB (i:Int) out.length=true:=Yuq (by omega) (by omega)
   simp only[Xdu.B,Yxe hi,hb,hc,Ywx,toNat_cast,getD_lt _ hi,Option.bind_some,Yxp,Ywe (by omega:i<4294967296)]
  ·simp only[Xdu.B];rw[show decide ((a.length:Int)<(a.length:Int))=false by simp];rfl
 simp only[Xe4]
 rw[show(decide ((0:Int)≤(a.length:Int))&&(decide ((a.length:Int)≤(a.length:Int))&&decide ((a.length:Int)≤2147483648)))=true by simp;omega]
 simp only[Ywx,Option.bind_some,lp]
theorem Xh0 (a:Xc) (hw:wt Xe a≤2147483648):Xfp a=some a:=by
 obtain⟨x0,x1,⟨⟩⟩:=a;simp only[Yt8,Ypv,Yw2,Ywu,Yrv,Ywt] at hw;simp only[Xfp,Option.bind_some,Yxp]
theorem Xi8 (a:(List Xc)) (hw:wt (.sl Xe) a≤2147483648):Xdp a=some a:=by
 have hw2:=hw;simp only[Yt8,Ypv,Yw2,Ywu,Yrv,Ywt] at hw2
 have hl:a.length≤2147483648:=by have:=Ylh (wt Xe) (fun x=>by simp only[Yt8,Ypv,Yw2,Ywu,Yrv,Ywt];omega) a;omega
 have lp:Xc6 a (0,List.replicate (a.length:Int).toNat Xh)=some a:=by
  refine Yvu a (fun s=>Xc6.B a s.1 s.2) Xh (fun i hi out ho=>?_) (fun out ho=>?_)
  ·have hm:=Ytv (wt Xe) a i hi
   have hb:inB (i:Int) a.length=true:=Yuq (by omega) (by omega)
   have hc:inB (i:Int) out.length=true:=Yuq (by omega) (by omega)
   have h0:=Xh0 a[i] (by omega)
   simp only[Xc6.B,Yxe hi,hb,hc,Ywx,toNat_cast,getD_lt _ hi,h0,Option.bind_some,Yxp,Ywe (by omega:i<4294967296)]
  ·simp only[Xc6.B];rw[show decide ((a.length:Int)<(a.length:Int))=false by simp];rfl
 simp only[Xdp]
 rw[show(decide ((0:Int)≤(a.length:Int))&&(decide ((a.length:Int)≤(a.length:Int))&&decide ((a.length:Int)≤2147483648)))=true by simp;omega]
 simp only[Ywx,Option.bind_some,lp]
theorem Xir (a:Xb) (hw:wt Xd a≤2147483648):Xfj a=some a:=by
 obtain⟨x0,x1,x2,x3,x4,⟨⟩⟩:=a;simp only[Yt8,Ypv,Yw2,Ywu,Yrv,Ywt] at hw
 have h_x3_0:=Xiq x3 (by simp only[Yt8,Ypv,Yw2,Ywu,Yrv,Ywt];omega)
 have h_x4_1:=Xi8 x4 (by simp only[Yt8,Ypv,Yw2,Ywu,Yrv,Ywt];omega)
 simp only[Xfj,h_x3_0,h_x4_1,Option.bind_some,Yxp]
theorem Xjn (a:(List Xb)) (hw:wt (.sl Xd) a≤2147483648):Xdg a=some a:=by
 have hw2:=hw;simp only[Yt8,Ypv,Yw2,Ywu,Yrv,Ywt] at hw2
 have hl:a.length≤2147483648:=by have:=Ylh (wt Xd) (fun x=>by simp only[Yt8,Ypv,Yw2,Ywu,Yrv,Ywt];omega) a;omega
 have lp:Xdh a (0,List.replicate (a.length:Int).toNat Xa)=some a:=by
  refine Yvu a (fun s=>Xdh.B a s.1 s.2) Xa (fun i hi out ho=>?_) (fun out ho=>?_)
  ·have hm:=Ytv (wt Xd) a i hi
   have hb:inB (i:Int) a.length=true:=Yuq (by omega) (by omega)
   have hc:inB (i:Int) out.length=true:=Yuq (by omega) (by omega)
   have h0:=Xir a[i] (by omega)
   simp only[Xdh.B,Yxe hi,hb,hc,Ywx,toNat_cast,getD_lt _ hi,h0,Option.bind_some,Yxp,Ywe (by omega:i<4294967296)]
  ·simp only[Xdh.B];rw[show decide ((a.length:Int)<(a.length:Int))=false by simp];rfl
 simp only[Xdg]
 rw[show(decide ((0:Int)≤(a.length:Int))&&(decide ((a.length:Int)≤(a.length:Int))&&decide ((a.length:Int)≤2147483648)))=true by simp;omega]
 simp only[Ywx,Option.bind_some,lp]
theorem Xjg (a:(List Int)) (hw:wt (.sl (.int .u8)) a≤2147483648):Xe7 a=some a:=by
 have hw2:=hw;simp only[Yt8,Ypv,Yw2,Ywu,Yrv,Ywt] at hw2
 have hl:a.length≤2147483648:=by have:=Ylh (wt (.int .u8)) (fun x=>by simp only[Yt8,Ypv,Yw2,Ywu,Yrv,Ywt];omega) a;omega
 have lp:Xc9 a (0,List.replicate (a.length:Int).toNat 0)=some a:=by
  refine Yvu a (fun s=>Xc9.B a s.1 s.2) 0 (fun i hi out ho=>?_) (fun out ho=>?_)
  ·have hm:=Ytv (wt (.int .u8)) a i hi
   have hb:inB (i:Int) a.length=true:=Yuq (by omega) (by omega)
   have hc:inB (i:Int) out.length=true:=Yuq (by omega) (by omega)
   simp only[Xc9.B,Yxe hi,hb,hc,Ywx,toNat_cast,getD_lt _ hi,Option.bind_some,Yxp,Ywe (by omega:i<4294967296)]
  ·simp only[Xc9.B];rw[show decide ((a.length:Int)<(a.length:Int))=false by simp];rfl
 simp only[Xe7]
 rw[show(decide ((0:Int)≤(a.length:Int))&&(decide ((a.length:Int)≤(a.length:Int))&&decide ((a.length:Int)≤2147483648)))=true by simp;omega]
 simp only[Ywx,Option.bind_some,lp]
theorem Xh9 (a:(List (List Int))) (hw:wt (.sl (.sl (.int .u8))) a≤2147483648):Xc5 a=some a:=by
 have hw2:=hw;simp only[Yt8,Ypv,Yw2,Ywu,Yrv,Ywt] at hw2
 have hl:a.length≤2147483648:=by have:=Ylh (wt (.sl (.int .u8))) (fun x=>by simp only[Yt8,Ypv,Yw2,Ywu,Yrv,Ywt];omega) a;omega
 have lp:Xdk a (0,List.replicate (a.length:Int).toNat ([]:List Int))=some a:=by
  refine Yvu a (fun s=>Xdk.B a s.1 s.2) [] (fun i hi out ho=>?_) (fun out ho=>?_)
  ·have hm:=Ytv (wt (.sl (.int .u8))) a i hi
   have hb:inB (i:Int) a.length=true:=Yuq (by omega) (by omega)
   have hc:inB (i:Int) out.length=true:=Yuq (by omega) (by omega)
   have h0:=Xjg a[i] (by omega)
   simp only[Xdk.B,Yxe hi,hb,hc,Ywx,toNat_cast,getD_lt _ hi,h0,Option.bind_some,Yxp,Ywe (by omega:i<4294967296)]
  ·simp only[Xdk.B];rw[show decide ((a.length:Int)<(a.length:Int))=false by simp];rfl
 simp only[Xc5]
 rw[show(decide ((0:Int)≤(a.length:Int))&&(decide ((a.length:Int)≤(a.length:Int))&&decide ((a.length:Int)≤2147483648)))=true by simp;omega]
 simp only[Ywx,Option.bind_some,lp]
theorem Xi7 (a:Fs_) (hw:wt Xi a≤2147483648):Xem a=some a:=by
 obtain⟨x0,x1,⟨⟩⟩:=a;simp only[Yt8,Ypv,Yw2,Ywu,Yrv,Ywt] at hw
 have h_x0_0:=Xjn x0 (by simp only[Yt8,Ypv,Yw2,Ywu,Yrv,Ywt];omega)
 have h_x1_1:=Xh9 x1 (by simp only[Yt8,Ypv,Yw2,Ywu,Yrv,Ywt];omega)
 simp only[Xem,h_x0_0,h_x1_1,Option.bind_some,Yxp]
theorem Xji (a:(List Int)) (hw:wt (.sl (.int .i64)) a≤2147483648):Xc1 a a=some true:=by
 have hw2:=hw;simp only[Yt8,Ypv,Yw2,Ywu,Yrv,Ywt] at hw2
 have hl:a.length≤2147483648:=by have:=Ylh (wt (.int .i64)) (fun x=>by simp only[Yt8,Ypv,Yw2,Ywu,Yrv,Ywt];omega) a;omega
 have lp:Xaz a a 0=some (.inr ()):=by
  refine Yvk (n:=a.length) (fun s=>Xaz.B a a s) (fun i hi=>?_) ?_
  ·have hm:=Ytv (wt (.int .i64)) a i hi
   have hb:inB (i:Int) a.length=true:=Yuq (by omega) (by omega)
   simp only[Xaz.B,Yxe hi,hb,Ywx,Ywl,toNat_cast,getD_lt _ hi,Option.bind_some,Bool.not_true,Yvr,Yvf,Yu9,Ywe (by omega:i<4294967296)]
  ·simp only[Xaz.B,Yxg (Nat.le_refl _),Ywl]
 simp only[Xc1,Yvr,Ywl,lp,Option.bind_some,sel]
theorem Xia (a:Xc) (hw:wt Xe a≤2147483648):Xc3 a a=some true:=by
 obtain⟨x0,x1,⟨⟩⟩:=a;simp only[Yt8,Ypv,Yw2,Ywu,Yrv,Ywt] at hw;simp only[Xc3,Option.bind_some,Bool.not_true,Yvr,Yvf,Yu9,Ywl,Ywx]
theorem Xja (a:(List Xc)) (hw:wt (.sl Xe) a≤2147483648):Xbh a a=some true:=by
 have hw2:=hw;simp only[Yt8,Ypv,Yw2,Ywu,Yrv,Ywt] at hw2
 have hl:a.length≤2147483648:=by have:=Ylh (wt Xe) (fun x=>by simp only[Yt8,Ypv,Yw2,Ywu,Yrv,Ywt];omega) a;omega
 have lp:Xa5 a a 0=some (.inr ()):=by
  refine Yvk (n:=a.length) (fun s=>Xa5.B a a s) (fun i hi=>?_) ?_
  ·have hm:=Ytv (wt Xe) a i hi
   have hb:inB (i:Int) a.length=true:=Yuq (by omega) (by omega)
   have h0:=Xia a[i] (by omega)
   simp only[Xa5.B,Yxe hi,hb,Ywx,Ywl,toNat_cast,getD_lt _ hi,h0,Option.bind_some,Bool.not_true,Yvr,Yvf,Yu9,Ywe (by omega:i<4294967296)]
  ·simp only[Xa5.B,Yxg (Nat.le_refl _),Ywl]
 simp only[Xbh,Yvr,Ywl,lp,Option.bind_some,sel]
theorem Xh1 (a:Xb) (hw:wt Xd a≤2147483648):Xco a a=some true:=by
 obtain⟨x0,x1,x2,x3,x4,⟨⟩⟩:=a;simp only[Yt8,Ypv,Yw2,Ywu,Yrv,Ywt] at hw
 have h_x3_0:=Xji x3 (by simp only[Yt8,Ypv,Yw2,Ywu,Yrv,Ywt];omega)
 have h_x4_1:=Xja x4 (by simp only[Yt8,Ypv,Yw2,Ywu,Yrv,Ywt];omega)
 simp only[Xco,h_x3_0,h_x4_1,Option.bind_some,Bool.not_true,Yvr,Yvf,Yu9,Ywl,Ywx]
theorem Xi0 (a:(List Xb)) (hw:wt (.sl Xd) a≤2147483648):Xa3 a a=some true:=by
 have hw2:=hw;simp only[Yt8,Ypv,Yw2,Ywu,Yrv,Ywt] at hw2
 have hl:a.length≤2147483648:=by have:=Ylh (wt Xd) (fun x=>by simp only[Yt8,Ypv,Yw2,Ywu,Yrv,Ywt];omega) a;omega
 have lp:Xav a a 0=some (.inr ()):=by
  refine Yvk (n:=a.length) (fun s=>Xav.B a a s) (fun i hi=>?_) ?_
  ·have hm:=Ytv (wt Xd) a i hi
   have hb:inB (i:Int) a.length=true:=Yuq (by omega) (by omega)
   have h0:=Xh1 a[i] (by omega)
   simp only[Xav.B,Yxe hi,hb,Ywx,Ywl,toNat_cast,getD_lt _ hi,h0,Option.bind_some,Bool.not_true,Yvr,Yvf,Yu9,Ywe (by omega:i<4294967296)]
  ·simp only[Xav.B,Yxg (Nat.le_refl _),Ywl]
 simp only[Xa3,Yvr,Ywl,lp,Option.bind_some,sel]
theorem Xh8 (a:(List Int)) (hw:wt (.sl (.int .u8)) a≤2147483648):Xcr a a=some true:=by
 have hw2:=hw;simp only[Yt8,Ypv,Yw2,Ywu,Yrv,Ywt] at hw2
 have hl:a.length≤2147483648:=by have:=Ylh (wt (.int .u8)) (fun x=>by simp only[Yt8,Ypv,Yw2,Ywu,Yrv,Ywt];omega) a;omega
 have lp:Xay a a 0=some (.inr ()):=by
  refine Yvk (n:=a.length) (fun s=>Xay.B a a s) (fun i hi=>?_) ?_
  ·have hm:=Ytv (wt (.int .u8)) a i hi
   have hb:inB (i:Int) a.length=true:=Yuq (by omega) (by omega)
   simp only[Xay.B,Yxe hi,hb,Ywx,Ywl,toNat_cast,getD_lt _ hi,Option.bind_some,Bool.not_true,Yvr,Yvf,Yu9,Ywe (by omega:i<4294967296)]
  ·simp only[Xay.B,Yxg (Nat.le_refl _),Ywl]
 simp only[Xcr,Yvr,Ywl,lp,Option.bind_some,sel]
theorem Xjp (a:(List (List Int))) (hw:wt (.sl (.sl (.int .u8))) a≤2147483648):Xa0 a a=some true:=by
 have hw2:=hw;simp only[Yt8,Ypv,Yw2,Ywu,Yrv,Ywt] at hw2
 have hl:a.length≤2147483648:=by have:=Ylh (wt (.sl (.int .u8))) (fun x=>by simp only[Yt8,Ypv,Yw2,Ywu,Yrv,Ywt];omega) a;omega
 have lp:Xbd a a 0=some (.inr ()):=by
  refine Yvk (n:=a.length) (fun s=>Xbd.B a a s) (fun i hi=>?_) ?_
  ·have hm:=Ytv (wt (.sl (.int .u8))) a i hi
   have hb:inB (i:Int) a.length=true:=Yuq (by omega) (by omega)
   have h0:=Xh8 a[i] (by omega)
   simp only[Xbd.B,Yxe hi,hb,Ywx,Ywl,toNat_cast,getD_lt _ hi,h0,Option.bind_some,Bool.not_true,Yvr,Yvf,Yu9,Ywe (by omega:i<4294967296)]
  ·simp only[Xbd.B,Yxg (Nat.le_refl _),Ywl]
 simp only[Xa0,Yvr,Ywl,lp,Option.bind_some,sel]
theorem Xhl (a:Fs_) (hw:wt Xi a≤2147483648):Xbm a a=some true:=by
 obtain⟨x0,x1,⟨⟩⟩:=a;simp only[Yt8,Ypv,Yw2,Ywu,Yrv,Ywt] at hw
 have h_x0_0:=Xi0 x0 (by simp only[Yt8,Ypv,Yw2,Ywu,Yrv,Ywt];omega)
 have h_x1_1:=Xjp x1 (by simp only[Yt8,Ypv,Yw2,Ywu,Yrv,Ywt];omega)
 simp only[Xbm,h_x0_0,h_x1_1,Option.bind_some,Bool.not_true,Yvr,Yvf,Yu9,Ywl,Ywx]
theorem Xit (a:Xv) (hw:wt Xl a≤2147483648):Xbt a a=some true:=by
 obtain⟨x0,x1,⟨⟩⟩:=a;simp only[Yt8,Ypv,Yw2,Ywu,Yrv,Ywt] at hw
 have h_x1_0:=Xhl x1 (by simp only[Yt8,Ypv,Yw2,Ywu,Yrv,Ywt];omega)
 simp only[Xbt,h_x1_0,Option.bind_some,Bool.not_true,Yvr,Yvf,Yu9,Ywl,Ywx]
theorem Xhn:∀ (n:Nat) (k:Int) (out:List UInt8),0≤k→k<10 ^ n→out.length+n≤2147483648→k≤4611686018427387904→∃ s,Xa8 (k,out)=some s∧s.length≤out.length+n
 |0,k,out,h0,h1,h2,h3=>by
  have:k=0:=by simp at h1;omega
  subst this
  exact⟨out,Y5 (by simp only[Xa8.B];rfl),by omega⟩
 |n+1,k,out,h0,h1,h2,h3=>by
  by_cases hk:k=0
  ·subst hk;exact⟨out,Y5 (by simp only[Xa8.B];rfl),by omega⟩
  ·have hd:k.tdiv 10=k / 10:=Int.tdiv_eq_ediv_of_nonneg h0
   have hq:w64 (k / 10)=k / 10:=Yrz (by omega) (by omega)
   have hp:k / 10<10 ^ n:=by rw[Int.pow_succ] at h1;omega
   obtain⟨s,hs,hl⟩:=Xhn n (k / 10) ((([IntKind.u8.wrap (w64 ((48:Int)+(k.tmod 10)))]).map fun n=>UInt8.ofNat n.toNat)++out) (by omega) hp (by simp;omega) (by omega)
   refine⟨s,?_,by simp at hl;omega⟩
   rw[←hs];refine Yar (s':=(k / 10,_)) ?_
   simp only[Xa8.B,show decide (k>0)=true by simp;omega,Ywx,show(!((10:Int) == 0))=true from rfl,Option.bind_some,hd,hq]
   rw[show decide ((([IntKind.u8.wrap (w64 ((48:Int)+(k.tmod 10)))]).map fun n=>UInt8.ofNat n.toNat).length+out.length≤2147483648)=true by simp;omega]
   rfl
theorem Xh6 (k:Int) (h:0≤k) (hk:k≤4611686018427387904):∃ s,Xbn k=some s:=by
 obtain⟨s,hs,hl⟩:=Xhn 19 k [] h (by omega) (by simp) hk
 simp only[Xbn];cases decide (k≤0)
 ·simp only[Ywl,hs,Option.bind_some]
  rw[show decide (([109]:List UInt8).length+s.length≤2147483648)=true by simp at hl ⊢;omega]
  exact⟨_,rfl⟩
 ·exact⟨_,rfl⟩
theorem Xjq (a:(List Int)) (k:Int) (hk:0≤k) (hw:k+wt (.sl (.int .i64)) a≤4611686018427387904) (hz:wt (.sl (.int .i64)) a≤2147483648):MH Xcx Xc0 (wt (.sl (.int .i64)) a) a k:=by
 simp only[Yt8,Ypv,Yw2,Ywu,Yrv,Ywt] at hw hz
 have hl:a.length≤2147483648:=by have:=Ylh (wt (.int .i64)) (fun x=>by simp only[Yt8,Ypv,Yw2,Ywu,Yrv,Ywt];omega) a;omega
 have hs:∀ (k:Int) (i:Nat) (a:(List Int)) (h:i<a.length),a.length≤2147483648→0≤k→k+wt (.int .i64) a[i]≤4611686018427387904→wt (.int .i64) a[i]≤2147483648→∃ k2 x2,k≤k2∧k2≤k+wt (.int .i64) a[i]∧Xam.B k (i:Int) a=some (.inl (k2,((i+1:Nat):Int),a.set i x2))∧∀ b:(List Int),b.length=a.length→b[i]? = some x2→Xaf.B b k (i:Int)=some (.inl (k2,((i+1:Nat):Int))):=by
  clear hw hz hl hk k a;intro k i a hi hl hk hw hz
  have hb:inB (i:Int) a.length=true:=Yuq (by omega) (by omega)
  simp only[Yt8,Ypv,Yw2,Ywu,Yrv,Ywt] at hw hz
  have w1:w64 (k+1)=k+1:=Yxo (by omega) (by omega)
  refine⟨k+1,k,by omega,by simp only[Yt8,Ypv,Yw2,Ywu,Yrv,Ywt];omega,?_,fun b hlb hx=>?_⟩
  ·simp only[Xam.B,Yxe hi,hb,Ywx,toNat_cast,getD_lt _ hi,Option.bind_some,w1,Ywe (by omega:i<4294967296),List.set_set,List.length_set,Yvs _ _ hi,show(!((3:Int) == 0))=true from rfl]
  ·have hc:inB (i:Int) b.length=true:=Yuq (by omega) (by omega)
   have hd:decide ((i:Int)<(b.length:Int))=true:=Yxe (by omega)
   simp only[Xaf.B,hd,hc,Ywx,Ywl,toNat_cast,Yws _ hx,Option.bind_some,Yvr,Yvf,Yu9,Bool.not_true,w1,Ywe (by omega:i<4294967296),List.set_set,List.length_set,Yvs _ _ hi,show(!((3:Int) == 0))=true from rfl]
 obtain⟨k2,a2,e1,e2,e3,e4⟩:=Yuk (wt (.int .i64)) 4611686018427387904 (fun s=>Xam.B s.1 s.2.1 s.2.2) (fun b s=>Xaf.B b s.1 s.2) (fun k a=>by simp only[Xam.B,Yxg (Nat.le_refl _),Ywl]) (fun k a=>by simp only[Xaf.B,Yxg (Nat.le_refl _),Ywl]) hs k a hl hk (by omega) (by omega)
 refine⟨k2,a2,e1,by simp only[Yt8,Ypv,Yw2,Ywu,Yrv,Ywt];omega,?_,?_⟩
 ·have:Xam (k,0,a)=some (k2,a2):=e3
  simp only[Xcx,this,Option.bind_some]
 ·have:Xaf a2 (k,0)=some (.inr k2):=e4
  simp only[Xc0,this,Option.bind_some,sel]
theorem Xjb (a:(List Xc)) (k:Int) (hk:0≤k) (hw:k+wt (.sl Xe) a≤4611686018427387904) (hz:wt (.sl Xe) a≤2147483648):MH Xaw Xa2 (wt (.sl Xe) a) a k:=by
 simp only[Yt8,Ypv,Yw2,Ywu,Yrv,Ywt] at hw hz
 have hl:a.length≤2147483648:=by have:=Ylh (wt Xe) (fun x=>by simp only[Yt8,Ypv,Yw2,Ywu,Yrv,Ywt];omega) a;omega
 have hs:∀ (k:Int) (i:Nat) (a:(List Xc)) (h:i<a.length),a.length≤2147483648→0≤k→k+wt Xe a[i]≤4611686018427387904→wt Xe a[i]≤2147483648→∃ k2 x2,k≤k2∧k2≤k+wt Xe a[i]∧Xap.B k (i:Int) a=some (.inl (k2,((i+1:Nat):Int),a.set i x2))∧∀ b:(List Xc),b.length=a.length→b[i]? = some x2→Xak.B b k (i:Int)=some (.inl (k2,((i+1:Nat):Int))):=by
  clear hw hz hl hk k a;intro k i a hi hl hk hw hz
  have hb:inB (i:Int) a.length=true:=Yuq (by omega) (by omega)
  simp only[Yt8,Ypv,Yw2,Ywu,Yrv,Ywt] at hw hz
  obtain⟨s1,w1⟩:=Xh6 (k) (by omega) (by omega)
  have w2:w64 (k+1)=k+1:=Yxo (by omega) (by omega)
  have w3:w64 (k+1+1)=k+1+1:=Yxo (by omega) (by omega)
  refine⟨k+1+1,(s1,k+1,()),by omega,by simp only[Yt8,Ypv,Yw2,Ywu,Yrv,Ywt];omega,?_,fun b hlb hx=>?_⟩
  ·simp only[Xap.B,Yxe hi,hb,Ywx,toNat_cast,getD_lt _ hi,Option.bind_some,w1,w2,w3,Ywe (by omega:i<4294967296),List.set_set,List.length_set,Yvs _ _ hi,show(!((3:Int) == 0))=true from rfl]
  ·have hc:inB (i:Int) b.length=true:=Yuq (by omega) (by omega)
   have hd:decide ((i:Int)<(b.length:Int))=true:=Yxe (by omega)
   simp only[Xak.B,hd,hc,Ywx,Ywl,toNat_cast,Yws _ hx,Option.bind_some,Yvr,Yvf,Yu9,Bool.not_true,w1,w2,w3,Ywe (by omega:i<4294967296),List.set_set,List.length_set,Yvs _ _ hi,show(!((3:Int) == 0))=true from rfl]
 obtain⟨k2,a2,e1,e2,e3,e4⟩:=Yuk (wt Xe) 4611686018427387904 (fun s=>Xap.B s.1 s.2.1 s.2.2) (fun b s=>Xak.B b s.1 s.2) (fun k a=>by simp only[Xap.B,Yxg (Nat.le_refl _),Ywl]) (fun k a=>by simp only[Xak.B,Yxg (Nat.le_refl _),Ywl]) hs k a hl hk (by omega) (by omega)
 refine⟨k2,a2,e1,by simp only[Yt8,Ypv,Yw2,Ywu,Yrv,Ywt];omega,?_,?_⟩
 ·have:Xap (k,0,a)=some (k2,a2):=e3
  simp only[Xaw,this,Option.bind_some]
 ·have:Xak a2 (k,0)=some (.inr k2):=e4
  simp only[Xa2,this,Option.bind_some,sel]
theorem Xhe (a:(List Xb)) (k:Int) (hk:0≤k) (hw:k+wt (.sl Xd) a≤4611686018427387904) (hz:wt (.sl Xd) a≤2147483648):MH Xbf Xbg (wt (.sl Xd) a) a k:=by
 simp only[Yt8,Ypv,Yw2,Ywu,Yrv,Ywt] at hw hz
 have hl:a.length≤2147483648:=by have:=Ylh (wt Xd) (fun x=>by simp only[Yt8,Ypv,Yw2,Ywu,Yrv,Ywt];omega) a;omega
 have hs:∀ (k:Int) (i:Nat) (a:(List Xb)) (h:i<a.length),a.length≤2147483648→0≤k→k+wt Xd a[i]≤4611686018427387904→wt Xd a[i]≤2147483648→∃ k2 x2,k≤k2∧k2≤k+wt Xd a[i]∧Xas.B k (i:Int) a=some (.inl (k2,((i+1:Nat):Int),a.set i x2))∧∀ b:(List Xb),b.length=a.length→b[i]? = some x2→Xar.B b k (i:Int)=some (.inl (k2,((i+1:Nat):Int))):=by
  clear hw hz hl hk k a;intro k i a hi hl hk hw hz
  have hb:inB (i:Int) a.length=true:=Yuq (by omega) (by omega)
  simp only[Yt8,Ypv,Yw2,Ywu,Yrv,Ywt] at hw hz
  have w1:w64 (k+1)=k+1:=Yxo (by omega) (by omega)
  have w2:w64 (k+1+1)=k+1+1:=Yxo (by omega) (by omega)
  have w3:w64 (k+1+1+1)=k+1+1+1:=Yxo (by omega) (by omega)
  obtain⟨k4,y4,l4,u4,w4,v4⟩:=Xjq a[i].2.2.2.1 (k+1+1+1) (by omega) (by simp only[Yt8,Ypv,Yw2,Ywu,Yrv,Ywt];omega) (by simp only[Yt8,Ypv,Yw2,Ywu,Yrv,Ywt];omega)
  simp only[Yt8,Ypv,Yw2,Ywu,Yrv,Ywt] at u4
  obtain⟨k5,y5,l5,u5,w5,v5⟩:=Xjb a[i].2.2.2.2.1 (k4) (by omega) (by simp only[Yt8,Ypv,Yw2,Ywu,Yrv,Ywt];omega) (by simp only[Yt8,Ypv,Yw2,Ywu,Yrv,Ywt];omega)
  simp only[Yt8,Ypv,Yw2,Ywu,Yrv,Ywt] at u5
  refine⟨k5,(k,k+1,k+1+1,y4,y5,()),by omega,by simp only[Yt8,Ypv,Yw2,Ywu,Yrv,Ywt];omega,?_,fun b hlb hx=>?_⟩
  ·simp only[Xas.B,Yxe hi,hb,Ywx,toNat_cast,getD_lt _ hi,Option.bind_some,w1,w2,w3,v4,w4,v5,w5,Ywe (by omega:i<4294967296),List.set_set,List.length_set,Yvs _ _ hi,show(!((3:Int) == 0))=true from rfl]
  ·have hc:inB (i:Int) b.length=true:=Yuq (by omega) (by omega)
   have hd:decide ((i:Int)<(b.length:Int))=true:=Yxe (by omega)
   simp only[Xar.B,hd,hc,Ywx,Ywl,toNat_cast,Yws _ hx,Option.bind_some,Yvr,Yvf,Yu9,Bool.not_true,w1,w2,w3,v4,w4,v5,w5,Ywn (by omega:0≤k4),Ywn (by omega:0≤k5),Ywe (by omega:i<4294967296),List.set_set,List.length_set,Yvs _ _ hi,show(!((3:Int) == 0))=true from rfl]
 obtain⟨k2,a2,e1,e2,e3,e4⟩:=Yuk (wt Xd) 4611686018427387904 (fun s=>Xas.B s.1 s.2.1 s.2.2) (fun b s=>Xar.B b s.1 s.2) (fun k a=>by simp only[Xas.B,Yxg (Nat.le_refl _),Ywl]) (fun k a=>by simp only[Xar.B,Yxg (Nat.le_refl _),Ywl]) hs k a hl hk (by omega) (by omega)
 refine⟨k2,a2,e1,by simp only[Yt8,Ypv,Yw2,Ywu,Yrv,Ywt];omega,?_,?_⟩
 ·have:Xas (k,0,a)=some (k2,a2):=e3
  simp only[Xbf,this,Option.bind_some]
 ·have:Xar a2 (k,0)=some (.inr k2):=e4
  simp only[Xbg,this,Option.bind_some,sel]
theorem Xh4 (a:(List Int)) (k:Int) (hk:0≤k) (hw:k+wt (.sl (.int .u8)) a≤4611686018427387904) (hz:wt (.sl (.int .u8)) a≤2147483648):MH Xcp Xcw (wt (.sl (.int .u8)) a) a k:=by
 simp only[Yt8,Ypv,Yw2,Ywu,Yrv,Ywt] at hw hz
 have hl:a.length≤2147483648:=by have:=Ylh (wt (.int .u8)) (fun x=>by simp only[Yt8,Ypv,Yw2,Ywu,Yrv,Ywt];omega) a;omega
 have hs:∀ (k:Int) (i:Nat) (a:(List Int)) (h:i<a.length),a.length≤2147483648→0≤k→k+wt (.int .u8) a[i]≤4611686018427387904→wt (.int .u8) a[i]≤2147483648→∃ k2 x2,k≤k2∧k2≤k+wt (.int .u8) a[i]∧Xag.B k (i:Int) a=some (.inl (k2,((i+1:Nat):Int),a.set i x2))∧∀ b:(List Int),b.length=a.length→b[i]? = some x2→Xai.B b k (i:Int)=some (.inl (k2,((i+1:Nat):Int))):=by
  clear hw hz hl hk k a;intro k i a hi hl hk hw hz
  have hb:inB (i:Int) a.length=true:=Yuq (by omega) (by omega)
  simp only[Yt8,Ypv,Yw2,Ywu,Yrv,Ywt] at hw hz
  have w1:w64 (k+1)=k+1:=Yxo (by omega) (by omega)
  refine⟨k+1,(IntKind.u8.wrap (k)),by omega,by simp only[Yt8,Ypv,Yw2,Ywu,Yrv,Ywt];omega,?_,fun b hlb hx=>?_⟩
  ·simp only[Xag.B,Yxe hi,hb,Ywx,toNat_cast,getD_lt _ hi,Option.bind_some,w1,Ywe (by omega:i<4294967296),List.set_set,List.length_set,Yvs _ _ hi,show(!((3:Int) == 0))=true from rfl]
  ·have hc:inB (i:Int) b.length=true:=Yuq (by omega) (by omega)
   have hd:decide ((i:Int)<(b.length:Int))=true:=Yxe (by omega)
   simp only[Xai.B,hd,hc,Ywx,Ywl,toNat_cast,Yws _ hx,Option.bind_some,Yvr,Yvf,Yu9,Bool.not_true,w1,Ywe (by omega:i<4294967296),List.set_set,List.length_set,Yvs _ _ hi,show(!((3:Int) == 0))=true from rfl]
 obtain⟨k2,a2,e1,e2,e3,e4⟩:=Yuk (wt (.int .u8)) 4611686018427387904 (fun s=>Xag.B s.1 s.2.1 s.2.2) (fun b s=>Xai.B b s.1 s.2) (fun k a=>by simp only[Xag.B,Yxg (Nat.le_refl _),Ywl]) (fun k a=>by simp only[Xai.B,Yxg (Nat.le_refl _),Ywl]) hs k a hl hk (by omega) (by omega)
 refine⟨k2,a2,e1,by simp only[Yt8,Ypv,Yw2,Ywu,Yrv,Ywt];omega,?_,?_⟩
 ·have:Xag (k,0,a)=some (k2,a2):=e3
  simp only[Xcp,this,Option.bind_some]
 ·have:Xai a2 (k,0)=some (.inr k2):=e4
  simp only[Xcw,this,Option.bind_some,sel]
theorem Xhm (a:(List (List Int))) (k:Int) (hk:0≤k) (hw:k+wt (.sl (.sl (.int .u8))) a≤4611686018427387904) (hz:wt (.sl (.sl (.int .u8))) a≤2147483648):MH Xbb Xbe (wt (.sl (.sl (.int .u8))) a) a k:=by
 simp only[Yt8,Ypv,Yw2,Ywu,Yrv,Ywt] at hw hz
 have hl:a.length≤2147483648:=by have:=Ylh (wt (.sl (.int .u8))) (fun x=>by simp only[Yt8,Ypv,Yw2,Ywu,Yrv,Ywt];omega) a;omega
 have hs:∀ (k:Int) (i:Nat) (a:(List (List Int))) (h:i<a.length),a.length≤2147483648→0≤k→k+wt (.sl (.int .u8)) a[i]≤4611686018427387904→wt (.sl (.int .u8)) a[i]≤2147483648→∃ k2 x2,k≤k2∧k2≤k+wt (.sl (.int .u8)) a[i]∧Xal.B k (i:Int) a=some (.inl (k2,((i+1:Nat):Int),a.set i x2))∧∀ b:(List (List Int)),b.length=a.length→b[i]? = some x2→Xan.B b k (i:Int)=some (.inl (k2,((i+1:Nat):Int))):=by
  clear hw hz hl hk k a;intro k i a hi hl hk hw hz
  have hb:inB (i:Int) a.length=true:=Yuq (by omega) (by omega)
  simp only[Yt8,Ypv,Yw2,Ywu,Yrv,Ywt] at hw hz
  obtain⟨k1,y1,l1,u1,w1,v1⟩:=Xh4 a[i] (k) (by omega) (by simp only[Yt8,Ypv,Yw2,Ywu,Yrv,Ywt];omega) (by simp only[Yt8,Ypv,Yw2,Ywu,Yrv,Ywt];omega)
  simp only[Yt8,Ypv,Yw2,Ywu,Yrv,Ywt] at u1
  refine⟨k1,y1,by omega,by simp only[Yt8,Ypv,Yw2,Ywu,Yrv,Ywt];omega,?_,fun b hlb hx=>?_⟩
  ·simp only[Xal.B,Yxe hi,hb,Ywx,toNat_cast,getD_lt _ hi,Option.bind_some,v1,w1,Ywe (by omega:i<4294967296),List.set_set,List.length_set,Yvs _ _ hi,show(!((3:Int) == 0))=true from rfl]
  ·have hc:inB (i:Int) b.length=true:=Yuq (by omega) (by omega)
   have hd:decide ((i:Int)<(b.length:Int))=true:=Yxe (by omega)
   simp only[Xan.B,hd,hc,Ywx,Ywl,toNat_cast,Yws _ hx,Option.bind_some,Yvr,Yvf,Yu9,Bool.not_true,v1,w1,Ywn (by omega:0≤k1),Ywe (by omega:i<4294967296),List.set_set,List.length_set,Yvs _ _ hi,show(!((3:Int) == 0))=true from rfl]
 obtain⟨k2,a2,e1,e2,e3,e4⟩:=Yuk (wt (.sl (.int .u8))) 4611686018427387904 (fun s=>Xal.B s.1 s.2.1 s.2.2) (fun b s=>Xan.B b s.1 s.2) (fun k a=>by simp only[Xal.B,Yxg (Nat.le_refl _),Ywl]) (fun k a=>by simp only[Xan.B,Yxg (Nat.le_refl _),Ywl]) hs k a hl hk (by omega) (by omega)
 refine⟨k2,a2,e1,by simp only[Yt8,Ypv,Yw2,Ywu,Yrv,Ywt];omega,?_,?_⟩
 ·have:Xal (k,0,a)=some (k2,a2):=e3
  simp only[Xbb,this,Option.bind_some]
 ·have:Xan a2 (k,0)=some (.inr k2):=e4
  simp only[Xbe,this,Option.bind_some,sel]
theorem Xjk (x_0:List Xb) (x_1:List (List Int)) (k:Int) (hk:0≤k) (hw:k+wt Xi (x_0,x_1,())≤4611686018427387904) (hz:wt Xi (x_0,x_1,())≤2147483648):∃ k2 y0 y1,k≤k2∧k2≤k+wt Xi (x_0,x_1,())∧Xax (x_0,x_1,()) k=some (k2,(y0,y1,()))∧Xcc (y0,y1,()) k=some k2:=by
 simp only[Yt8,Ypv,Yw2,Ywu,Yrv,Ywt] at hw hz
 obtain⟨k0,y0,l0,u0,w0,v0⟩:=Xhe x_0 k (by omega) (by simp only[Yt8,Ypv,Yw2,Ywu,Yrv,Ywt];omega) (by simp only[Yt8,Ypv,Yw2,Ywu,Yrv,Ywt];omega)
 simp only[Yt8,Ypv,Yw2,Ywu,Yrv,Ywt] at u0
 obtain⟨k1,y1,l1,u1,w1,v1⟩:=Xhm x_1 k0 (by omega) (by simp only[Yt8,Ypv,Yw2,Ywu,Yrv,Ywt];omega) (by simp only[Yt8,Ypv,Yw2,Ywu,Yrv,Ywt];omega)
 simp only[Yt8,Ypv,Yw2,Ywu,Yrv,Ywt] at u1
 refine⟨k1,y0,y1,by omega,by simp only[Yt8,Ypv,Yw2,Ywu,Yrv,Ywt];omega,?_,?_⟩
 ·simp only[Xax,w0,w1,Option.bind_some,Yxp]
 ·simp only[Xcc,v0,v1,Option.bind_some,Ywl,Ywn (by omega:0≤k0),Ywn (by omega:0≤k1)]
theorem Xid (x_0:Int) (x_1_0:List Xb) (x_1_1:List (List Int)) (k:Int) (hk:0≤k) (hw:k+wt Xl (x_0,(x_1_0,x_1_1,()),())≤4611686018427387904) (hz:wt Xl (x_0,(x_1_0,x_1_1,()),())≤2147483648):∃ k2 y0 y1,k≤k2∧k2≤k+wt Xl (x_0,(x_1_0,x_1_1,()),())∧Xcv (x_0,(x_1_0,x_1_1,()),()) k=some (k2,(x_0,(y0,y1,()),()))∧Xb6 (x_0,(y0,y1,()),()) k=some k2:=by
 simp only[Yt8,Ypv,Yw2,Ywu,Yrv,Ywt] at hw hz
 obtain⟨k0,y0,l0,u0,w0,v0⟩:=Xhe x_1_0 k (by omega) (by simp only[Yt8,Ypv,Yw2,Ywu,Yrv,Ywt];omega) (by simp only[Yt8,Ypv,Yw2,Ywu,Yrv,Ywt];omega)
 simp only[Yt8,Ypv,Yw2,Ywu,Yrv,Ywt] at u0
 obtain⟨k1,y1,l1,u1,w1,v1⟩:=Xhm x_1_1 k0 (by omega) (by simp only[Yt8,Ypv,Yw2,Ywu,Yrv,Ywt];omega) (by simp only[Yt8,Ypv,Yw2,Ywu,Yrv,Ywt];omega)
 simp only[Yt8,Ypv,Yw2,Ywu,Yrv,Ywt] at u1
 refine⟨k1,y0,y1,by omega,by simp only[Yt8,Ypv,Yw2,Ywu,Yrv,Ywt];omega,?_,?_⟩
 ·simp only[Xcv,Xax,w0,w1,Option.bind_some,Yxp]
 ·simp only[Xb6,Xcc,v0,v1,Option.bind_some,Ywl,Ywn (by omega:0≤k0),Ywn (by omega:0≤k1)]
def inR (v lo hi:Int):Bool:=cond (decide (v≥lo)) (decide (v≤hi)) false
theorem Xbz {v lo hi:Int}:inR v lo hi=true↔lo≤v∧v≤hi:=by
 unfold inR;by_cases h:v≥lo<;>simp[h]<;>omega
theorem Xfw (v lo hi:Int):Xau v lo hi=some (inR v lo hi):=rfl
theorem Xgo (v lo hi:Int):Xbo v lo hi=some (inR v lo hi):=rfl
theorem Xe2 {α:Type} (p:α→Bool) (l:List α):((some (match Yl1 p 0 l with | some j=>.inl (j:Int) | none=>.inr ():Int⊕Unit)).bind fun o=>sel o (fun b=>some b) (fun c=>some (-1))).bind (fun r=>some (decide (r≥0)))=some (l.any p):=by
 cases h:Yl1 p 0 l with
 |none=>rw[Yqq.1 h];rfl
 |some j=>
  have:l.any p=true:=by
   cases ha:l.any p with
   |true=>rfl
   |false=>rw[Yqq.2 ha] at h;cases h
  rw[this];simp[sel]
theorem Xb2 (n:Int) (g:Option Int):((some (cond (n != 0) (.inl n) (.inr ()):Int⊕Unit)).bind fun o=>sel o (fun b=>some b) (fun _=>g))=cond (n != 0) (some n) g:=by
 cases (n != 0)<;>rfl
theorem Xbj (n:Int):cond (n != 0) (some n) (some 0)=some n:=by
 cases h:(n != 0)
 ·have:n=0:=by simpa using h
  rw[this];rfl
 ·rfl
theorem Xbx {α:Type} {xs:List α} (h:xs.length≤2147483648):Yma xs=some xs:=by
 unfold Yma;rw[show decide (xs.length≤2147483648)=true by simp;omega];rfl
theorem Xh5 {n:Nat} (h:n≤2147483648):decide (n≤2147483648)=true:=by simp;omega
theorem Xik (l:List (List Int)) (h:Bd (.sl (.sl (.int .u8))) l):Xdt l=some l:=by
 obtain⟨hl,hb⟩:=h
 have h:Xdn l (l.length:Int) (0,[])=some ([]++l.map id):=
  Yvg l (f:=fun s=>Xdn.B l (l.length:Int) s.1 s.2) id id 0 (fun i hi t ht=>by
   have hx:=(hb l[i] (List.getElem_mem hi)).1
   simp only[Xdn.B,Yxe hi,Yxc hi,Ywx,toNat_cast,getD_lt _ hi,Xfs,Xbx hx,Option.bind_some,Ywe (by omega:i<4294967296),id]
   rw[Xh5 (by simp;omega)];rfl) (fun t ht=>by
   simp only[Xdn.B,Yxg (Nat.le_refl _),Ywl,id]) [] rfl
 simp only[Xdt,h,Option.bind_some];simp
theorem Xis (f:Fs_) (h:Bd Xi f):Xc8 f=some f:=by
 obtain⟨l,d,⟨⟩⟩:=f;obtain⟨⟨hl,hb⟩,hd,_⟩:=h;replace hl:l.length≤2147483648:=hl;replace hb:∀ x∈l,Bd Xd x:=hb;replace hd:Bd (.sl (.sl (.int .u8))) d:=hd
 have h:Xd4 l (l.length:Int) ([],[],()) (0,([],d,()))=some (l.foldl (fun(t:Fs_) x=>(t.1++[x],t.2)) ([],d,())):=
  Yij l (f:=fun s=>Xd4.B l (l.length:Int) ([],[],()) s.1 s.2) (fun(t:Fs_) x=>(t.1++[x],t.2)) id (fun i t=>t.1.length=i) (fun i hi t ht=>by
   have hx:=hb l[i] (List.getElem_mem hi);obtain⟨hx1,hx2,hx3,hx4,hx5,_⟩:=hx;have e1:Yma l[i].2.2.2.1=some l[i].2.2.2.1:=Xbx hx4.1;have e2:Yma l[i].2.2.2.2.1=some l[i].2.2.2.2.1:=Xbx hx5.1
   refine⟨?_,by simp[ht]⟩
   simp only[Xd4.B,Yxe hi,Yxc hi,Ywx,toNat_cast,getD_lt _ hi,Xgf,Xeb,e1,e2,Option.bind_some,Ywe (by omega:i<4294967296),Yxp]
   rw[Xh5 (by simp;omega)];rfl) (fun t ht=>by
   simp only[Xd4.B,Yxg (Nat.le_refl _),Ywl,id]) _ rfl
 have h2:∀ (l:List Xb) (t:Fs_),l.foldl (fun(t:Fs_) x=>(t.1++[x],t.2)) t=(t.1++l,t.2):=by
  intro l
  induction l with
  |nil=>intro t;simp
  |cons x l ih=>intro t;simp[ih]
 simp only[Xc8,Xik d hd,Option.bind_some,h,h2];simp
def Xfd (b:UInt8):Bool:=cond (decide ((b.toNat:Int)<97)) true (decide ((b.toNat:Int)>122))
def Xa4 (s:List UInt8):Int:=cond (s.any Xfd) 5 (cond (s == []) 5 (cond (decide ((s.length:Int)>4)) 2 0))
theorem Xhw (s:List UInt8) (hl:s.length≤2147483648):Xfk s=some (Xa4 s):=by
 have h:Xej s 0=_:=Yvy s Xfd (5:Int) (fun i hi=>by
  simp only[Xej.B,Yxe hi,Yxc hi,Ywx,toNat_cast,getD_lt _ hi,Option.bind_some,Ywe (by omega:i<4294967296),Xfd,Yvb]) (by
  simp only[Xej.B,Yxg (Nat.le_refl _),Ywl])
 simp only[Xfk,h,Option.bind_some,Xa4];cases s.any Xfd
 ·simp only[Ywl,Yw0,Yvd]
 ·rfl
theorem Xi1 (s:List UInt8) (hl:s.length≤2147483648):Xfo s=some (Xa4 s):=by
 have h:Xei s (s.length:Int) 0=_:=Yvy s Xfd (5:Int) (fun i hi=>by
  simp only[Xei.B,Yxe hi,Yxc hi,Ywx,toNat_cast,getD_lt _ hi,Option.bind_some,Ywe (by omega:i<4294967296),Xfd,Yvb]) (by
  simp only[Xei.B,Yxg (Nat.le_refl _),Ywl])
 simp only[Xfo,h,Option.bind_some,Xa4]
 cases s with
 |nil=>rfl
 |cons b s=>
  rw[show((b::s:List UInt8) == [])=false from rfl];simp only[Ywl];cases (b::s).any Xfd
  ·simp only[Ywl,Yw0,Yvd]
  ·rfl
theorem Xg8 {s:List UInt8} (h:Xa4 s=0):s≠[]∧s.length≤4∧s.any Xfd=false:=by
 unfold Xa4 at h
 cases h1:s.any Xfd with
 |true=>rw[h1] at h;cases h
 |false=>
  rw[h1] at h
  cases h2:(s == []) with
  |true=>rw[h2] at h;cases h
  |false=>
   rw[h2] at h
   cases h3:decide ((s.length:Int)>4) with
   |true=>rw[h3] at h;cases h
   |false=>exact⟨(by intro e;subst e;cases h2),(by simp at h3;omega),rfl⟩
def Xdi:List Int→List Int→Bool
 |_,[]=>false
 |a,x::l=>a.contains x || Xdi (a++[x]) l
theorem Xb7 {α:Type} (p:α→Bool) (l:List α) {o:Option (Int⊕Unit)} (h:o=some (match Yl1 p 0 l with | some j=>.inl (j:Int) | none=>.inr ())):(o.bind fun o=>sel o (fun b=>some b) (fun c=>some (-1))).bind (fun r=>some (decide (r≥0)))=some (l.any p):=by
 rw[h];exact Xe2 p l
theorem Xhf (l:List Int) (v:Int) (hl:l.length≤2147483648):Xda l v=some (l.contains v):=by
 have h:Xed l v (l.length:Int) 0=_:=Yvm l (fun x=>v == x) (fun i hi=>by
  simp only[Xed.B,Yxe hi,Yxc hi,Ywx,toNat_cast,getD_lt _ hi,Option.bind_some,Ywe (by omega:i<4294967296)]) (by
  simp only[Xed.B,Yxg (Nat.le_refl _),Ywl]) 0 (Nat.zero_le _)
 simp only[Xda,Xf3];rw[Xb7 _ _ h,List.any_beq,List.drop_zero]
def Xeh (n:Int):Int:=w64 ((w64 ((w64 (n+8))-1)).tdiv 8)
def Xd7 (x:Xb):Int:=cond (!inR x.2.1 1 60) 3 (cond (!inR x.2.2.1 0 32) 3 (cond ((x.2.2.2.1.length:Int) != Xeh x.2.2.1) 1 (cond (x.2.2.2.1.any fun b=>!inR b 0 19) 3 (cond (Xdi [] x.2.2.2.1) 7 0))))
theorem Xhu (x:Xb) (hl:x.2.2.2.1.length≤2147483648) (n:Nat) (hn:n<x.2.2.2.1.length):Xcu x (n:Int) 0=some (cond ((x.2.2.2.1.take n).contains x.2.2.2.1[n]) (.inl 7) (.inr ())):=by
 have h:Xcu x (n:Int) 0=_:=Yvy (x.2.2.2.1.take n) (fun y=>y == x.2.2.2.1[n]) (7:Int) (fun i hi=>by
  have hi':i<n:=by simp at hi;omega
  simp only[Xcu.B,Yxe hi',Yxc (by omega:i<x.2.2.2.1.length),Yxc hn,Ywx,toNat_cast,getD_lt _ (by omega:i<x.2.2.2.1.length),getD_lt _ hn,Option.bind_some,Ywe (by omega:i<4294967296),List.getElem_take]) (by
  have:(x.2.2.2.1.take n).length=n:=by simp;omega
  rw[this]
  simp only[Xcu.B,Yxg (Nat.le_refl _),Ywl])
 rw[h,←List.any_beq,show(fun y:Int=>y == x.2.2.2.1[n])=fun y=>x.2.2.2.1[n] == y from funext fun y=>Bool.beq_comm]
theorem Xdf (l:List Int):∀ (k n:Nat),n+k=l.length→Yba (τ:=Unit) (fun i y _=>cond ((l.take i).contains y) (.inr (.inl 7)) (.inl ())) (fun _=>(.inr ():Int⊕Unit)) n (l.drop n) ()=cond (Xdi (l.take n) (l.drop n)) (.inl 7) (.inr ())
 |0,n,h=>by
  have:n=l.length:=by omega
  subst this
  simp[Yba,Xdi]
 |k+1,n,h=>by
  have hn:n<l.length:=by omega
  rw[List.drop_eq_getElem_cons hn];simp only[Yba,Xdi]
  have e:l.take n++[l[n]]=l.take (n+1):=by simp
  rw[e];cases (l.take n).contains l[n]
  ·simp only[Ywl,Ywm,Bool.false_or];exact Xdf l k (n+1) (by omega)
  ·rfl
theorem Xjh (x:Xb) (hl:x.2.2.2.1.length≤2147483648):Xbv x=some (Xd7 x):=by
 have h0:Xen x 0=_:=Yvy x.2.2.2.1 (fun b=>!inR b 0 19) (3:Int) (fun i hi=>by
  simp only[Xen.B,Yxe hi,Yxc hi,Ywx,toNat_cast,getD_lt _ hi,Xfw,Option.bind_some,Ywe (by omega:i<4294967296)]) (by
  simp only[Xen.B,Yxg (Nat.le_refl _),Ywl])
 have h1:Xdo x 0=some (cond (Xdi [] x.2.2.2.1) (.inl 7) (.inr ())):=by
  have:=Yfl (τ:=Unit) x.2.2.2.1 (f:=fun s=>Xdo.B x s) (fun i _=>(i:Int)) (fun i y _=>cond ((x.2.2.2.1.take i).contains y) (.inr (.inl 7)) (.inl ())) (fun _=>(.inr ():Int⊕Unit)) (fun i hi t=>by
   simp only[Xdo.B,Yxe hi,Ywx,Xhu x hl i hi,Option.bind_some,Ywe (by omega:i<4294967296)]
   cases (x.2.2.2.1.take i).contains x.2.2.2.1[i]<;>rfl) (fun t=>by
   simp only[Xdo.B,Yxg (Nat.le_refl _),Ywl]) () (s:=0) rfl
  refine Eq.trans this ?_
  congr 1
  exact Xdf x.2.2.2.1 x.2.2.2.1.length 0 (by omega)
 have h8:(!((8:Int) == 0))=true:=rfl;simp only[Xbv,Xfx,Xgb,Xfw,Option.bind_some,h8,Ywx,h0,h1,Xd7,Xeh,Yvd];cases inR x.2.1 1 60
 ·rfl
 ·cases inR x.2.2.1 0 32
  ·rfl
  ·simp only[Bool.not_true,Ywl]
   cases ((x.2.2.2.1.length:Int) != w64 ((w64 ((w64 (x.2.2.1+8))-1)).tdiv 8))
   ·simp only[Ywl]
    cases x.2.2.2.1.any fun b=>!inR b 0 19
    ·simp only[Ywl,Yw0]
     cases Xdi [] x.2.2.2.1<;>rfl
    ·rfl
   ·rfl
theorem Xie (x:Xb) (hl:x.2.2.2.1.length≤2147483648):Xdc x=some (Xd7 x):=by
 have h0:Xfg x.2.2.2.1 ()=some (x.2.2.2.1.any fun b=>!inR b 0 19):=by
  have h:Xek x.2.2.2.1 () (x.2.2.2.1.length:Int) 0=_:=Yvm x.2.2.2.1 (fun b=>!inR b 0 19) (fun i hi=>by
   simp only[Xek.B,Yxe hi,Yxc hi,Ywx,toNat_cast,getD_lt _ hi,Xfr,Xgo,Option.bind_some,Ywe (by omega:i<4294967296)]) (by
   simp only[Xek.B,Yxg (Nat.le_refl _),Ywl]) 0 (Nat.zero_le _)
  simp only[Xfg,Xel];exact Xb7 _ _ h
 have h1:Xdw x x.2.2.2.1 (x.2.2.2.1.length:Int) 0=some (cond (Xdi [] x.2.2.2.1) (.inl 7) (.inr ())):=by
  have:=Yfl (τ:=Unit) x.2.2.2.1 (f:=fun s=>Xdw.B x x.2.2.2.1 (x.2.2.2.1.length:Int) s) (fun i _=>(i:Int)) (fun i y _=>cond ((x.2.2.2.1.take i).contains y) (.inr (.inl 7)) (.inl ())) (fun _=>(.inr ():Int⊕Unit)) (fun i hi t=>by
   have e1:(decide ((0:Int)≤(i:Int))&&decide ((i:Int)≤(x.2.2.2.1.length:Int)))=true:=by simp;omega
   have e2:=Xhf (x.2.2.2.1.take i) x.2.2.2.1[i] (by simp;omega)
   simp only[Xdw.B,Yxe hi,Yxc hi,Ywx,toNat_cast,getD_lt _ hi,e1,List.drop_zero,e2,Option.bind_some,Ywe (by omega:i<4294967296)]
   cases (x.2.2.2.1.take i).contains x.2.2.2.1[i]<;>rfl) (fun t=>by
   simp only[Xdw.B,Yxg (Nat.le_refl _),Ywl]) () (s:=0) rfl
  refine Eq.trans this ?_
  congr 1
  exact Xdf x.2.2.2.1 x.2.2.2.1.length 0 (by omega)
 have h8:(!((8:Int) == 0))=true:=rfl;simp only[Xdc,Xf7,Xft,Xgo,Option.bind_some,h8,Ywx,h0,h1,Xd7,Xeh,Yvd];cases inR x.2.1 1 60
 ·rfl
 ·cases inR x.2.2.1 0 32
  ·rfl
  ·simp only[Bool.not_true,Ywl]
   cases ((x.2.2.2.1.length:Int) != w64 ((w64 ((w64 (x.2.2.1+8))-1)).tdiv 8))
   ·simp only[Ywl]
    cases x.2.2.2.1.any fun b=>!inR b 0 19
    ·simp only[Ywl]
     cases Xdi [] x.2.2.2.1<;>rfl
    ·rfl
   ·rfl
def Xcf (prev:Option (List UInt8)) (e:Xc):Int:=
 cond (Xa4 e.1 != 0) (Xa4 e.1) (cond (!inR e.2.1 0 9) 3 (match prev with | none=>0 | some p=>cond (leB p e.1) 0 1))
def Xa9:Option (List UInt8)→List Xc→Int
 |_,[]=>0
 |p,e::l=>cond (Xcf p e != 0) (Xcf p e) (Xa9 (some e.1) l)
def Xe8 (x:Xb):Int:=cond (decide ((x.2.2.2.2.1.length:Int)>6)) 2 (Xa9 none x.2.2.2.2.1)
theorem Xgn:∀ (a b:List UInt8),(leB a b || a == b) = !leB b a
 |[],[]=>rfl
 |[],_::_=>rfl
 |_::_,[]=>by simp[leB]
 |x::a,y::b=>by
  have ih:=Xgn a b;simp only[leB]
  by_cases e:x=y
  ·subst e
   have h:¬ x<x:=UInt8.lt_irrefl x;simp only[h,decide_false,Bool.false_or,beq_self_eq_true,Bool.true_and]
   rw[←ih,show(x::a == x::b)=(a == b) by simp]
  ·have e':¬ y=x:=fun h=>e h.symm
   rw[show(x == y)=false by simp[e],show(y == x)=false by simp[e'],show(x::a == y::b)=false by simp[e]]
   simp only[Bool.false_and,Bool.or_false]
   by_cases h1:x<y
   ·have:¬ y<x:=fun h=>absurd (UInt8.lt_trans h1 h) (UInt8.lt_irrefl x)
    simp[h1,this]
   ·have:y<x:=by
     rw[UInt8.lt_iff_toNat_lt] at *;have:x.toNat≠y.toNat:=fun h=>e (UInt8.toNat_inj.1 h);omega
    simp[h1,this]
def Xbc (l:List Xc):Nat→Option (List UInt8)
 |0=>none
 |j+1=>(l[j]?).map (·.1)
theorem Xds (l:List Xc):∀ (k n:Nat),n+k=l.length→Yba (τ:=Unit) (fun i e _=>cond (Xcf (Xbc l i) e != 0) (.inr (.inl (Xcf (Xbc l i) e))) (.inl ())) (fun _=>(.inr ():Int⊕Unit)) n (l.drop n) () =
  cond (Xa9 (Xbc l n) (l.drop n) != 0) (.inl (Xa9 (Xbc l n) (l.drop n))) (.inr ())
 |0,n,h=>by
  have:n=l.length:=by omega
  subst this
  simp[Yba,Xa9]
 |k+1,n,h=>by
  have hn:n<l.length:=by omega
  have hp:Xbc l (n+1)=some l[n].1:=by simp[Xbc,hn]
  have ih:=Xds l k (n+1) (by omega)
  rw[hp] at ih;rw[List.drop_eq_getElem_cons hn];simp only[Yba,Xa9];generalize Xbc l n=p;cases hc:(Xcf p l[n] != 0)
  ·simp only[Ywl,Ywm];exact ih
  ·simp only[Ywx,Yw0,hc]
theorem Xjc (x:Xb) (hb:Bd Xd x):Xdv x=some (Xe8 x):=by
 simp only[Xdv,Xe8]
 cases hd:decide ((x.2.2.2.2.1.length:Int)>6) with
 |true=>rfl
 |false=>
  have hl:x.2.2.2.2.1.length≤6:=by simp at hd;omega
  have h:Xdj x 0=some (cond (Xa9 none x.2.2.2.2.1 != 0) (.inl (Xa9 none x.2.2.2.2.1)) (.inr ())):=by
   have:=Yfl (τ:=Unit) x.2.2.2.2.1 (f:=fun s=>Xdj.B x s) (fun i _=>(i:Int)) (fun i e _=>cond (Xcf (Xbc x.2.2.2.2.1 i) e != 0) (.inr (.inl (Xcf (Xbc x.2.2.2.2.1 i) e))) (.inl ())) (fun _=>(.inr ():Int⊕Unit)) (fun i hi t=>by
    have hn:(x.2.2.2.2.1[i]).1.length≤2147483648:=(hb.2.2.2.2.1.2 _ (List.getElem_mem hi)).1
    simp only[Xdj.B,Yxe hi,Yxc hi,Ywx,toNat_cast,getD_lt _ hi,Xfw,Xhw _ hn,Option.bind_some,Ywe (by omega:i<4294967296)]
    simp only[Xcf];cases hc:(Xa4 (x.2.2.2.2.1[i]).1 != 0)
    ·simp only[Ywl]
     cases inR (x.2.2.2.2.1[i]).2.1 0 9
     ·rfl
     ·simp only[Bool.not_true,Ywl]
      cases i with
      |zero=>rfl
      |succ j=>
       have hj:j<x.2.2.2.2.1.length:=by omega
       have hw:w64 (((j+1:Nat):Int)-1)=(j:Int):=by rw[Yrz (by omega) (by omega)];omega
       rw[show decide (((j+1:Nat):Int)>0)=true by simp]
       simp only[Ywx,hw,Yxc hj,toNat_cast,getD_lt _ hj,Xbc,List.getElem?_eq_getElem hj,Option.map_some,Xgn]
       cases leB (x.2.2.2.2.1[j]).1 (x.2.2.2.2.1[j+1]).1<;>rfl
    ·simp only[Ywx,hc];rfl) (fun t=>by
    simp only[Xdj.B,Yxg (Nat.le_refl _),Ywl]) () (s:=0) rfl
   refine Eq.trans this ?_
   congr 1
   exact Xds x.2.2.2.2.1 x.2.2.2.2.1.length 0 (by omega)
  rw[h,Ywl,Ywl,Xb2,Xbj]
theorem Xiz (x:Xb) (hb:Bd Xd x):Xd1 x=some (Xe8 x):=by
 simp only[Xd1,Xe8]
 cases hd:decide ((x.2.2.2.2.1.length:Int)>6) with
 |true=>rfl
 |false=>
  have hl:x.2.2.2.2.1.length≤6:=by simp at hd;omega
  have h:Xdl x x.2.2.2.2.1 (x.2.2.2.2.1.length:Int) 0=some (cond (Xa9 none x.2.2.2.2.1 != 0) (.inl (Xa9 none x.2.2.2.2.1)) (.inr ())):=by
   have:=Yfl (τ:=Unit) x.2.2.2.2.1 (f:=fun s=>Xdl.B x x.2.2.2.2.1 (x.2.2.2.2.1.length:Int) s) (fun i _=>(i:Int)) (fun i e _=>cond (Xcf (Xbc x.2.2.2.2.1 i) e != 0) (.inr (.inl (Xcf (Xbc x.2.2.2.2.1 i) e))) (.inl ())) (fun _=>(.inr ():Int⊕Unit)) (fun i hi t=>by
    have hn:(x.2.2.2.2.1[i]).1.length≤2147483648:=(hb.2.2.2.2.1.2 _ (List.getElem_mem hi)).1
    simp only[Xdl.B,Yxe hi,Yxc hi,Ywx,toNat_cast,getD_lt _ hi,Xgo,Xi1 _ hn,Option.bind_some,Ywe (by omega:i<4294967296)]
    simp only[Xcf];cases hc:(Xa4 (x.2.2.2.2.1[i]).1 != 0)
    ·simp only[Ywl]
     cases inR (x.2.2.2.2.1[i]).2.1 0 9
     ·rfl
     ·simp only[Bool.not_true,Ywl]
      cases i with
      |zero=>rfl
      |succ j=>
       have hj:j<x.2.2.2.2.1.length:=by omega
       have hw:w64 (((j+1:Nat):Int)-1)=(j:Int):=by rw[Yrz (by omega) (by omega)];omega
       rw[show decide (((j+1:Nat):Int)>0)=true by simp]
       simp only[Ywx,hw,Yxc hj,toNat_cast,getD_lt _ hj,Xbc,List.getElem?_eq_getElem hj,Option.map_some]
       cases leB (x.2.2.2.2.1[j]).1 (x.2.2.2.2.1[j+1]).1<;>rfl
    ·simp only[Ywx,hc];rfl) (fun t=>by
    simp only[Xdl.B,Yxg (Nat.le_refl _),Ywl]) () (s:=0) rfl
   refine Eq.trans this ?_
   congr 1
   exact Xds x.2.2.2.2.1 x.2.2.2.2.1.length 0 (by omega)
  rw[h,Ywl,Ywl,Xb2,Xbj]
def X0 (x:Xb):Int:=
 cond (!inR x.1 0 2) 1 (cond (cond (cond (x.1 != 1) (cond (cond (x.2.1 != 0) true (x.2.2.1 != 0)) true (decide ((x.2.2.2.1.length:Int)>0))) false) true (cond (x.1 != 2) (decide ((x.2.2.2.2.1.length:Int)>0)) false)) 1
  (cond (x.1 == 1) (Xd7 x) (cond (x.1 == 2) (Xe8 x) 0)))
theorem Xil (x:Xb) (hb:Bd Xd x):Xe3 x=some (X0 x):=by
 simp only[Xe3,X0,Xfw,Xjh x hb.2.2.2.1.1,Xjc x hb,Option.bind_some];simp only[Yvd]
theorem Xgr (n:Nat):decide ((n:Int)>0) = !((n:Int) == 0):=by
 rw[Bool.eq_iff_iff];simp only[decide_eq_true_eq,Bool.not_eq_true',beq_eq_false_iff_ne,ne_eq];omega
theorem not_bne (a b:Int):(a == b) = !(a != b):=(Bool.not_not _).symm
theorem Xjj (x:Xb) (hb:Bd Xd x):Xe9 x=some (X0 x):=by
 simp only[Xe9,X0,Xgo,Xie x hb.2.2.2.1.1,Xiz x hb,Option.bind_some];cases inR x.1 0 2
 ·rfl
 ·simp only[Bool.not_true,Ywl]
  have e1:(cond (cond (x.2.1 == 0) (x.2.2.1 == 0) false) ((x.2.2.2.1.length:Int) == 0) false) = !(cond (cond (x.2.1 != 0) true (x.2.2.1 != 0)) true (decide ((x.2.2.2.1.length:Int)>0))):=by
   rw[show(x.2.1 != 0) = !(x.2.1 == 0) from rfl,show(x.2.2.1 != 0) = !(x.2.2.1 == 0) from rfl,Xgr]
   cases (x.2.1 == 0)<;>cases (x.2.2.1 == 0)<;>cases ((x.2.2.2.1.length:Int) == 0)<;>rfl
  have e2:(!((x.2.2.2.2.1.length:Int) == 0))=decide ((x.2.2.2.2.1.length:Int)>0):=(Xgr _).symm;rw[e1,e2,Bool.not_not]
  cases (cond (cond (x.2.1 != 0) true (x.2.2.1 != 0)) true (decide ((x.2.2.2.1.length:Int)>0)))<;>cases h1:(x.1 != 1)<;>cases h2:(x.1 != 2)<;>cases hd:decide ((x.2.2.2.2.1.length:Int)>0)<;>simp only[Ywx,Ywl]
  all_goals (rw[not_bne x.1 1,not_bne x.1 2,h1,h2])
  all_goals simp only[Bool.not_true,Bool.not_false,Ywx,Ywl]
  all_goals first | rfl | skip
  all_goals (
   have hz:x.2.2.2.2.1=[]:=by simp at hd;exact hd
   have:Xe8 x=0:=by simp[Xe8,hz,Xa9]
   rw[this])
def Xr (l:List Xb):Int:=cond (decide ((l.length:Int)>10)) 2 (Yee X0 l)
theorem Xi9 (l:List Xb) (hb:Bd (.sl Xd) l):Xc7 l=some (Xr l):=by
 simp only[Xc7,Xr]
 cases hd:decide ((l.length:Int)>10) with
 |true=>rfl
 |false=>
  have hl:l.length≤10:=by simp at hd;omega
  have h:Xeg l 0=_:=Yut l X0 (fun i hi=>by
   simp only[Xeg.B,Yxe hi,Yxc hi,Ywx,toNat_cast,getD_lt _ hi,Xil _ (hb.2 _ (List.getElem_mem hi)),Option.bind_some,Ywe (by omega:i<4294967296)]) (by
   simp only[Xeg.B,Yxg (Nat.le_refl _),Ywl])
  rw[h,Ywl,Ywl,Xb2,Xbj]
theorem Xi6 (l:List Xb) (hb:Bd (.sl Xd) l):Xdr l=some (Xr l):=by
 simp only[Xdr,Xr]
 cases hd:decide ((l.length:Int)>10) with
 |true=>rfl
 |false=>
  have hl:l.length≤10:=by simp at hd;omega
  have h:Xee l (l.length:Int) 0=_:=Yut l X0 (fun i hi=>by
   simp only[Xee.B,Yxe hi,Yxc hi,Ywx,toNat_cast,getD_lt _ hi,Xjj _ (hb.2 _ (List.getElem_mem hi)),Option.bind_some,Ywe (by omega:i<4294967296)]) (by
   simp only[Xee.B,Yxg (Nat.le_refl _),Ywl])
  rw[h,Ywl,Ywl,Xb2,Xbj]
def Xes (l:List Xb):List Int:=l.flatMap fun x=>x.2.2.2.1
theorem Xaj {x:Xb} (h:X0 x=0):x.2.2.2.1.length≤4∧(∀ b∈x.2.2.2.1,0≤b∧b≤19)∧(x.1≠1→x.2.2.2.1=[])∧(x.1=1→Xd7 x=0):=by
 unfold X0 at h
 cases h1:inR x.1 0 2 with
 |false=>rw[h1] at h;cases h
 |true=>
  rw[h1] at h;simp only[Bool.not_true,Ywl] at h
  by_cases e:x.1=1
  ·rw[show(x.1 != 1)=false by simp[e]] at h
   cases h2:cond (cond false (cond (cond (x.2.1 != 0) true (x.2.2.1 != 0)) true (decide ((x.2.2.2.1.length:Int)>0))) false) true (cond (x.1 != 2) (decide ((x.2.2.2.2.1.length:Int)>0)) false) with
   |true=>rw[h2] at h;cases h
   |false=>
    rw[h2,show(x.1 == 1)=true by simp[e]] at h
    simp only[Ywl,Ywx] at h;have hf:=h;unfold Xd7 at h
    cases h3:inR x.2.1 1 60 with
    |false=>rw[h3] at h;cases h
    |true=>
     rw[h3] at h
     cases h4:inR x.2.2.1 0 32 with
     |false=>rw[h4] at h;cases h
     |true=>
      rw[h4] at h;simp only[Bool.not_true,Ywl] at h
      cases h5:((x.2.2.2.1.length:Int) != Xeh x.2.2.1) with
      |true=>rw[h5] at h;cases h
      |false=>
       rw[h5] at h;simp only[Ywl] at h
       cases h6:(x.2.2.2.1.any fun b=>!inR b 0 19) with
       |true=>rw[h6] at h;cases h
       |false=>
        refine⟨?_,fun b hb=>?_,fun h=>absurd e h,fun _=>hf⟩
        ·have hs:=Xbz.1 h4
         have:(x.2.2.2.1.length:Int)=Xeh x.2.2.1:=by simpa using h5
         unfold Xeh at this
         rw[Yrz (x:=x.2.2.1+8) (by omega) (by omega),Yrz (x:=x.2.2.1+8-1) (by omega) (by omega),Int.tdiv_eq_ediv_of_nonneg (by omega),Yrz (by omega) (by omega)] at this
         omega
        ·have:=List.any_eq_false.1 h6 b hb
         exact Xbz.1 (by simpa using this)
  ·rw[show(x.1 != 1)=true by simp[e]] at h
   cases h2:decide ((x.2.2.2.1.length:Int)>0) with
   |true=>
    rw[h2] at h;simp only[Ywx,Yvb] at h
    cases h
   |false=>
    have hz:x.2.2.2.1=[]:=by simp at h2;exact h2
    exact⟨by simp[hz],by simp[hz],fun _=>hz,fun h=>absurd h e⟩
theorem Xd9 {α:Type} {c:α→Int}:∀ {l:List α},Yee c l=0↔∀ x∈l,c x=0
 |[]=>by simp[Yee]
 |x::l=>by
  simp only[Yee,List.mem_cons,forall_eq_or_imp];cases h:(c x != 0)
  ·have:c x=0:=by simpa using h
   simp only[Ywl,this,true_and];exact Xd9
  ·have:c x≠0:=by simpa using h
   simp only[Ywx];exact⟨fun e=>absurd e this,fun e=>absurd e.1 this⟩
theorem Xu {l:List Xb} (h:Xr l=0):l.length≤10∧∀ x∈l,X0 x=0:=by
 unfold Xr at h
 cases h1:decide ((l.length:Int)>10) with
 |true=>rw[h1] at h;cases h
 |false=>rw[h1] at h;exact⟨by simp at h1;omega,Xd9.1 h⟩
structure Xfe (l:List Xb):Prop where
 len:l.length≤10
 blk:∀ x∈l,x.2.2.2.1.length≤4∧∀ b∈x.2.2.2.1,0≤b∧b≤19
theorem Xfe.of {l:List Xb} (h:Xr l=0):Xfe l:=
 ⟨(Xu h).1,fun x hx=>⟨(Xaj ((Xu h).2 x hx)).1,(Xaj ((Xu h).2 x hx)).2.1⟩⟩
theorem Xfv:∀ {l:List Xb},(∀ x∈l,x.2.2.2.1.length≤4)→(Xes l).length≤4*l.length
 |[],h=>by simp[Xes]
 |x::l,h=>by
  have h1:=h x (List.mem_cons_self ..);have:=Xfv (l:=l) fun y hy=>h y (List.mem_cons_of_mem _ hy);simp only[Xes,List.flatMap_cons,List.length_append,List.length_cons] at *;omega
theorem Xfe.all {l:List Xb} (h:Xfe l):(Xes l).length≤40∧∀ b∈Xes l,0≤b∧b≤19:=by
 refine⟨by have:=Xfv (l:=l) fun x hx=>(h.blk x hx).1;have:=h.len;omega,fun b hb=>?_⟩
 obtain⟨x,hx,hb⟩:=List.mem_flatMap.1 hb;exact(h.blk x hx).2 b hb
theorem Xiv (l:List Xb) (at_:Int) (i:Nat) (hi:i<l.length) (n:Nat) (hb:l[i].2.2.2.1.length≤4) (hn:n≤1000):Xcy l at_ (i:Int) ((n:Int),0)=some (((n+l[i].2.2.2.1.count at_:Nat):Int)):=by
 have h:=Yno (τ:=Nat) l[i].2.2.2.1 (f:=fun s=>Xcy.B l at_ (i:Int) s.1 s.2) (fun k m=>((m:Int),(k:Int))) (fun _ y m=>.inl (m+(if y == at_ then 1 else 0))) (fun m=>((m:Nat):Int)) (fun k m=>m≤n+k)
  (fun k hk m hm=>by
   simp only[Xcy.B,Yxc hi,Ywx,toNat_cast,getD_lt _ hi,Option.bind_some,Yxe hk,Yxc hk,getD_lt _ hk,Ywe (by omega:k<4294967296),Ywe (by omega:m<4294967296),sel]
   cases h:(l[i].2.2.2.1[k] == at_)<;>simp[h])
  (fun k hk m m' hm e=>by cases e;split<;>omega)
  (fun m hm=>by
   simp only[Xcy.B,Yxc hi,Ywx,toNat_cast,getD_lt _ hi,Option.bind_some,Yxg (Nat.le_refl _),Ywl]) n (by omega) (s:=((n:Int),0)) rfl
 refine Eq.trans h ?_;rw[Yfm]
 congr 2
 have:∀ (l:List Int) (m:Nat),l.foldl (fun t y=>t+(if y == at_ then 1 else 0)) m=m+l.count at_:=by
  intro l
  induction l with
  |nil=>intro m;simp
  |cons y l ih=>intro m;rw[List.foldl_cons,ih,List.count_cons];omega
 exact this _ _
theorem Xh2 (l:List Xb) (hok:Xfe l) (at_:Int):Xe1 l at_=some ((((Xes l).count at_:Nat):Int)):=by
 have h:=Yno (τ:=Nat) l (f:=fun s=>Xdd.B l at_ s.1 s.2) (fun k m=>((m:Int),(k:Int))) (fun _ x m=>.inl (m+x.2.2.2.1.count at_)) (fun m=>((m:Nat):Int)) (fun k m=>m≤4*k)
  (fun k hk m hm=>by
   have hl:=hok.len
   simp only[Xdd.B,Yxe hk,Ywx,Xiv l at_ k hk m (hok.blk _ (List.getElem_mem hk)).1 (by omega),Option.bind_some,Ywe (by omega:k<4294967296),sel])
  (fun k hk m m' hm e=>by cases e;have:=(hok.blk _ (List.getElem_mem hk)).1;have:=List.count_le_length (a:=at_) (l:=l[k].2.2.2.1);omega)
  (fun m hm=>by simp only[Xdd.B,Yxg (Nat.le_refl _),Ywl]) 0 (by omega) (s:=(0,0)) rfl
 have h':Xdd l at_ (0,0)=_:=h;simp only[Xe1,h',Option.bind_some];rw[Yfm]
 have:∀ (l:List Xb) (m:Nat),l.foldl (fun t x=>t+x.2.2.2.1.count at_) m=m+(Xes l).count at_:=by
  intro l
  induction l with
  |nil=>intro m;simp[Xes]
  |cons y l ih=>intro m;rw[List.foldl_cons,ih];simp only[Xes,List.flatMap_cons,List.count_append];omega
 rw[this,Nat.zero_add]
theorem Xgc:∀ {p:Option (List UInt8)} {l:List Xc},Xa9 p l=0→∀ e∈l,Xa4 e.1=0∧0≤e.2.1∧e.2.1≤9
 |p,[],h,e,he=>by cases he
 |p,x::l,h,e,he=>by
  simp only[Xa9] at h
  cases hc:(Xcf p x != 0) with
  |true=>
   rw[hc] at h
   have:Xcf p x≠0:=by simpa using hc
   exact absurd h this
  |false=>
   rw[hc] at h;rcases List.mem_cons.1 he with rfl | he
   ·have h0:Xcf p e=0:=by simpa using hc
    unfold Xcf at h0
    cases h1:(Xa4 e.1 != 0) with
    |true=>rw[h1] at h0;exact absurd h0 (by simpa using h1)
    |false=>
     rw[h1] at h0
     cases h2:inR e.2.1 0 9 with
     |false=>rw[h2] at h0;cases h0
     |true=>exact⟨by simpa using h1,Xbz.1 h2⟩
   ·exact Xgc h e he
theorem Xad {x:Xb} (h:X0 x=0):(0≤x.1∧x.1≤2)∧x.2.2.2.2.1.length≤6∧(x.1≠2→x.2.2.2.2.1=[])∧(x.1=2→Xe8 x=0)∧(x.1≠1→x.2.1=0∧x.2.2.1=0)∧∀ e∈x.2.2.2.2.1,Xa4 e.1=0∧0≤e.2.1∧e.2.1≤9:=by
 unfold X0 at h
 cases h1:inR x.1 0 2 with
 |false=>rw[h1] at h;cases h
 |true=>
  rw[h1] at h;simp only[Bool.not_true,Ywl] at h;have hk:=Xbz.1 h1
  have hz:x.1≠1→x.2.1=0∧x.2.2.1=0:=by
   intro e
   rw[show(x.1 != 1)=true by simp[e]] at h
   cases h2:(x.2.1 != 0) with
   |true=>rw[h2] at h;cases h
   |false=>
    cases h3:(x.2.2.1 != 0) with
    |true=>rw[h2,h3] at h;cases h
    |false=>exact⟨by simpa using h2,by simpa using h3⟩
  cases h2:cond (cond (x.1 != 1) (cond (cond (x.2.1 != 0) true (x.2.2.1 != 0)) true (decide ((x.2.2.2.1.length:Int)>0))) false) true (cond (x.1 != 2) (decide ((x.2.2.2.2.1.length:Int)>0)) false) with
  |true=>rw[h2] at h;cases h
  |false=>
   rw[h2] at h
   by_cases e:x.1=2
   ·rw[show(x.1 == 1)=false by simp[e],show(x.1 == 2)=true by simp[e]] at h
    simp only[Ywl,Ywx] at h;have hd:=h;unfold Xe8 at h
    cases h3:decide ((x.2.2.2.2.1.length:Int)>6) with
    |true=>rw[h3] at h;cases h
    |false=>
     rw[h3] at h
     exact⟨hk,by simp at h3;omega,fun hh=>absurd e hh,fun _=>hd,hz,Xgc h⟩
   ·rw[show(x.1 != 2)=true by simp[e]] at h2
    have:x.2.2.2.2.1=[]:=by
     cases h3:decide ((x.2.2.2.2.1.length:Int)>0) with
     |true=>
      rw[h3] at h2;exfalso
      revert h2
      generalize cond (x.1 != 1) (cond (cond (x.2.1 != 0) true (x.2.2.1 != 0)) true (decide ((x.2.2.2.1.length:Int)>0))) false=b
      cases b<;>intro h2<;>cases h2
     |false=>simp at h3;exact h3
    exact⟨hk,by simp[this],fun _=>this,fun hh=>absurd hh e,hz,by simp[this]⟩
def Xd8 (f:Fs_):Int:=cond (Xr f.1 != 0) (Xr f.1) (cond (cond (cond ((f.1.length:Int) == 0) true ((f.1.getD 0 Xa).1 != 2)) true ((f.2.1.length:Int) != 20)) 1 0)
structure Xg3 (l:List Xb):Prop where
 ent:∀ x∈l,x.2.2.2.2.1.length≤6∧∀ e∈x.2.2.2.2.1,0≤e.2.1∧e.2.1≤9
theorem Xg3.of {l:List Xb} (h:Xr l=0):Xg3 l:=
 ⟨fun x hx=>⟨(Xad ((Xu h).2 x hx)).2.1,fun e he=>((Xad ((Xu h).2 x hx)).2.2.2.2.2 e he).2⟩⟩
theorem Xjo (f:Fs_) (hb:Bd Xi f):Xe5 f=some (Xd8 f):=by
 simp only[Xe5,Xd8,Xi6 f.1 hb.1,Option.bind_some]
 cases hi:(Xr f.1 != 0) with
 |true=>simp only[Ywx]
 |false=>
  simp only[Ywl]
  have e1:cond (!((f.1.length:Int) == 0)) (inB 0 f.1.length) true=true:=by
   cases hl:((f.1.length:Int) == 0) with
   |true=>rfl
   |false=>exact Yxc (i:=0) (by
     have:(f.1.length:Int)≠0:=by simpa using hl
     omega)
  rw[e1];simp only[Ywx,show(0:Int).toNat=0 from rfl,Yvd]
theorem Xg0 {f:Fs_} (h:Xd8 f=0):Xr f.1=0∧0<f.1.length∧(f.1.getD 0 Xa).1=2∧f.2.1.length=20:=by
 unfold Xd8 at h
 cases hi:(Xr f.1 != 0) with
 |true=>rw[hi] at h;exact absurd h (by simpa using hi)
 |false=>
  rw[hi] at h
  refine⟨by simpa using hi,?_⟩
  cases h1:((f.1.length:Int) == 0) with
  |true=>rw[h1] at h;cases h
  |false=>
   rw[h1] at h
   cases h2:((f.1.getD 0 Xa).1 != 2) with
   |true=>rw[h2] at h;cases h
   |false=>
    rw[h2] at h
    cases h3:((f.2.1.length:Int) != 20) with
    |true=>rw[h3] at h;cases h
    |false=>
     have a1:(f.1.length:Int)≠0:=by simpa using h1
     have a3:(f.2.1.length:Int)=20:=by simpa using h3
     exact⟨by omega,by simpa using h2,by omega⟩
abbrev Xy (l:List Xb) (a:Nat):List Xc:=(l.getD a Xa).2.2.2.2.1
abbrev on (b:List Bool) (i:Nat):Prop:=b.getD i false=true
theorem Xdq {b:List Bool} {i j:Nat}:on (b.set i true) j↔on b j∨(i=j∧i<b.length):=by
 unfold on;rw[List.getD_eq_getElem?_getD,List.getD_eq_getElem?_getD,List.getElem?_set]
 by_cases e:i=j
 ·subst e
  by_cases h:i<b.length
  ·simp[h]
  ·simp[h]
 ·simp[e]
theorem Xio {b:List Bool} {i:Nat} (h:on b i):i<b.length:=by
 unfold on at h
 by_cases hh:i<b.length
 ·exact hh
 ·rw[List.getD_eq_getElem?_getD,List.getElem?_eq_none (by omega)] at h;cases h
theorem Xjw {b:List Bool} {i:Nat} (h:on b i):b.set i true=b:=by
 have hl:=Xio h;unfold on at h;rw[getD_lt _ hl] at h
 conv=>lhs;rw[←h]
 exact List.set_getElem_self hl
def Xgx (l:List Xb):List Int:=l.flatMap fun x=>x.2.2.2.2.1.map fun e=>e.2.1
def Xgj (l:List Xb) (a:Int):Int:=(((Xgx l).count a:Nat):Int)
theorem Xf2 (a:Int):∀ (l:List Xc) (m:Nat),l.foldl (fun t e=>t+(if e.2.1 == a then 1 else 0)) m=m+(l.map fun e=>e.2.1).count a
 |[],m=>by simp
 |y::l,m=>by rw[List.foldl_cons,Xf2 a l,List.map_cons,List.count_cons];omega
theorem Xim (l:List Xb) (hl:∀ x∈l,x.2.2.2.2.1.length≤6) (hn:l.length≤10) (a:Int):Xeu l a=some (Xgj l a):=by
 have h1:∀ (i:Nat) (hi:i<l.length) (n:Nat),n≤1000→Xc2 l a (i:Int) ((n:Int),0)=some (((n+(l[i].2.2.2.2.1.map fun e=>e.2.1).count a:Nat):Int)):=by
  intro i hi n hn;have h6:=hl _ (List.getElem_mem hi)
  have h:=Yno (τ:=Nat) l[i].2.2.2.2.1 (f:=fun s=>Xc2.B l a (i:Int) s.1 s.2) (fun k m=>((m:Int),(k:Int))) (fun _ e m=>.inl (m+(if e.2.1 == a then 1 else 0))) (fun m=>((m:Nat):Int)) (fun k m=>m≤n+k)
   (fun k hk m hm=>by
    simp only[Xc2.B,Yxc hi,Ywx,toNat_cast,getD_lt _ hi,Option.bind_some,Yxe hk,Yxc hk,getD_lt _ hk,Ywe (by omega:k<4294967296),Ywe (by omega:m<4294967296),sel]
    cases h:((l[i].2.2.2.2.1[k]).2.1 == a)<;>simp[h])
   (fun k hk m m' hm e=>by cases e;split<;>omega)
   (fun m hm=>by
    simp only[Xc2.B,Yxc hi,Ywx,toNat_cast,getD_lt _ hi,Option.bind_some,Yxg (Nat.le_refl _),Ywl]) n (by omega) (s:=((n:Int),0)) rfl
  refine Eq.trans h ?_;rw[Yfm,Xf2]
 have h:=Yno (τ:=Nat) l (f:=fun s=>Xd0.B l a s.1 s.2) (fun k m=>((m:Int),(k:Int))) (fun _ x m=>.inl (m+(x.2.2.2.2.1.map fun e=>e.2.1).count a)) (fun m=>((m:Nat):Int)) (fun k m=>m≤6*k)
  (fun k hk m hm=>by
   simp only[Xd0.B,Yxe hk,Ywx,h1 k hk m (by omega),Option.bind_some,Ywe (by omega:k<4294967296),sel])
  (fun k hk m m' hm e=>by cases e;have:=hl _ (List.getElem_mem hk);have:=List.count_le_length (a:=a) (l:=l[k].2.2.2.2.1.map fun e=>e.2.1);simp at this;omega)
  (fun m hm=>by simp only[Xd0.B,Yxg (Nat.le_refl _),Ywl]) 0 (by omega) (s:=(0,0)) rfl
 have h':Xd0 l a (0,0)=_:=h;simp only[Xeu,h',Option.bind_some];rw[Yfm]
 have:∀ (l:List Xb) (m:Nat),l.foldl (fun t x=>t+(x.2.2.2.2.1.map fun e=>e.2.1).count a) m=m+(Xgx l).count a:=by
  intro l
  induction l with
  |nil=>intro m;simp[Xgx]
  |cons y l ih=>intro m;rw[List.foldl_cons,ih];simp only[Xgx,List.flatMap_cons,List.count_append];omega
 rw[this,Nat.zero_add];rfl
def Xae (a b:Int):Int:=cond (decide (a<b)) a b
theorem Xhj (a b:Int):Xef a b=some (Xae a b):=by simp only[Xef,Xae,Yvd]
theorem Xf6 (a b:Int):cond (decide (a<b)) a b=Xae b a:=by
 unfold Xae
 by_cases h1:a<b
 ·rw[show decide (a<b)=true by simp[h1],show decide (b<a)=false by simp;omega];rfl
 ·by_cases h2:b<a
  ·rw[show decide (a<b)=false by simp;omega,show decide (b<a)=true by simp[h2]];rfl
  ·have:a=b:=by omega
   subst this;simp
def Xao (x:Xb):Nat→List Int→List Int→List Int
 |_,[],w=>w
 |k,b::bs,w=>Xao x (k+1) bs (w.set b.toNat (Xae 8 (w64 (x.2.2.1-w64 ((k:Int)*8)))))
def Xea:List Xb→List Int→List Int
 |[],w=>w
 |x::l,w=>Xea l (Xao x 0 x.2.2.2.1 w)
def Xcd (l:List Xb):List Int:=Xea l (List.replicate 20 0)
theorem Xb1 (x:Xb):∀ (bs:List Int) (k:Nat) (w:List Int),(Xao x k bs w).length=w.length
 |[],k,w=>rfl
 |b::bs,k,w=>by simp only[Xao];rw[Xb1 x bs];simp
theorem Xey:∀ (l:List Xb) (w:List Int),(Xea l w).length=w.length
 |[],w=>rfl
 |x::l,w=>by simp only[Xea];rw[Xey l,Xb1]
theorem Xex (l:List Xb):(Xcd l).length=20:=by unfold Xcd;rw[Xey];simp
theorem Xce (x:Xb):∀ (bs:List Int) (k:Nat) (w:List Int),Yba (fun k b w=>.inl (w.set b.toNat (Xae 8 (w64 (x.2.2.1-w64 ((k:Int)*8)))))) id k bs w=Xao x k bs w
 |[],k,w=>rfl
 |b::bs,k,w=>by simp only[Yba,Ywm,Xao];exact Xce x bs _ _
theorem Xcg:∀ (l:List Xb) (k:Nat) (w:List Int),Yba (fun _ x w=>.inl (Xao x 0 x.2.2.2.1 w)) id k l w=Xea l w
 |[],k,w=>rfl
 |x::l,k,w=>by simp only[Yba,Ywm,Xea];exact Xcg l _ _
theorem Xh3 (l:List Xb) (v v2:Int) (v3:List Int) (x:Xb) (h4:x.2.2.2.1.length≤4) (hb:∀ b∈x.2.2.2.1,0≤b∧b≤19) (w:List Int) (hw:w.length=20):Xah l v v2 x.2.2.2.1 (x.2.2.2.1.length:Int) v3 x (0,w)=some (Xao x 0 x.2.2.2.1 w):=by
 have h:=Yno (τ:=List Int) x.2.2.2.1 (f:=fun s=>Xah.B l v v2 x.2.2.2.1 (x.2.2.2.1.length:Int) v3 x s.1 s.2) (fun k w=>((k:Int),w)) (fun k b w=>.inl (w.set b.toNat (Xae 8 (w64 (x.2.2.1-w64 ((k:Int)*8)))))) id (fun k w=>w.length=20)
  (fun k hk w hw=>by
   have h2:=hb _ (List.getElem_mem hk)
   simp only[Xah.B,Yxe hk,Yxc hk,Ywx,toNat_cast,getD_lt _ hk,Xf6,Option.bind_some,Ywe (by omega:k<4294967296),sel]
   rw[show inB (x.2.2.2.1[k]) 20=true from Yuq h2.1 (by omega)];rfl) (fun k hk w w' hw e=>by cases e;simpa using hw) (fun w hw=>by
   simp only[Xah.B,Yxg (Nat.le_refl _),Ywl,id]) w hw (s:=(0,w)) rfl
 rw[Xce] at h;exact h
theorem Xiu (l:List Xb) (hok:Xfe l):Xcs l=some (Xcd l):=by
 have hl:=hok.len
 have h:=Yno (τ:=List Int) l (f:=fun s=>Xa6.B l (l.length:Int) (List.replicate 20 0) s.1 s.2) (fun k w=>((k:Int),w)) (fun _ x w=>.inl (Xao x 0 x.2.2.2.1 w)) id (fun k w=>w.length=20)
  (fun k hk w hw=>by
   have h2:=hok.blk _ (List.getElem_mem hk)
   simp only[Xa6.B,Yxe hk,Yxc hk,Ywx,toNat_cast,getD_lt _ hk,Option.bind_some,Xh3 l _ _ _ _ h2.1 h2.2 w hw,Ywe (by omega:k<4294967296),sel]) (fun k hk w w' hw e=>by cases e;rw[Xb1];exact hw) (fun w hw=>by
   simp only[Xa6.B,Yxg (Nat.le_refl _),Ywl,id]) (List.replicate 20 0) (by simp) (s:=(0,List.replicate 20 0)) rfl
 rw[Xcg] at h;have h':Xa6 l (l.length:Int) (List.replicate 20 0) (0,List.replicate 20 0)=some (Xcd l):=h;simp only[Xcs,h',Option.bind_some]
theorem Xfh (k:IntKind):∀ xs:List Int,(xs.map (wt (.int k))).sum=xs.length
 |[]=>rfl
 |x::xs=>by rw[List.map_cons,List.sum_cons,Xfh k xs,Yw2,List.length_cons];omega
structure Xat (x:Xb):Prop where
 blk:x.2.2.2.1.length≤4
 ent:x.2.2.2.2.1.length≤6
 nam:∀ e∈x.2.2.2.2.1,e.1.length≤4
theorem Xat.of {x:Xb} (h:X0 x=0):Xat x:=
 ⟨(Xaj h).1,(Xad h).2.1,fun e he=>(Xg8 ((Xad h).2.2.2.2.2 e he).1).2.1⟩
theorem Xhi {α β:Type}:∀ (l:List α) (a:List α) (b:β),l.foldl (fun(t:List α×β) x=>(t.1++[x],t.2)) (a,b)=(a++l,b)
 |[],a,b=>by simp
 |x::l,a,b=>by rw[List.foldl_cons,Xhi l];simp
theorem Xhg {α β γ:Type}:∀ (l:List α) (a:β) (b:List α) (c:γ),l.foldl (fun(t:β×List α×γ) x=>(t.1,t.2.1++[x],t.2.2)) (a,b,c)=(a,b++l,c)
 |[],a,b,c=>by simp
 |x::l,a,b,c=>by rw[List.foldl_cons,Xhg l];simp
structure FsB (f:Fs_):Prop where
 l:f.1.length≤10
 s:∀ x∈f.1,Xat x
 d:f.2.1.length=20
 dl:∀ b∈f.2.1,b.length≤64
theorem FsB.wt {f:Fs_} (h:FsB f):wt Xi f≤100000:=by
 have e1:∀ w:List Int,(w.map (Mf.wt (.int .i64))).sum=w.length:=fun w=>Xfh .i64 w;have e2:∀ w:List Int,(w.map (Mf.wt (.int .u8))).sum=w.length:=fun w=>Xfh .u8 w
 have h1:=Yto (Mf.wt Xd) 100 (xs:=f.1) (fun x hx=>by
  have hs:=h.s x hx;have hb:=hs.blk;have he:=hs.ent
  have h2:=Yto (Mf.wt Xe) 6 (xs:=x.2.2.2.2.1) (fun e hee=>by
   have:=hs.nam e hee
   simp only[Ypv,Yrv,Yw2,Ywt];omega)
  have e:Mf.wt Xd x=1+(1+(1+((x.2.2.2.1.map (Mf.wt (.int .i64))).sum+1+((x.2.2.2.2.1.map (Mf.wt Xe)).sum+1+0)))):=rfl;rw[e,e1]
  omega)
 have h2:=Yto (Mf.wt (.sl (.int .u8))) 65 (xs:=f.2.1) (fun b hb=>by
  have:=h.dl b hb
  rw[Yt8,e2];omega)
 have hl:=h.l;have hd:=h.d;rw[Ypv,Ypv,Ywt,Yt8,Yt8];rw[hd] at h2;have:f.1.length*100≤10*100:=Nat.mul_le_mul_right _ hl;omega
theorem Xij {x:Xb} (h:Xat x):Xfi x=some x:=by
 have h1:=h.blk;have h2:=h.ent;simp only[Xfi,Xfu,List.nil_append]
 rw[decide_eq_true (by omega:x.2.2.2.1.length≤2147483648)]
 simp only[Ywx,Option.bind_some]
 rw[decide_eq_true (by omega:x.2.2.2.2.1.length≤2147483648)]
 rfl
def Xm (l:List Xb) (a:Int):Int:=(l.getD a.toNat Xa).1
def Xo (l:List Xb) (met:List Bool) (e:Xc):Bool:=
 cond (cond (decide (e.2.1≥(l.length:Int))) true (e.2.1 == 0)) false (cond (Xm l e.2.1 == 0) false (cond (Xm l e.2.1 == 2) (!(met.getD e.2.1.toNat false)) true))
abbrev Xca:=List Bool×List Int×List Xc×Int
def Xq (l:List Xb) (t:Xca) (e:Xc):Xca:=
 cond (Xo l t.1 e) (t.1.set e.2.1.toNat true,t.2.1++cond (Xm l e.2.1 == 2) [e.2.1] [],t.2.2.1++[e],t.2.2.2) (t.1,t.2.1,t.2.2.1,t.2.2.2+1)
structure Xd5 (l:List Xb) (wr:Int) (i:Nat) (t:Xca):Prop where
 len:t.1.length=l.length
 m0:t.1.getD 0 false=true
 p:t.2.1.length≤i
 q:t.2.2.1.length≤i
 w0:0≤t.2.2.2
 w1:t.2.2.2≤wr+i
theorem Xf9 {b:List Bool} {j:Nat} (k:Nat) (h:b.getD k false=true):(b.set j true).getD k false=true:=by
 simp only[List.getD,List.getElem?_set] at h ⊢
 split
 ·rename_i e
  split
  ·rfl
  ·rename_i hl
   rw[List.getElem?_eq_none (by omega)] at h;cases h
 ·exact h
theorem Xd5.step {l:List Xb} {wr:Int} {i:Nat} {t:Xca} (h:Xd5 l wr i t) (e:Xc):Xd5 l wr (i+1) (Xq l t e):=by
 unfold Xq
 cases Xo l t.1 e with
 |false=>exact⟨h.len,h.m0,by have:=h.p;simp only[Ywl];omega,by have:=h.q;simp only[Ywl];omega,by have:=h.w0;simp only[Ywl];omega,by have:=h.w1;simp only[Ywl];omega⟩
 |true=>
  refine⟨by simp only[Ywx,List.length_set];exact h.len,Xf9 0 h.m0,?_,?_,h.w0,by have:=h.w1;simp only[Ywx];omega⟩
  ·have:=h.p
   simp only[Ywx,List.length_append]
   cases Xm l e.2.1 == 2<;>simp<;>omega
  ·have:=h.q;simp;omega
theorem Xjm (f:Fs_) (hn:f.1.length≤1000) (a:Int) (h0:0≤a):Xfn f a=some (decide (a<(f.1.length:Int))):=by
 simp only[Xfn,Xfw,Option.bind_some,Yrz (show -9223372036854775808≤(f.1.length:Int)-1 by omega) (by omega)]
 congr 1
 rw[Bool.eq_iff_iff,Xbz];simp;omega
theorem Xjl (f:Fs_) (hn:f.1.length≤10) (h2:Xm f.1 0=2) (d:Int) (es:List Xc) (hl:es.length≤6) (he:∀ e∈es,0≤e.2.1∧e.2.1≤9) (v out:Fs_) (q:List Int) (hq:q.length≤1000) (wr:Int) (met:List Bool)
  (hw0:0≤wr) (hw1:wr≤1000) (hm:met.length=f.1.length) (hm0:met.getD 0 false=true) :
  Xck f d es v out (wr,0,met,q,[])=some ((es.foldl (Xq f.1) (met,[],[],wr)).2.2.2,(es.foldl (Xq f.1) (met,[],[],wr)).1,q++(es.foldl (Xq f.1) (met,[],[],wr)).2.1,(es.foldl (Xq f.1) (met,[],[],wr)).2.2.1):=by
 have h:=Yno (τ:=Xca) (f:=fun s=>Xck.B f d es v out s.1 s.2.1 s.2.2.1 s.2.2.2.1 s.2.2.2.2) es (fun i t=>(t.2.2.2,(i:Int),t.1,q++t.2.1,t.2.2.1)) (fun _ e t=>.inl (Xq f.1 t e))
  (fun t=>(t.2.2.2,t.1,q++t.2.1,t.2.2.1)) (fun i t=>Xd5 f.1 wr i t) (fun i hi t ht=>by
   have hee:=he _ (List.getElem_mem hi);simp only[Xck.B,Yxe hi,Yxc hi,Ywx,toNat_cast,getD_lt _ hi];generalize es[i]=e at hee;have hp:=ht.p;have hqq:=ht.q;have hw:=ht.w1;have hw':=ht.w0
   rw[Xjm f (by omega) _ hee.1]
   simp only[Option.bind_some,Ywe (by omega:i<4294967296),sel]
   by_cases hlt:e.2.1<(f.1.length:Int)
   ·have hb:inB e.2.1 f.1.length=true:=Yuq hee.1 hlt
    have hb2:inB e.2.1 t.1.length=true:=by rw[ht.len];exact hb
    have hge:decide (e.2.1≥(f.1.length:Int))=false:=by simp;omega
    have ek:(f.1.getD e.2.1.toNat Xa).1=Xm f.1 e.2.1:=rfl;simp only[decide_eq_true hlt,hb,hb2,Bool.not_true,Bool.not_false,Ywx,Ywl,Yvb,ek]
    have hl1:decide ((q++(t.2.1++[e.2.1])).length≤2147483648)=true:=by simp;omega
    have hl2:decide ((t.2.2.1++[e]).length≤2147483648)=true:=by simp;omega
    by_cases h0:e.2.1=0
    ·have e2:Xm f.1 e.2.1=2:=by rw[h0];exact h2
     have em:t.1.getD e.2.1.toNat false=true:=by rw[h0];exact ht.m0
     have hr:Xo f.1 t.1 e=false:=by unfold Xo;simp[h0]
     simp only[Xq,hr,e2,em,Ywl]
     simp only[show((2:Int) == 0)=false from rfl,show((2:Int) == 2)=true from rfl,Ywx,Ywl,Bool.not_false,Bool.and_self,Option.bind_some,Yxo (show 0≤t.2.2.2+1 by omega) (by omega)]
    ·have h0':(e.2.1 == 0)=false:=by simpa using h0
     cases hk0:Xm f.1 e.2.1 == 0 with
     |true=>
      have hr:Xo f.1 t.1 e=false:=by unfold Xo;simp only[hge,h0',hk0,Ywl,Ywx]
      simp only[Xq,hr,Ywl,Ywx,Bool.not_true,Bool.false_and,Option.bind_some,Yxo (show 0≤t.2.2.2+1 by omega) (by omega)]
     |false=>
      cases hk2:Xm f.1 e.2.1 == 2 with
      |true=>
       cases hm:t.1.getD e.2.1.toNat false with
       |true=>
        have hr:Xo f.1 t.1 e=false:=by unfold Xo;simp only[hge,h0',hk0,hk2,hm,Ywl,Ywx,Bool.not_true]
        simp only[Xq,hr,Ywl,Ywx,Bool.not_false,Bool.and_self,Option.bind_some,hk2,hm,Yxo (show 0≤t.2.2.2+1 by omega) (by omega)]
       |false=>
        have hr:Xo f.1 t.1 e=true:=by unfold Xo;simp only[hge,h0',hk0,hk2,hm,Ywl,Ywx,Bool.not_false]
        simp only[Xq,hr,Ywl,Ywx,Bool.not_false,Bool.and_self,Option.bind_some,hk2,hm,hl1,hl2,List.append_assoc]
      |false=>
       have hr:Xo f.1 t.1 e=true:=by unfold Xo;simp only[hge,h0',hk0,hk2,Ywl,Ywx]
       simp only[Xq,hr,Ywl,Ywx,Bool.not_false,Bool.and_false,Option.bind_some,hk2,hl2,List.append_nil]
   ·have hge:decide (e.2.1≥(f.1.length:Int))=true:=by simp;omega
    have hr:Xo f.1 t.1 e=false:=by unfold Xo;simp only[hge,Ywx]
    simp only[Xq,hr,decide_eq_false hlt,Bool.not_false,Bool.not_true,Ywx,Ywl,Option.bind_some,Bool.false_and,Yxo (show 0≤t.2.2.2+1 by omega) (by omega)])
  (fun i hi t t' ht e=>by cases e;exact ht.step _)
  (fun t ht=>by simp only[Xck.B,Yxg (Nat.le_refl _),Ywl]) (met,[],[],wr) ⟨hm,hm0,Nat.le_refl _,Nat.le_refl _,hw0,by simp⟩ (s:=(wr,0,met,q,[])) (by simp)
 rw[Yfm] at h;exact h
def Xb5 (k:List Int) (es:List Xc):List Int:=es.foldl (fun k e=>k.set e.2.1.toNat (w64 (k.getD e.2.1.toNat 0+1))) k
theorem Xgi (es:List Xc):∀ k:List Int,(Xb5 k es).length=k.length:=by
 induction es with
 |nil=>intro k;rfl
 |cons e es ih=>intro k;show(Xb5 _ es).length=_;rw[ih];simp
theorem Xgz (k:List Int) (es:List Xc) (e:Xc):Xb5 k (es++[e])=(Xb5 k es).set e.2.1.toNat (w64 ((Xb5 k es).getD e.2.1.toNat 0+1)):=by simp[Xb5]
theorem Xiw (l:List Xb) (hn:l.length≤10) (f:Fs_) (hf:f.1=l) (met:List Bool) (hm:met.length=l.length) (r:List (List Xc)×Int×(List Int)×(List Int)×Unit) (e:Xc) (h0:0≤e.2.1):Xfm (f,met,r) e=some (Xo l met e):=by
 subst hf;unfold Xfm Xfz Xo;simp only[Option.bind_some]
 cases h1:cond (decide (e.2.1≥(f.1.length:Int))) true (e.2.1 == 0) with
 |true=>rfl
 |false=>
  have hlt:e.2.1<(f.1.length:Int):=by
   cases h2:decide (e.2.1≥(f.1.length:Int)) with
   |true=>rw[h2] at h1;cases h1
   |false=>simp at h2;omega
  have hb:inB e.2.1 f.1.length=true:=Yuq h0 hlt
  have hb2:inB e.2.1 met.length=true:=by rw[hm];exact hb
  have ek:(f.1.getD e.2.1.toNat Xa).1=Xm f.1 e.2.1:=rfl;simp only[hb,hb2,Ywl,Ywx,ek]
  cases Xm f.1 e.2.1 == 0<;>cases Xm f.1 e.2.1 == 2<;>rfl
theorem Xi2 (f:Fs_) (hn:f.1.length≤10) (a:Int) (ha:0≤a∧a<(f.1.length:Int)) (es:List Xc) (hl:es.length≤6) (he:∀ e∈es,0≤e.2.1∧e.2.1≤9) (q:List Int) (hq:q.length≤1000) (wr:Int) (met:List Bool)
  (E:List (List Xc)) (hE:E.length=f.1.length) (hEa:E.getD a.toNat []=[]) (K B:List Int) (hK:K.length=f.1.length) (hw0:0≤wr) (hw1:wr≤1000) (hm:met.length=f.1.length) (hm0:met.getD 0 false=true) :
  Xcq f a es (es.length:Int) f (0,q,(met,E,wr,K,B,()))=some (q++(es.foldl (Xq f.1) (met,[],[],wr)).2.1,((es.foldl (Xq f.1) (met,[],[],wr)).1,E.set a.toNat (es.foldl (Xq f.1) (met,[],[],wr)).2.2.1,(es.foldl (Xq f.1) (met,[],[],wr)).2.2.2,Xb5 K (es.foldl (Xq f.1) (met,[],[],wr)).2.2.1,B,())):=by
 have hat:a.toNat<f.1.length:=by omega
 have hE0:E.set a.toNat []=E:=by
  rw[←hEa]
  refine List.ext_getElem (by simp) fun i h1 h2=>?_
  rw[List.getElem_set]
  split
  ·rename_i e;subst e;exact getD_lt _ h2
  ·rfl
 have h:=Yno (τ:=Xca) (f:=fun s=>Xcq.B f a es (es.length:Int) f s.1 s.2.1 s.2.2) es (fun i t=>((i:Int),q++t.2.1,(t.1,E.set a.toNat t.2.2.1,t.2.2.2,Xb5 K t.2.2.1,B,()))) (fun _ e t=>.inl (Xq f.1 t e))
  (fun t=>(q++t.2.1,(t.1,E.set a.toNat t.2.2.1,t.2.2.2,Xb5 K t.2.2.1,B,()))) (fun i t=>Xd5 f.1 wr i t) (fun i hi t ht=>by
   have hee:=he _ (List.getElem_mem hi);simp only[Xcq.B,Yxe hi,Yxc hi,Ywx,toNat_cast,getD_lt _ hi];generalize es[i]=e at hee;have hp:=ht.p;have hqq:=ht.q;have hw:=ht.w1;have hw':=ht.w0;rw[Xiw f.1 hn f rfl t.1 ht.len _ _ hee.1]
   simp only[Option.bind_some,Ywe (by omega:i<4294967296),sel]
   cases hr:Xo f.1 t.1 e with
   |false=>simp only[Xq,hr,Ywl,Ywx,Bool.not_false,Yxo (show 0≤t.2.2.2+1 by omega) (by omega)]
   |true=>
    have hlt:e.2.1<(f.1.length:Int):=by
     cases h2:decide (e.2.1≥(f.1.length:Int)) with
     |true=>unfold Xo at hr;rw[h2] at hr;simp only[Ywx] at hr;cases hr
     |false=>simp at h2;omega
    have hb:inB e.2.1 f.1.length=true:=Yuq hee.1 hlt
    have hb2:inB e.2.1 t.1.length=true:=by rw[ht.len];exact hb
    have hb3:inB e.2.1 (Xb5 K t.2.2.1).length=true:=by rw[Xgi,hK];exact hb
    have hb4:inB a (E.set a.toNat t.2.2.1).length=true:=by rw[List.length_set,hE];exact Yuq ha.1 ha.2
    have hl1:decide ((q++(t.2.1++[e.2.1])).length≤2147483648)=true:=by simp;omega
    have hl2:decide ((t.2.2.1++[e]).length≤2147483648)=true:=by simp;omega
    have ek:(f.1.getD e.2.1.toNat Xa).1=Xm f.1 e.2.1:=rfl
    have hEe:(E.set a.toNat t.2.2.1).getD a.toNat []=t.2.2.1:=Yvs _ _ (by omega)
    have hnb:Nat.beq a.toNat a.toNat=true:=Nat.beq_refl _
    have hmk:(cond (!(t.1.getD e.2.1.toNat false)) (Xm f.1 e.2.1 == 2) false)=(Xm f.1 e.2.1 == 2):=by
     cases hk2:Xm f.1 e.2.1 == 2 with
     |false=>exact Yvb _ _
     |true=>
      unfold Xo at hr;simp only[hk2,Ywx] at hr
      cases hm':t.1.getD e.2.1.toNat false with
      |false=>rfl
      |true=>
       rw[hm'] at hr
       revert hr
       cases cond (decide (e.2.1≥(f.1.length:Int))) true (e.2.1 == 0)<;>cases Xm f.1 e.2.1 == 0<;>simp
    simp only[Bool.not_true,Ywl,Ywx,hb,hb2,hb3,hb4,hEe,hl1,hl2,hnb,Bool.and_self,Option.bind_some,Yvb,ek,hmk,Xq,hr,Xgz,List.set_set]
    cases hk2:Xm f.1 e.2.1 == 2 with
    |true=>simp only[Ywx,List.append_assoc,hl1]
    |false=>simp only[Ywl,List.append_nil])
  (fun i hi t t' ht e=>by cases e;exact ht.step _)
  (fun t ht=>by simp only[Xcq.B,Yxg (Nat.le_refl _),Ywl]) (met,[],[],wr) ⟨hm,hm0,Nat.le_refl _,Nat.le_refl _,hw0,by simp⟩ (s:=(0,q,(met,E,wr,K,B,()))) (by simp[hE0,Xb5])
 rw[Yfm] at h;exact h
theorem Xg1 {l:List Xb} {met:List Bool} {e:Xc} (h:Xo l met e=true):e.2.1<(l.length:Int)∧e.2.1≠0∧Xm l e.2.1≠0∧(Xm l e.2.1=2→met.getD e.2.1.toNat false=false):=by
 unfold Xo at h
 by_cases h1:e.2.1≥(l.length:Int)
 ·simp[h1] at h
 ·by_cases h2:e.2.1=0
  ·simp[h2] at h
  ·by_cases h3:Xm l e.2.1=0
   ·simp[h3] at h
   ·refine⟨by omega,h2,h3,fun h4=>?_⟩
    have a1:decide (e.2.1≥(l.length:Int))=false:=by simpa using h1
    have a2:(e.2.1 == 0)=false:=by simpa using h2
    have a4:(Xm l e.2.1 == 2)=true:=by simpa using h4
    rw[a1,a2,h4] at h
    simpa using h
structure Xez (l:List Xb) (met0:List Bool) (es:List Xc) (t:Xca):Prop where
 len:t.1.length=l.length
 mono:∀ j,on met0 j→on t.1 j
 ps:∀ p∈t.2.1,0≤p∧p<(l.length:Int)∧Xm l p=2∧¬ on met0 p.toNat∧on t.1 p.toNat
 nd:t.2.1.Nodup
 all:∀ j:Nat,on t.1 j→¬ on met0 j→Xm l j=2→(j:Int)∈t.2.1
 nz:∀ j:Nat,on t.1 j→¬ on met0 j→Xm l j≠0
 lf:∀ e∈t.2.2.1,e∈es∧0≤e.2.1∧e.2.1<(l.length:Int)∧on t.1 e.2.1.toNat
theorem Xez.step {l:List Xb} {met0:List Bool} {es:List Xc} {t:Xca} (h:Xez l met0 es t) {e:Xc} (he:e∈es) (h0:0≤e.2.1):Xez l met0 es (Xq l t e):=by
 unfold Xq
 cases hr:Xo l t.1 e with
 |false=>exact⟨h.len,h.mono,h.ps,h.nd,h.all,h.nz,h.lf⟩
 |true=>
  obtain⟨r1,r2,r3,r4⟩:=Xg1 hr
  have hlt:e.2.1.toNat<t.1.length:=by rw[h.len];omega
  have hcast:((e.2.1.toNat:Nat):Int)=e.2.1:=by omega
  have hup:∀ j,on t.1 j→on (t.1.set e.2.1.toNat true) j:=fun j hj=>Xdq.2 (.inl hj)
  refine⟨by simp only[Ywx,List.length_set];exact h.len,fun j hj=>hup j (h.mono j hj),?_,?_,?_,?_,?_⟩
  ·intro p hp
   simp only[Ywx] at hp;rcases List.mem_append.1 hp with hp | hp
   ·obtain⟨q1,q2,q3,q4,q5⟩:=h.ps p hp
    exact⟨q1,q2,q3,q4,hup _ q5⟩
   ·cases hk:Xm l e.2.1 == 2 with
    |false=>rw[hk] at hp;cases hp
    |true=>
     rw[hk] at hp;simp only[Ywx,List.mem_singleton] at hp;subst hp
     have hk2:Xm l e.2.1=2:=by simpa using hk
     exact⟨h0,r1,hk2,(fun hm=>by have:=h.mono _ hm;unfold on at this;rw[r4 hk2] at this;cases this),Xdq.2 (.inr ⟨rfl,hlt⟩)⟩
  ·simp only[Ywx]
   cases hk:Xm l e.2.1 == 2 with
   |false=>simpa using h.nd
   |true=>
    have hk2:Xm l e.2.1=2:=by simpa using hk
    simp only[Ywx]
    refine List.nodup_append.2 ⟨h.nd,by simp,fun a ha b hb=>?_⟩
    simp only[List.mem_singleton] at hb;subst hb;intro e';subst e';have:=(h.ps _ ha).2.2.2.2;unfold on at this;rw[r4 hk2] at this;cases this
  ·intro j hj hn hk
   simp only[Ywx] at hj ⊢;rcases Xdq.1 hj with hj | ⟨rfl,_⟩
   ·exact List.mem_append.2 (.inl (h.all j hj hn hk))
   ·rw[hcast] at hk ⊢
    rw[hk];simp
  ·intro j hj hn
   simp only[Ywx] at hj;rcases Xdq.1 hj with hj | ⟨rfl,_⟩
   ·exact h.nz j hj hn
   ·rw[hcast];exact r3
  ·intro x hx
   simp only[Ywx] at hx ⊢;rcases List.mem_append.1 hx with hx | hx
   ·obtain⟨q1,q2,q3,q4⟩:=h.lf x hx
    exact⟨q1,q2,q3,hup _ q4⟩
   ·simp only[List.mem_singleton] at hx
    subst hx;exact⟨he,h0,r1,Xdq.2 (.inr ⟨rfl,hlt⟩)⟩
theorem Xg4 {l:List Xb} {met0:List Bool} {es0:List Xc} (hd:∀ e∈es0,0≤e.2.1):∀ (es:List Xc) (t:Xca),(∀ e∈es,e∈es0)→Xez l met0 es0 t→Xez l met0 es0 (es.foldl (Xq l) t)
 |[],t,_,h=>h
 |e::es,t,hs,h=>Xg4 hd es _ (fun x hx=>hs x (List.mem_cons_of_mem _ hx)) (h.step (hs e List.mem_cons_self) (hd e (hs e List.mem_cons_self)))
theorem Xg7 {l:List Xb} {wr:Int}:∀ (es:List Xc) (i:Nat) (t:Xca),Xd5 l wr i t→Xd5 l wr (i+es.length) (es.foldl (Xq l) t)
 |[],i,t,h=>h
 |e::es,i,t,h=>by
  have:=Xg7 es (i+1) _ (h.step e)
  rwa [show i+(e::es).length=i+1+es.length by simp;omega]
theorem Xga:∀ (es:List Xc) (K:List Int) (M:Int),(∀ j,0≤K.getD j 0∧K.getD j 0≤M)→M+es.length≤1000000→(∀ e∈es,0≤e.2.1∧e.2.1.toNat<K.length)→
  ∀ j,(Xb5 K es).getD j 0=K.getD j 0+(((es.map fun e=>e.2.1).count (j:Int):Nat):Int)
 |[],K,M,_,_,_,j=>by simp[Xb5]
 |e::es,K,M,hK,hM,he,j=>by
  obtain⟨h0,hlt⟩:=he e List.mem_cons_self;have hKe:=hK e.2.1.toNat
  have hlen:((e::es).length:Int)=es.length+1:=by simp
  have hw:w64 (K.getD e.2.1.toNat 0+1)=K.getD e.2.1.toNat 0+1:=Yrz (by omega) (by omega)
  have hg:∀ j,(K.set e.2.1.toNat (K.getD e.2.1.toNat 0+1)).getD j 0=K.getD j 0+(if e.2.1=(j:Int) then 1 else 0):=by
   intro j
   by_cases hj:e.2.1.toNat=j
   ·subst hj
    rw[Yvs _ _ hlt,if_pos (by omega)]
   ·rw[if_neg (by omega)]
    simp only[List.getD,List.getElem?_set,hj,if_false];omega
  show(Xb5 (K.set e.2.1.toNat (w64 (K.getD e.2.1.toNat 0+1))) es).getD j 0=_
  rw[hw,Xga es _ (M+1) (fun j=>by rw[hg];have:=hK j;split<;>omega) (by omega) (fun x hx=>by rw[List.length_set];exact he x (List.mem_cons_of_mem _ hx)) j,hg,List.map_cons,List.count_cons]
  by_cases hj:e.2.1=(j:Int)
  ·rw[if_pos hj,if_pos (by simpa using hj)];omega
  ·rw[if_neg hj,if_neg (by simpa using hj)];omega
def Xfl (T:List (List Xc)) (j:Int):Nat:=(T.flatMap fun es=>es.map fun e=>e.2.1).count j
theorem Xf8:∀ (T:List (List Xc)) (a:Nat) (left:List Xc) (j:Int),a<T.length→T.getD a []=[]→Xfl (T.set a left) j=Xfl T j+(left.map fun e=>e.2.1).count j
 |[],a,left,j,h,_=>by simp at h
 |t::T,0,left,j,h,he=>by
  have:t=[]:=he;subst this
  simp[Xfl,List.count_append];omega
 |t::T,a+1,left,j,h,he=>by
  have:=Xf8 T a left j (by simpa using h) (by simpa using he)
  simp only[Xfl,List.set_cons_succ,List.flatMap_cons,List.count_append] at this ⊢;omega
theorem Xb3:∀ (n:Nat) (P:List Nat),P.Nodup→(∀ x∈P,x<n)→P.length≤n
 |0,P,_,h=>by
  cases P with
  |nil=>simp
  |cons x P=>have:=h x List.mem_cons_self;omega
 |n+1,P,hn,h=>by
  by_cases hm:n∈P
  ·have h1:=Xb3 n (P.erase n) (hn.erase _) (fun x hx=>by
    have h2:=(List.Nodup.mem_erase_iff hn).1 hx;have h3:=h x h2.2
    omega)
   rw[List.length_erase_of_mem hm] at h1;omega
  ·have:=Xb3 n P hn (fun x hx=>by
    have h3:=h x hx;have:x≠n:=fun e=>hm (e▸hx)
    omega)
   omega
def Xn {α β:Type} (h:Nat→α→β) (d:α) (l:List α):List β:=(List.range l.length).map fun i=>h i (l.getD i d)
theorem Xt {α β:Type} (h:Nat→α→β) (d:α) (l:List α):(Xn h d l).length=l.length:=by simp[Xn]
theorem Xaa {α β:Type} (h:Nat→α→β) (d:α) (l:List α) (i:Nat) (hi:i<(Xn h d l).length):(Xn h d l)[i]=h i (l.getD i d):=by simp[Xn]
theorem Xb0 {α β:Type} (h:Nat→α→β) (d:α) (l:List α) (i:Nat) (hi:i<l.length) (d':β):(Xn h d l).getD i d'=h i (l.getD i d):=by
 rw[getD_lt _ (by rw[Xt];exact hi),Xaa]
theorem Xeo {α:Type} (d:α) (l:List α):Xn (fun _ x=>x) d l=l:=by
 refine List.ext_getElem (Xt _ _ _) fun i h1 h2=>?_;rw[Xaa,getD_lt _ h2]
theorem Xf1 {α β:Type} (h:Nat→α→β) (d:α) (l:List α) (i:Nat) (v:β) (hi:i<l.length):(Xn h d l).set i v=Xn (fun j x=>if j=i then v else h j x) d l:=by
 refine List.ext_getElem (by simp[Xt]) fun j h1 h2=>?_
 rw[List.getElem_set];simp only[Xaa]
 by_cases e:i=j
 ·rw[if_pos e,if_pos e.symm]
 ·rw[if_neg e,if_neg (fun h=>e h.symm)]
theorem X3 {α β:Type} {h g:Nat→α→β} {d:α} {l:List α} (e:∀ i,i<l.length→h i (l.getD i d)=g i (l.getD i d)):Xn h d l=Xn g d l:=by
 refine List.ext_getElem (by simp[Xt]) fun j h1 h2=>?_
 rw[Xaa,Xaa]
 exact e j (by simpa [Xt] using h1)
def Xc4 (x:Xb) (es:List Xc):Xb:=(x.1,x.2.1,x.2.2.1,x.2.2.2.1,es,x.2.2.2.2.2)
def Xbu (l:List Xb) (P:List Nat) (T:List (List Xc)):List Xb:=Xn (fun i x=>if i∈P then Xc4 x (T.getD i []) else x) Xa l
structure Xg2 (l:List Xb) (q:List Int) (met:List Bool) (T:List (List Xc)) (wr:Int) (K:List Int) (P:List Nat):Prop where
 len:met.length=l.length
 tl:T.length=l.length
 kl:K.length=l.length
 m0:on met 0
 nd:(P++q.map Int.toNat).Nodup
 qp:∀ a∈q,0≤a∧a<(l.length:Int)
 qk:∀ j∈P++q.map Int.toNat,j<l.length∧Xm l j=2∧on met j
 al:∀ j:Nat,on met j→Xm l j=2→j∈P++q.map Int.toNat
 nz:∀ j:Nat,on met j→Xm l j≠0
 te:∀ j,j∉P→T.getD j []=[]
 tb:∀ j,(T.getD j []).length≤6∧∀ e∈T.getD j [],e∈Xy l j∧0≤e.2.1∧e.2.1<(l.length:Int)
 kc:∀ j:Nat,K.getD j 0=((Xfl T j:Nat):Int)
 kb:∀ j:Nat,K.getD j 0≤6*P.length
 w0:0≤wr
 w1:wr≤6*P.length
theorem Xg6 (x:Xb) (es:List Xc):(x.1,x.2.1,x.2.2.1,x.2.2.2.1,es,x.2.2.2.2.2)=Xc4 x es:=rfl
theorem Xgd (f:Fs_) (hn:f.1.length≤10) (h2:Xm f.1 0=2) (hent:∀ j,(Xy f.1 j).length≤6∧∀ e∈Xy f.1 j,0≤e.2.1∧e.2.1≤9) (v:Fs_) (B:List Int) (D:List (List Int)) :
  ∀ (k:Nat) (q:List Int) (met:List Bool) (T:List (List Xc)) (wr:Int) (K:List Int) (P:List Nat),Xg2 f.1 q met T wr K P→f.1.length≤k+P.length→
  ∃ met' T' wr' K' P',Xg2 f.1 [] met' T' wr' K' P'∧Xec f f (q,(met,T,wr,K,B,()))=some (met',T',wr',K',B,())∧
   Xdy f v (wr,(Xbu f.1 P T,D,()),met,q)=some (wr',(Xbu f.1 P' T',D,()),met')
 |k,[],met,T,wr,K,P,I,hk=>⟨met,T,wr,K,P,I,Y5 (by simp[Xec.B]),Y5 (by simp[Xdy.B])⟩
 |0,a::q,met,T,wr,K,P,I,hk=>by
  have h1:=Xb3 _ _ I.nd (fun x hx=>(I.qk x hx).1)
  simp at h1;omega
 |k+1,a::q,met,T,wr,K,P,I,hk=>by
  have ha:=I.qp a List.mem_cons_self
  have hcast:((a.toNat:Nat):Int)=a:=by omega
  have hat:a.toNat<f.1.length:=by omega
  have hPn:=Xb3 _ _ I.nd (fun x hx=>(I.qk x hx).1);simp only[List.length_append,List.map_cons,List.length_cons,List.length_map] at hPn;have hnd:=I.nd;rw[List.map_cons] at hnd
  have haP:a.toNat∉P:=fun h=>by
   have:=(List.nodup_append.1 hnd).2.2 _ h _ List.mem_cons_self;exact this rfl
  have hTa:=I.te _ haP;obtain⟨hel,heb⟩:=hent a.toNat
  let r:=(Xy f.1 a.toNat).foldl (Xq f.1) (met,[],[],wr)
  have hr:(Xy f.1 a.toNat).foldl (Xq f.1) (met,[],[],wr)=r:=rfl;have hw1:=I.w1
  have S:Xez f.1 met (Xy f.1 a.toNat) r:=Xg4 (fun e he=>(heb e he).1) _ _ (fun _ h=>h) ⟨I.len,fun _ h=>h,(fun _ h=>by cases h),List.nodup_nil,(fun j h1 h2=>absurd h1 h2),(fun j h1 h2=>absurd h1 h2),(fun _ h=>by cases h)⟩
  have L:Xd5 f.1 wr (0+(Xy f.1 a.toNat).length) r:=Xg7 _ 0 _ ⟨I.len,I.m0,Nat.le_refl _,Nat.le_refl _,I.w0,by simp⟩
  have Lq:=L.q;have Lw:=L.w1
  have hleft:r.2.2.1.length≤6:=by omega
  have e1:=Xi2 f hn a ha (Xy f.1 a.toNat) hel heb (a::q) (by simp;omega) wr met T I.tl hTa K B I.kl I.w0 (by omega) I.len I.m0
  have e2:=Xjl f hn h2 a (Xy f.1 a.toNat) hel heb v (Xbu f.1 P T,D,()) q (by omega) wr met I.w0 (by omega) I.len I.m0
  rw[hr] at e1 e2
  have hTset:∀ j,(T.set a.toNat r.2.2.1).getD j []=if j=a.toNat then r.2.2.1 else T.getD j []:=by
   intro j
   by_cases hj:j=a.toNat
   ·subst hj;rw[if_pos rfl,Yvs _ _ (by rw[I.tl];exact hat)]
   ·rw[if_neg hj];simp only[List.getD,List.getElem?_set];rw[if_neg (fun h=>hj h.symm)]
  have hKn:∀ j:Nat,0≤K.getD j 0∧K.getD j 0≤60:=fun j=>⟨by rw[I.kc];omega,by have:=I.kb j;omega⟩
  have hK':=Xga r.2.2.1 K 60 hKn (by omega) (fun e he=>by have:=S.lf e he;rw[I.kl];omega)
  have hout:(Xbu f.1 P T).set a.toNat (Xc4 ((Xbu f.1 P T).getD a.toNat Xa) r.2.2.1)=Xbu f.1 (P++[a.toNat]) (T.set a.toNat r.2.2.1):=by
   unfold Xbu;rw[Xf1 _ _ _ _ _ hat];refine X3 fun i hi=>?_
   by_cases e:i=a.toNat
   ·subst e
    rw[if_pos rfl,if_pos (by simp),Xb0 _ _ _ _ hat,if_neg haP,hTset,if_pos rfl]
   ·rw[if_neg e,hTset,if_neg e]
    have:(i∈P++[a.toNat])↔i∈P:=by simp[e]
    by_cases hiP:i∈P
    ·rw[if_pos hiP,if_pos (this.2 hiP)]
    ·rw[if_neg hiP,if_neg (fun h=>hiP (this.1 h))]
  have I':Xg2 f.1 (q++r.2.1) r.1 (T.set a.toNat r.2.2.1) r.2.2.2 (Xb5 K r.2.2.1) (P++[a.toNat]):=by
   have hmem:∀ j,j∈(P++[a.toNat])++(q++r.2.1).map Int.toNat↔(j∈P++(a::q).map Int.toNat)∨j∈r.2.1.map Int.toNat:=by
    intro j;simp only[List.map_append,List.map_cons,List.mem_append,List.mem_cons,List.not_mem_nil,or_false]
    constructor
    ·rintro((h | h) | (h | h))
     ·exact .inl (.inl h)
     ·exact .inl (.inr (.inl h))
     ·exact .inl (.inr (.inr h))
     ·exact .inr h
    ·rintro((h | (h | h)) | h)
     ·exact .inl (.inl h)
     ·exact .inl (.inr h)
     ·exact .inr (.inl h)
     ·exact .inr (.inr h)
   have hpush:∀ j∈r.2.1.map Int.toNat,j<f.1.length∧Xm f.1 j=2∧¬ on met j∧on r.1 j:=by
    intro j hj;obtain⟨p,hp,rfl⟩:=List.mem_map.1 hj;obtain⟨q1,q2,q3,q4,q5⟩:=S.ps p hp
    have hc:((p.toNat:Nat):Int)=p:=by omega
    exact⟨by omega,by rw[hc];exact q3,q4,q5⟩
   have hpl:((P++[a.toNat]).length:Int)=P.length+1:=by simp
   refine⟨S.len,by rw[List.length_set];exact I.tl,by rw[Xgi];exact I.kl,S.mono _ I.m0,?_,?_,?_,?_,?_,?_,?_,?_,?_,L.w0,by omega⟩
   ·have h1:(P++[a.toNat])++(q++r.2.1).map Int.toNat=(P++(a::q).map Int.toNat)++r.2.1.map Int.toNat:=by simp
    rw[h1];refine List.nodup_append.2 ⟨I.nd,?_,fun x hx y hy e=>?_⟩
    ·have:∀ (l:List Int),(∀ p∈l,0≤p)→l.Nodup→(l.map Int.toNat).Nodup:=by
      intro l
      induction l with
      |nil=>intro _ _;simp
      |cons p l ih=>
       intro h1 h2;rw[List.nodup_cons] at h2;rw[List.map_cons,List.nodup_cons];refine⟨fun hm=>?_,ih (fun x hx=>h1 x (List.mem_cons_of_mem _ hx)) h2.2⟩;obtain⟨p',hp',e⟩:=List.mem_map.1 hm;have a1:=h1 p List.mem_cons_self;have a2:=h1 p' (List.mem_cons_of_mem _ hp')
       have:p'=p:=by omega
       subst this;exact h2.1 hp'
     exact this _ (fun p hp=>(S.ps p hp).1) S.nd
    ·subst e
     exact(hpush x hy).2.2.1 (I.qk x hx).2.2
   ·intro x hx
    rcases List.mem_append.1 hx with hx | hx
    ·exact I.qp x (List.mem_cons_of_mem _ hx)
    ·exact⟨(S.ps x hx).1,(S.ps x hx).2.1⟩
   ·intro j hj
    rcases(hmem j).1 hj with hj | hj
    ·obtain⟨q1,q2,q3⟩:=I.qk j hj
     exact⟨q1,q2,S.mono _ q3⟩
    ·obtain⟨q1,q2,q3,q4⟩:=hpush j hj
     exact⟨q1,q2,q4⟩
   ·intro j hj hk2
    refine(hmem j).2 ?_
    by_cases hm:on met j
    ·exact .inl (I.al j hm hk2)
    ·exact .inr (List.mem_map.2 ⟨(j:Int),S.all j hj hm hk2,by simp⟩)
   ·intro j hj
    by_cases hm:on met j
    ·exact I.nz j hm
    ·exact S.nz j hj hm
   ·intro j hj
    have hj1:j∉P:=fun h=>hj (List.mem_append.2 (.inl h))
    have hj2:j≠a.toNat:=fun h=>hj (by simp[h])
    rw[hTset,if_neg hj2];exact I.te j hj1
   ·intro j
    rw[hTset]
    split
    ·rename_i e;subst e
     exact⟨hleft,fun e he=>⟨(S.lf e he).1,(S.lf e he).2.1,(S.lf e he).2.2.1⟩⟩
    ·exact I.tb j
   ·intro j
    rw[hK',I.kc,Xf8 T a.toNat r.2.2.1 j (by rw[I.tl];exact hat) hTa];omega
   ·intro j
    rw[hK'];have h3:=I.kb j;have h4:=List.count_le_length (a:=(j:Int)) (l:=r.2.2.1.map fun e=>e.2.1);rw[List.length_map] at h4;omega
  obtain⟨met',T',wr',K',P',J,j1,j2⟩:=Xgd f hn h2 hent v B D k (q++r.2.1) r.1 (T.set a.toNat r.2.2.1) r.2.2.2 (Xb5 K r.2.2.1) (P++[a.toNat]) I' (by simp;omega)
  refine⟨met',T',wr',K',P',J,?_,?_⟩
  ·rw[←j1]
   refine Yar ?_;have g0:(a::q).getD ((0:Int).toNat) 0=a:=rfl
   have g1:decide (((a::q).length:Int)>0)=true:=by simp
   have g2:inB 0 (a::q).length=true:=Yuq (by omega) (by simp)
   have g3:inB a f.1.length=true:=Yuq ha.1 ha.2;simp only[Xec.B,g0,g1,g2,g3,Ywx,Option.bind_some];rw[show(((((f.1.getD a.toNat Xa).2).2).2).2).1=Xy f.1 a.toNat from rfl,e1];have g4:(a::q++r.2.1).drop ((1:Int).toNat)=q++r.2.1:=rfl
   have g5:(decide ((0:Int)≤(1:Int))&&decide ((1:Int)≤((a::q++r.2.1).length:Int)))=true:=by simp;omega
   simp only[Option.bind_some,g5,Ywx,g4]
   rw[List.take_of_length_le (by simp)]
  ·rw[←j2]
   refine Yar ?_;have g0:(a::q).getD ((0:Int).toNat) 0=a:=rfl
   have g1:decide (((a::q).length:Int)>0)=true:=by simp
   have g2:inB 0 (a::q).length=true:=Yuq (by omega) (by simp)
   have g3:inB a f.1.length=true:=Yuq ha.1 ha.2;have g4:(a::q).drop ((1:Int).toNat)=q:=rfl
   have g5:(decide ((0:Int)≤(1:Int))&&decide ((1:Int)≤((a::q).length:Int)))=true:=by simp;omega
   have g6:inB a (Xbu f.1 P T).length=true:=by rw[show(Xbu f.1 P T).length=f.1.length from Xt _ _ _];exact g3
   simp only[Xdy.B,g0,g1,g2,g3,g4,g5,g6,Ywx,Option.bind_some]
   rw[List.take_of_length_le (by simp),show(((((f.1.getD a.toNat Xa).2).2).2).2).1=Xy f.1 a.toNat from rfl,e2]
   simp only[Option.bind_some];rw[Xg6,hout]
def upN {α β:Type} (N O:Nat→α→β) (d:α) (l:List α) (i:Nat):List β:=Xn (fun j x=>if j<i then N j x else O j x) d l
theorem Xx {α:Type} {β:Type} {N:Nat→α→β} {O:Nat→α→β} {d:α} {l:List α} (i:Nat):(upN N O d l i).length=l.length:=Xt _ _ _
theorem Xba {α:Type} {β:Type} {N:Nat→α→β} {O:Nat→α→β} {d:α} {l:List α}:upN N O d l 0=Xn O d l:=X3 fun i _=>by simp
theorem Xby {α:Type} {β:Type} {N:Nat→α→β} {O:Nat→α→β} {d:α} {l:List α}:upN N O d l l.length=Xn N d l:=X3 fun i hi=>by rw[if_pos hi]
theorem Xab {α:Type} {β:Type} {N:Nat→α→β} {O:Nat→α→β} {d:α} {l:List α} {i:Nat} (hi:i<l.length) (d':β):(upN N O d l i).getD i d'=O i (l.getD i d):=by
 unfold upN;rw[Xb0 _ _ _ _ hi,if_neg (Nat.lt_irrefl _)]
theorem X8 {α:Type} {β:Type} {N:Nat→α→β} {O:Nat→α→β} {d:α} {l:List α} {i:Nat} (hi:i<l.length) {v:β} (hv:v=N i (l.getD i d)):(upN N O d l i).set i v=upN N O d l (i+1):=by
 unfold upN;rw[Xf1 _ _ _ _ _ hi];refine X3 fun j hj=>?_
 by_cases e:j=i
 ·subst e;rw[if_pos rfl,if_pos (Nat.lt_succ_self _),hv]
 ·rw[if_neg e]
  by_cases h:j<i
  ·rw[if_pos h,if_pos (by omega)]
  ·rw[if_neg h,if_neg (by omega)]
theorem Xbq {α:Type} {β:Type} {N:Nat→α→β} {O:Nat→α→β} {d:α} {l:List α} {i:Nat} (hi:i<l.length) (h:N i (l.getD i d)=O i (l.getD i d)):upN N O d l i=upN N O d l (i+1):=
 X3 fun j hj=>by
  by_cases e:j=i
  ·subst e;rw[if_neg (Nat.lt_irrefl _),if_pos (Nat.lt_succ_self _),h]
  ·by_cases h:j<i
   ·rw[if_pos h,if_pos (by omega)]
   ·rw[if_neg h,if_neg (by omega)]
def Xj (l:List Xb) (i:Nat):List Int:=(l.getD i Xa).2.2.2.1
def tkF (met:List Bool) (l:List Xb):Nat→List Int
 |0=>[]
 |i+1=>tkF met l i++cond (met.getD i false) ((Xj l i).takeWhile fun b=>!(tkF met l i).contains b) []
def kbF (met:List Bool) (l:List Xb) (i:Nat):List Int:=cond (met.getD i false) ((Xj l i).takeWhile fun b=>!(tkF met l i).contains b) []
theorem Xct (met:List Bool) (l:List Xb) (i:Nat):tkF met l (i+1)=tkF met l i++kbF met l i:=rfl
theorem Xcn {α:Type} (p:α→Bool):∀ l:List α,(l.takeWhile p).length≤l.length
 |[]=>by simp
 |x::l=>by
  rw[List.takeWhile_cons]
  split
  ·have:=Xcn p l;simp;omega
  ·simp
theorem take_takeWhile {α:Type} (p:α→Bool):∀ l:List α,l.take (l.takeWhile p).length=l.takeWhile p
 |[]=>by simp
 |x::l=>by
  rw[List.takeWhile_cons]
  split
  ·simp[take_takeWhile p l]
  ·simp
theorem Xb9 {α:Type} {p:α→Bool} {x:α}:∀ {l:List α},x∈l.takeWhile p→x∈l
 |y::l,h=>by
  rw[List.takeWhile_cons] at h
  split at h
  ·rcases List.mem_cons.1 h with rfl | h
   ·exact List.mem_cons_self
   ·exact List.mem_cons_of_mem _ (Xb9 h)
  ·cases h
theorem Xer:∀ (l a:List Int),Xdi a l=false→l.Nodup∧∀ x∈l,x∉a
 |[],a,_=>⟨List.nodup_nil,fun _ h=>by cases h⟩
 |x::l,a,h=>by
  simp only[Xdi,Bool.or_eq_false_iff] at h;obtain⟨h1,h2⟩:=Xer l _ h.2
  have hx:x∉a:=by have:=h.1;simpa using this
  refine⟨List.nodup_cons.2 ⟨fun hm=>h2 x hm (by simp),h1⟩,fun y hy=>?_⟩
  rcases List.mem_cons.1 hy with rfl | hy
  ·exact hx
  ·exact fun hm=>h2 y hy (by simp[hm])
structure InD (x:Xb):Prop where
 nd:x.2.2.2.1.Nodup
 bl:x.2.2.2.1.length≤4∧∀ b∈x.2.2.2.1,0≤b∧b≤19
 fre:x.1=0→x=Xa
 ent:x.1≠2→x.2.2.2.2.1=[]
 dir:x.1≠1→x.2.2.2.1=[]
 knd:0≤x.1∧x.1≤2
 sz:0≤x.2.2.1∧x.2.2.1≤32
 fil:x.1=1→(x.2.2.2.1.length:Int)=Xeh x.2.2.1
 el:x.2.2.2.2.1.length≤6
theorem InD.of {x:Xb} (h:X0 x=0):InD x:=by
 obtain⟨h1,h2,h3,h4⟩:=Xaj h;obtain⟨g1,g2,g3,g4,g5,g6⟩:=Xad h
 have hf:x.1=1→inR x.2.2.1 0 32=true∧(x.2.2.2.1.length:Int)=Xeh x.2.2.1∧Xdi [] x.2.2.2.1=false:=by
  intro e;have:=h4 e;unfold Xd7 at this
  cases a1:inR x.2.1 1 60 with
  |false=>rw[a1] at this;cases this
  |true=>
   cases a2:inR x.2.2.1 0 32 with
   |false=>rw[a1,a2] at this;cases this
   |true=>
    cases a3:((x.2.2.2.1.length:Int) != Xeh x.2.2.1) with
    |true=>rw[a1,a2,a3] at this;cases this
    |false=>
     cases a4:(x.2.2.2.1.any fun b=>!inR b 0 19) with
     |true=>rw[a1,a2,a3,a4] at this;cases this
     |false=>
      cases a5:Xdi [] x.2.2.2.1 with
      |true=>rw[a1,a2,a3,a4,a5] at this;cases this
      |false=>exact⟨rfl,by simpa using a3,rfl⟩
 refine⟨?_,⟨h1,h2⟩,fun e=>?_,g3,h3,g1,?_,fun e=>(hf e).2.1,g2⟩
 ·by_cases e:x.1=1
  ·exact(Xer _ _ (hf e).2.2).1
  ·rw[h3 e];exact List.nodup_nil
 ·obtain⟨a,b,c,d,es,⟨⟩⟩:=x
  have e':a=0:=e;subst e'
  have b1:b=0∧c=0:=g5 (by show(0:Int)≠1;decide)
  have b2:d=[]:=h3 (by show(0:Int)≠1;decide)
  have b3:es=[]:=g3 (by show(0:Int)≠2;decide)
  rw[b1.1,b1.2,b2,b3];rfl
 ·by_cases e:x.1=1
  ·exact Xbz.1 (hf e).1
  ·rw[(g5 e).2];decide
structure Xgk (l:List Xb):Prop where
 len:l.length≤10
 all:∀ j,InD (l.getD j Xa)
theorem Xgk.of {l:List Xb} (h:Xr l=0):Xgk l:=by
 refine⟨(Xu h).1,fun j=>?_⟩
 by_cases hj:j<l.length
 ·rw[getD_lt _ hj];exact InD.of ((Xu h).2 _ (List.getElem_mem hj))
 ·have:l.getD j Xa=Xa:=by simp only[List.getD,List.getElem?_eq_none (by omega:l.length≤j)];rfl
  rw[this]
  exact⟨List.nodup_nil,⟨by simp[Xa],fun b hb=>by cases hb⟩,fun _=>rfl,fun _=>rfl,fun _=>rfl,by decide,by decide,(fun e=>by cases e),by simp[Xa]⟩
theorem Xhd {met:List Bool} {l:List Xb} {i:Nat} {b:Int} (h:b∈kbF met l i):b∈Xj l i:=by
 unfold kbF at h
 cases hm:met.getD i false with
 |false=>rw[hm] at h;cases h
 |true=>rw[hm] at h;exact Xb9 h
theorem Xaq (met:List Bool) (l:List Xb) (i:Nat):(kbF met l i).length≤(Xj l i).length:=by
 unfold kbF
 cases met.getD i false with
 |false=>simp
 |true=>exact Xcn _ _
theorem Xgg (met:List Bool) (l:List Xb) (i:Nat):(Xj l i).take (kbF met l i).length=kbF met l i:=by
 unfold kbF
 cases met.getD i false with
 |false=>simp
 |true=>exact take_takeWhile _ _
theorem Xgq {met:List Bool} {l:List Xb} (h:Xgk l):∀ i,(tkF met l i).length≤4*i
 |0=>by simp[tkF]
 |i+1=>by
  have h1:=Xgq (met:=met) h i;have h2:=Xaq met l i;have h3:(Xj l i).length≤4:=(h.all i).bl.1;rw[Xct,List.length_append];omega
theorem Xif {f:Fs_} (at_ v17 v21:Int) (l:List Xb) (bs:List Int) (hb:bs.length≤4) (hnd:bs.Nodup) (tk:List Int) (ht:tk.length≤100) (n:Nat) (hn:at_=(n:Int)) (met:List Bool) (T:List (List Xc)) (wr:Int) (K B:List Int) (hB:n<B.length) (hB0:B.getD n 0=0) :
  Xcm at_ l v17 v21 bs (bs.length:Int) f (0,tk,(met,T,wr,K,B,()))=some (tk++bs.takeWhile (fun b=>!tk.contains b),(met,T,wr,K,B.set n ((bs.takeWhile fun b=>!tk.contains b).length:Int),())):=by
 subst hn
 have hset:B.set n ((0:Nat):Int)=B:=by
  rw[show((0:Nat):Int)=B.getD n 0 from hB0.symm]
  refine List.ext_getElem (by simp) fun i h1 h2=>?_
  rw[List.getElem_set]
  split
  ·rename_i e;subst e;exact getD_lt _ h2
  ·rfl
 have h:=Yno (τ:=List Int) bs (f:=fun s=>Xcm.B (n:Int) l v17 v21 bs (bs.length:Int) f s.1 s.2.1 s.2.2) (fun i t=>((i:Int),tk++t,(met,T,wr,K,B.set n (t.length:Int),())))
  (fun i b t=>cond ((tk++t).contains b) (.inr (tk++t,(met,T,wr,K,B.set n (t.length:Int),()))) (.inl (t++[b])))
  (fun t=>(tk++t,(met,T,wr,K,B.set n (t.length:Int),()))) (fun i t=>t.length≤i) (fun i hi t ht2=>by
   have hc:Xda (tk++t) bs[i]=some ((tk++t).contains bs[i]):=Xhf _ _ (by simp;omega)
   have hb1:inB (n:Int) (B.set n (t.length:Int)).length=true:=Yxc (by simpa using hB)
   have hg:(B.set n (t.length:Int)).getD n 0=(t.length:Int):=Yvs _ _ hB
   simp only[Xcm.B,Yxe hi,Yxc hi,Ywx,toNat_cast,getD_lt _ hi,hc,Option.bind_some,hb1,hg,Ywe (by omega:i<4294967296),Ywe (by omega:t.length<4294967296),List.set_set]
   cases (tk++t).contains bs[i] with
   |true=>rfl
   |false=>
    simp only[Ywl,sel]
    rw[show decide ((tk++t++[bs[i]]).length≤2147483648)=true by simp;omega]
    simp[List.append_assoc])
  (fun i hi t t' ht2 e=>by
   cases hc:(tk++t).contains bs[i] with
   |true=>rw[hc] at e;cases e
   |false=>rw[hc] at e;cases e;simp;omega)
  (fun t ht2=>by simp only[Xcm.B,Yxg (Nat.le_refl _),Ywl]) [] (Nat.le_refl _) (s:=(0,tk,(met,T,wr,K,B,()))) (by simp only[List.append_nil,List.length_nil,hset];rfl)
 refine Eq.trans h ?_
 have key:∀ (bs:List Int) (i:Nat) (t:List Int),bs.Nodup→(∀ b∈bs,b∉t)→Yba (fun i b t=>cond ((tk++t).contains b) (.inr (tk++t,(met,T,wr,K,B.set n (t.length:Int),()))) (.inl (t++[b])))
  (fun t=>(tk++t,(met,T,wr,K,B.set n (t.length:Int),()))) i bs t=(tk++(t++bs.takeWhile (fun b=>!tk.contains b)),(met,T,wr,K,B.set n ((t++bs.takeWhile (fun b=>!tk.contains b)).length:Int),())):=by
  intro bs
  induction bs with
  |nil=>intro i t _ _;simp[Yba]
  |cons b bs ih=>
   intro i t h1 h2;rw[List.nodup_cons] at h1
   have hbt:(tk++t).contains b=tk.contains b:=by
    have:=h2 b List.mem_cons_self;rw[Bool.eq_iff_iff];simp[this]
   simp only[Yba,hbt];rw[List.takeWhile_cons]
   cases hc:tk.contains b with
   |true=>simp only[Ywx,Yw0,Bool.not_true,Bool.false_eq_true,if_false,List.append_nil]
   |false=>
    simp only[Ywl,sel,Bool.not_false,if_true]
    rw[ih (i+1) (t++[b]) h1.2 (fun x hx hm=>by
     rcases List.mem_append.1 hm with hm | hm
     ·exact h2 x (List.mem_cons_of_mem _ hx) hm
     ·simp only[List.mem_singleton] at hm;subst hm;exact h1.1 hx)]
    simp[List.append_assoc]
 rw[key bs 0 [] hnd (fun _ _ h=>by cases h)]
 simp
theorem Xix {f:Fs_} (hi:Xgk f.1) {met:List Bool} (hm:met.length=f.1.length) (T:List (List Xc)) (wr:Int) (K:List Int) :
  Xd3 f.1 (f.1.length:Int) f (0,[],(met,T,wr,K,List.replicate f.1.length 0,()))=some (met,T,wr,K,Xn (fun j _=>((kbF met f.1 j).length:Int)) Xa f.1,()):=by
 have hn:=hi.len
 have hrep:List.replicate f.1.length (0:Int)=upN (fun j _=>((kbF met f.1 j).length:Int)) (fun _ _=>0) Xa f.1 0:=by
  rw[Xba]
  refine List.ext_getElem (by simp[Xt]) fun i h1 h2=>?_
  rw[Xaa];simp
 have h:=Ysw (f:=fun s=>Xd3.B f.1 (f.1.length:Int) f s.1 s.2.1 s.2.2) (fun i=>((i:Int),tkF met f.1 i,(met,T,wr,K,upN (fun j _=>((kbF met f.1 j).length:Int)) (fun _ _=>0) Xa f.1 i,()))) (n:=f.1.length)
  (r:=(met,T,wr,K,Xn (fun j _=>((kbF met f.1 j).length:Int)) Xa f.1,())) (fun i hi'=>by
   have hm1:inB (i:Int) met.length=true:=Yxc (by omega)
   have hup:∀ {v:Int},v=((kbF met f.1 i).length:Int)→(upN (fun j _=>((kbF met f.1 j).length:Int)) (fun _ _=>0) Xa f.1 i).set i v=upN (fun j _=>((kbF met f.1 j).length:Int)) (fun _ _=>0) Xa f.1 (i+1):=fun hv=>X8 hi' hv
   simp only[Xd3.B,Yxe hi',Yxc hi',hm1,Ywx,toNat_cast,Ywe (by omega:i<4294967296)]
   cases hmi:met.getD i false with
   |false=>
    have hk:kbF met f.1 i=[]:=by unfold kbF;rw[hmi];rfl
    simp only[Bool.not_false,Ywx]
    rw[Xct,hk,List.append_nil,Xbq hi' (by simp[hk])]
   |true=>
    have hk:kbF met f.1 i=(Xj f.1 i).takeWhile fun b=>!(tkF met f.1 i).contains b:=by unfold kbF;rw[hmi];rfl
    simp only[Bool.not_true,Ywl,Option.bind_some];have ht:=Xgq (met:=met) hi i
    have e3:=Xif (f:=f) (i:Int) (f.1.length:Int) (i:Int) f.1 (Xj f.1 i) (hi.all i).bl.1 (hi.all i).nd (tkF met f.1 i) (by omega) i rfl met T wr K (upN (fun j _=>((kbF met f.1 j).length:Int)) (fun _ _=>0) Xa f.1 i) (by rw[Xx];exact hi') (Xab hi' 0)
    unfold Xj at e3 hk
    rw[e3,←hk,hup rfl,Xct];rfl) (by
   simp only[Xd3.B,Yxg (Nat.le_refl _),Ywl,Xby]) f.1.length 0 (by omega)
 rw[hrep];exact h
def Xk (g:Nat→Int):Nat→Int
 |0=>0
 |n+1=>Xk g n+g n
theorem Xbr {g:Nat→Int} (h:∀ i,0≤g i∧g i≤4):∀ n,0≤Xk g n∧Xk g n≤4*n
 |0=>by simp[Xk]
 |n+1=>by have:=Xbr h n;have:=h n;simp only[Xk];omega
structure Seen (l:List Xb) (met:List Bool) (T:List (List Xc)) (wr:Int) (K:List Int) (P:List Nat):Prop where
 I:Xg2 l [] met T wr K P
 D:Xgk l
theorem Seen.mem {l:List Xb} {met:List Bool} {T:List (List Xc)} {wr:Int} {K:List Int} {P:List Nat} (h:Seen l met T wr K P) (i:Nat):i∈P↔met.getD i false=true∧(l.getD i Xa).1=2:=by
 have hk:Xm l (i:Int)=(l.getD i Xa).1:=by unfold Xm;rw[toNat_cast]
 constructor
 ·intro hi
  have:=h.I.qk i (by simpa using hi)
  exact⟨this.2.2,hk▸this.2.1⟩
 ·rintro⟨h1,h2⟩
  have:=h.I.al i h1 (by rw[hk];exact h2)
  simpa using this
theorem Seen.nz {l:List Xb} {met:List Bool} {T:List (List Xc)} {wr:Int} {K:List Int} {P:List Nat} (h:Seen l met T wr K P) {i:Nat} (hm:met.getD i false=true):(l.getD i Xa).1≠0:=by
 have:=h.I.nz i hm;unfold Xm at this;rwa [toNat_cast] at this
theorem Seen.tE {l:List Xb} {met:List Bool} {T:List (List Xc)} {wr:Int} {K:List Int} {P:List Nat} (h:Seen l met T wr K P) {i:Nat} (hi:¬ (met.getD i false=true∧(l.getD i Xa).1=2)):T.getD i []=[]:=h.I.te i (fun hp=>hi ((h.mem i).1 hp))
def Xz (met:List Bool) (T:List (List Xc)) (i:Nat) (x:Xb):Xb:=cond (met.getD i false) (cond (x.1 == 2) (Xc4 x (T.getD i [])) x) Xa
def Xp (l:List Xb) (met:List Bool) (T:List (List Xc)) (K:List Int) (i:Nat) (x:Xb):Xb:=
 cond (met.getD i false) (cond (x.1 == 2) (Xc4 x (T.getD i [])) (x.1,K.getD i 0,Xae (w64 (((kbF met l i).length:Int)*8)) x.2.2.1,kbF met l i,x.2.2.2.2)) Xa
def gL (l:List Xb) (met:List Bool) (i:Nat):Int:=cond (!(met.getD i false)) (cond ((l.getD i Xa).1 != 0) 1 0) 0
def gT (l:List Xb) (met:List Bool) (i:Nat):Int:=cond (met.getD i false) (cond ((l.getD i Xa).1 == 1) (((Xj l i).length:Int)-((kbF met l i).length:Int)) 0) 0
def gK (l:List Xb) (met:List Bool) (K:List Int) (i:Nat):Int:=cond (met.getD i false) (cond ((l.getD i Xa).1 == 1) (cond ((l.getD i Xa).2.1 != K.getD i 0) 1 0) 0) 0
theorem Xhs {l:List Xb} {met:List Bool} (i:Nat):0≤gL l met i∧gL l met i≤4:=by
 unfold gL
 cases met.getD i false<;>cases ((l.getD i Xa).1 != 0)<;>decide
theorem Xhp {l:List Xb} {met:List Bool} {K:List Int} (i:Nat):0≤gK l met K i∧gK l met K i≤4:=by
 unfold gK
 cases met.getD i false<;>cases ((l.getD i Xa).1 == 1)<;>cases ((l.getD i Xa).2.1 != K.getD i 0)<;>decide
theorem Xho {l:List Xb} {met:List Bool} (h:Xgk l) (i:Nat):0≤gT l met i∧gT l met i≤4:=by
 have h1:=Xaq met l i;have h2:(Xj l i).length≤4:=(h.all i).bl.1;unfold gT
 cases met.getD i false with
 |false=>simp only[Ywl];omega
 |true=>
  cases ((l.getD i Xa).1 == 1) with
  |false=>simp only[Ywx,Ywl];omega
  |true=>simp only[Ywx];omega
theorem Xiy {l:List Xb} {met:List Bool} {T:List (List Xc)} {wr:Int} {K:List Int} {P:List Nat} (h:Seen l met T wr K P) (Da:List (List Int)) :
  Xdm met 0 0 (0,0,(Xbu l P T,Da,()))=some (Xk (gL l met) l.length,(Xn (Xz met T) Xa l,Da,())):=by
 have hn:=h.D.len
 have h0:Xbu l P T=upN (Xz met T) (fun i x=>if i∈P then Xc4 x (T.getD i []) else x) Xa l 0:=Xba.symm
 have hs:=Ysw (f:=fun s=>Xdm.B met 0 0 s.1 s.2.1 s.2.2) (fun i=>(Xk (gL l met) i,(i:Int),(upN (Xz met T) (fun i x=>if i∈P then Xc4 x (T.getD i []) else x) Xa l i,Da,()))) (n:=l.length)
  (r:=(Xk (gL l met) l.length,(Xn (Xz met T) Xa l,Da,()))) (fun i hi=>by
   have hm1:inB (i:Int) met.length=true:=Yxc (by rw[h.I.len];exact hi)
   have hb:=Xbr (g:=gL l met) Xhs i
   have hO:(upN (Xz met T) (fun i x=>if i∈P then Xc4 x (T.getD i []) else x) Xa l i).getD i Xa=if i∈P then Xc4 (l.getD i Xa) (T.getD i []) else l.getD i Xa:=Xab hi _
   simp only[Xdm.B,Xx,Yxe hi,Yxc hi,hm1,Ywx,toNat_cast,Yvb,hO,Ywe (by omega:i<4294967296)]
   cases hm:met.getD i false with
   |true=>
    simp only[Bool.not_true,Ywl,Option.bind_some]
    rw[show Xk (gL l met) (i+1)=Xk (gL l met) i by simp only[Xk,gL,hm,Bool.not_true,Ywl,Int.add_zero],Xbq hi]
    unfold Xz;rw[hm]
    by_cases e:(l.getD i Xa).1=2
    ·rw[if_pos ((h.mem i).2 ⟨hm,e⟩),e];rfl
    ·rw[if_neg (fun hp=>e ((h.mem i).1 hp).2),show((l.getD i Xa).1 == 2)=false by simpa using e];rfl
   |false=>
    have hP:i∉P:=fun hp=>by have:=((h.mem i).1 hp).1;rw[hm] at this;cases this
    simp only[Bool.not_false,Ywx,if_neg hP,Option.bind_some]
    cases hk:((l.getD i Xa).1 != 0) with
    |true=>
     simp only[Ywx]
     rw[Yxo (by omega) (by omega),show Xk (gL l met) (i+1)=Xk (gL l met) i+1 by simp only[Xk,gL,hm,hk,Bool.not_false,Ywx]]
     rw[X8 hi (by unfold Xz;rw[hm];rfl)]
    |false=>
     have hz:l.getD i Xa=Xa:=(h.D.all i).fre (by simpa using hk)
     simp only[Ywl]
     rw[show Xk (gL l met) (i+1)=Xk (gL l met) i by simp only[Xk,gL,hm,hk,Bool.not_false,Ywx,Ywl];omega]
     rw[Xbq hi (by rw[if_neg hP,hz];unfold Xz;rw[hm];rfl)]) (by
   simp only[Xdm.B,Xx,Yxg (Nat.le_refl _),Ywl];rw[Xby]) l.length 0 (by omega)
 rw[h0];exact hs
theorem Xff {l:List Xb} {met:List Bool} {T:List (List Xc)} {wr:Int} {K:List Int} {P:List Nat} (h:Seen l met T wr K P) (i:Nat):(Xp l met T K i (l.getD i Xa)).2.2.2.2.1=T.getD i []:=by
 unfold Xp
 cases hm:met.getD i false with
 |false=>rw[h.tE (fun hh=>by rw[hm] at hh;cases hh.1)];rfl
 |true=>
  by_cases e:(l.getD i Xa).1=2
  ·rw[e];rfl
  ·rw[show((l.getD i Xa).1 == 2)=false by simpa using e,h.tE (fun hh=>e hh.2)]
   exact(h.D.all i).ent e
theorem Xg5 {l:List Xb} {met:List Bool} {T:List (List Xc)} {wr:Int} {K:List Int} {P:List Nat} (h:Seen l met T wr K P) (i:Nat):(Xz met T i (l.getD i Xa)).2.2.2.2.1=T.getD i []:=by
 unfold Xz
 cases hm:met.getD i false with
 |false=>rw[h.tE (fun hh=>by rw[hm] at hh;cases hh.1)];rfl
 |true=>
  by_cases e:(l.getD i Xa).1=2
  ·rw[e];rfl
  ·rw[show((l.getD i Xa).1 == 2)=false by simpa using e,h.tE (fun hh=>e hh.2)]
   exact(h.D.all i).ent e
theorem Xep {l:List Xb} {met:List Bool} {T:List (List Xc)} {wr:Int} {K:List Int} {P:List Nat} (h:Seen l met T wr K P) (i:Nat):(Xp l met T K i (l.getD i Xa)).2.2.2.1=kbF met l i:=by
 unfold Xp
 cases hm:met.getD i false with
 |false=>simp only[Ywl,kbF,hm];rfl
 |true=>
  by_cases e:(l.getD i Xa).1=2
  ·have hb:Xj l i=[]:=(h.D.all i).dir (by rw[e];decide)
   have hk:kbF met l i=[]:=by have:=Xaq met l i;rw[hb] at this;exact List.eq_nil_of_length_eq_zero (by simpa using this)
   rw[e,hk];exact hb
  ·rw[show((l.getD i Xa).1 == 2)=false by simpa using e];rfl
theorem Xhc {L:List Xb} {T:List (List Xc)} (hl:L.length=T.length) (h:∀ j,j<L.length→(L.getD j Xa).2.2.2.2.1=T.getD j []) (a:Int):Xgj L a=((Xfl T a:Nat):Int):=by
 have:L.map (fun x=>x.2.2.2.2.1)=T:=by
  refine List.ext_getElem (by simpa using hl) fun j h1 h2=>?_
  have hj:j<L.length:=by simpa using h1
  have:=h j hj;rw[getD_lt _ hj,getD_lt _ h2] at this
  simpa using this
 unfold Xgj Xgx Xfl;rw[←this,List.flatMap_map]
theorem Xfq {α:Type} (p:α→Bool):∀ (bs:List α) (i:Nat),Yba (τ:=Unit) (fun k b _=>cond (p b) (.inl ()) (.inr (k:Int))) (fun _=>((i+bs.length:Nat):Int)) i bs ()=((i+(bs.takeWhile p).length:Nat):Int)
 |[],i=>by simp[Yba]
 |b::bs,i=>by
  simp only[Yba];rw[List.takeWhile_cons]
  cases hp:p b with
  |true=>
   simp only[Ywx,sel,if_true];have:=Xfq p bs (i+1)
   rw[show i+(b::bs).length=i+1+bs.length by simp;omega,this]
   simp only[List.length_cons];congr 1;omega
  |false=>simp[sel]
theorem Xgv {α β:Type} {N O:Nat→α→β} {d:α} {l:List α} {i:Nat} (hi:i≤l.length):(upN N O d l i).take i=(List.range i).map fun j=>N j (l.getD j d):=by
 refine List.ext_getElem (by simp[Xx];omega) fun j h1 h2=>?_
 have hj:j<i:=by simpa using h2
 rw[List.getElem_take];unfold upN;rw[Xaa,if_pos hj];simp
theorem Xgh {l:List Xb} {met:List Bool} {T:List (List Xc)} {wr:Int} {K:List Int} {P:List Nat} (h:Seen l met T wr K P):∀ i,Xes ((List.range i).map fun j=>Xp l met T K j (l.getD j Xa))=tkF met l i
 |0=>rfl
 |i+1=>by
  rw[List.range_succ,List.map_append,Xct,←Xgh h i];simp only[Xes,List.flatMap_append,List.map_cons,List.map_nil,List.flatMap_cons,List.flatMap_nil,List.append_nil,Xep h]
theorem Xge {l:List Xb} {met:List Bool} {T:List (List Xc)} {wr:Int} {K:List Int} {P:List Nat} (h:Seen l met T wr K P) {i:Nat} (hi:i≤l.length):Xfe ((List.range i).map fun j=>Xp l met T K j (l.getD j Xa)):=by
 refine⟨by have:=h.D.len;simp;omega,fun x hx=>?_⟩
 obtain⟨j,hj,rfl⟩:=List.mem_map.1 hx;rw[Xep h];have h1:=Xaq met l j;have h2:=(h.D.all j).bl;unfold Xj at h1
 exact⟨by omega,fun b hb=>h2.2 b (Xhd hb)⟩
abbrev Xw (l:List Xb) (met:List Bool) (T:List (List Xc)) (K:List Int) (i:Nat):List Xb:=upN (Xp l met T K) (Xz met T) Xa l i
theorem Xhy {l:List Xb} {met:List Bool} {T:List (List Xc)} {wr:Int} {K:List Int} {P:List Nat} (h:Seen l met T wr K P) (Da:List (List Int)) {i:Nat} (hi:i<l.length) (hm:met.getD i false=true) (hk:(l.getD i Xa).1=1) (a b c:Int) :
  Xci a b c (i:Int) i (Xw l met T K i,Da,()) 0=some ((kbF met l i).length:Int):=by
 have hn:=h.D.len
 have hg:(Xw l met T K i).getD i Xa=l.getD i Xa:=by
  rw[Xab hi];unfold Xz;rw[hm,hk];rfl
 have hb4:=(h.D.all i).bl.1
 have hbl:(((((Xw l met T K i).getD i Xa).2).2).2).1=Xj l i:=by rw[hg];rfl
 have hs:=Yno (τ:=Unit) (Xj l i) (f:=fun s=>Xci.B a b c (i:Int) i (Xw l met T K i,Da,()) s) (fun k _=>(k:Int)) (fun k b _=>cond (!(tkF met l i).contains b) (.inl ()) (.inr (k:Int))) (fun _=>((Xj l i).length:Int)) (fun _ _=>True)
  (fun k hk' _ _=>by
   have ht:(decide ((0:Int)≤(i:Int))&&decide ((i:Int)≤((Xw l met T K i).length:Int)))=true:=by rw[show(Xw l met T K i).length=l.length from Xx i];simp;omega
   simp only[Xci.B,hbl,Option.bind_some,Yxe hk',Yxc hk',Ywx,toNat_cast,getD_lt _ hk',ht,List.drop_zero,Nat.sub_zero]
   rw[Xgv (by omega),Xh2 _ (Xge h (by omega)),Xgh h]
   simp only[Option.bind_some,Ywe (by have:(Xj l i).length≤4:=hb4;omega:k<4294967296)]
   by_cases hc:(Xj l i)[k]∈tkF met l i
   ·have h1:((((tkF met l i).count (Xj l i)[k]:Nat):Int) == 0)=false:=by
     have:=List.count_pos_iff.2 hc;simp;omega
    rw[h1,show(tkF met l i).contains (Xj l i)[k]=true by simpa using hc];rfl
   ·have h1:((((tkF met l i).count (Xj l i)[k]:Nat):Int) == 0)=true:=by
     have:=List.count_eq_zero.2 hc;simp[this]
    rw[h1,show(tkF met l i).contains (Xj l i)[k]=false by simpa using hc];rfl)
  (fun _ _ _ _ _ _=>trivial) (fun _ _=>by simp only[Xci.B,hbl,Option.bind_some,Yxg (Nat.le_refl _),Ywl]) () trivial (s:=0) rfl
 have h2:Xci a b c (i:Int) i (Xw l met T K i,Da,()) 0=_:=hs;rw[h2];have h3:=Xfq (fun b=>!(tkF met l i).contains b) (Xj l i) 0;simp only[Nat.zero_add] at h3;rw[h3];unfold kbF;rw[hm];rfl
theorem Xgt {l:List Xb} {met:List Bool} {T:List (List Xc)} {wr:Int} {K:List Int} {P:List Nat} (h:Seen l met T wr K P) {i:Nat} (hi:i<l.length) (y:Xb) (hy:y.2.2.2.2.1=T.getD i []):Xeu ((Xw l met T K i).set i y) (i:Int)=some (K.getD i 0):=by
 have hlen:((Xw l met T K i).set i y).length=l.length:=by rw[List.length_set];exact Xx i
 have hent:∀ j,j<((Xw l met T K i).set i y).length→(((Xw l met T K i).set i y).getD j Xa).2.2.2.2.1=T.getD j []:=by
  intro j hj;rw[hlen] at hj
  by_cases e:i=j
  ·subst e;rw[Yvs _ _ (by rw[show(Xw l met T K i).length=l.length from Xx i];exact hi)];exact hy
  ·have:((Xw l met T K i).set i y).getD j Xa=(Xw l met T K i).getD j Xa:=by simp only[List.getD,List.getElem?_set,e,if_false]
   rw[this];unfold Xw upN;rw[Xb0 _ _ _ _ hj]
   split
   ·exact Xff h j
   ·exact Xg5 h j
 rw[Xim _ (fun x hx=>by
  obtain⟨j,hj,rfl⟩:=List.getElem_of_mem hx;have:=hent j hj;rw[getD_lt _ hj] at this
  rw[this];exact(h.I.tb j).1) (by rw[hlen];exact h.D.len),Xhc (by rw[hlen,h.I.tl]) hent,h.I.kc]
theorem Xh7 {l:List Xb} {met:List Bool} {T:List (List Xc)} {wr:Int} {K:List Int} {P:List Nat} (h:Seen l met T wr K P) (Da:List (List Int)) (lo:Int) :
  Xde lo (0,0,0,(Xn (Xz met T) Xa l,Da,()))=some (Xk (gT l met) l.length,Xk (gK l met K) l.length,(Xn (Xp l met T K) Xa l,Da,())):=by
 have hn:=h.D.len;have h0:Xn (Xz met T) Xa l=Xw l met T K 0:=Xba.symm
 have hs:=Ysw (f:=fun s=>Xde.B lo s.1 s.2.1 s.2.2.1 s.2.2.2) (fun i=>(Xk (gT l met) i,Xk (gK l met K) i,(i:Int),(Xw l met T K i,Da,()))) (n:=l.length)
  (r:=(Xk (gT l met) l.length,Xk (gK l met K) l.length,(Xn (Xp l met T K) Xa l,Da,()))) (fun i hi=>by
   have hb1:=Xbr (g:=gT l met) (Xho h.D) i;have hb2:=Xbr (g:=gK l met K) Xhp i;have hlen:(Xw l met T K i).length=l.length:=Xx i;have hO:(Xw l met T K i).getD i Xa=Xz met T i (l.getD i Xa):=Xab hi _
   simp only[Xde.B,hlen,Yxe hi,Yxc hi,Ywx,toNat_cast,Ywe (by omega:i<4294967296)]
   cases hm:met.getD i false with
   |false=>
    have hz:(Xw l met T K i).getD i Xa=Xa:=by rw[hO];unfold Xz;rw[hm];rfl
    rw[hz];simp only[show((Xa.1:Int) != 1)=true from rfl,Ywx]
    rw[show Xk (gT l met) (i+1)=Xk (gT l met) i by simp only[Xk,gT,hm,Ywl,Int.add_zero],show Xk (gK l met K) (i+1)=Xk (gK l met K) i by simp only[Xk,gK,hm,Ywl,Int.add_zero]]
    rw[show Xw l met T K (i+1)=Xw l met T K i from(Xbq hi (by unfold Xz Xp;rw[hm];rfl)).symm]
   |true=>
    by_cases hk:(l.getD i Xa).1=1
    ·have hx:(Xw l met T K i).getD i Xa=l.getD i Xa:=by rw[hO];unfold Xz;rw[hm,hk];rfl
     have hk1:=Xaq met l i;have hk4:(Xj l i).length≤4:=(h.D.all i).bl.1
     have hent0:(l.getD i Xa).2.2.2.2.1=T.getD i []:=by
      rw[h.tE (fun hh=>by rw[hk] at hh;exact absurd hh.2 (by decide))];exact(h.D.all i).ent (by rw[hk];decide)
     have hl2:=Xhy h Da hi hm hk lo (Xk (gT l met) i) (Xk (gK l met K) i);rw[hl2];generalize hX:l.getD i Xa=x at *
     have hbx:Xj l i=x.2.2.2.1:=by unfold Xj;rw[hX]
     have hc1:(decide ((0:Int)≤((kbF met l i).length:Int))&&decide (((kbF met l i).length:Int)≤(x.2.2.2.1.length:Int)))=true:=by rw[←hbx];simp;omega
     have htk:(x.2.2.2.1.drop 0).take (((kbF met l i).length:Int).toNat-0)=kbF met l i:=by
      rw[List.drop_zero,toNat_cast,Nat.sub_zero,←hbx];exact Xgg met l i
     have hnb:(Nat.beq i i&&true)=true:=by rw[Nat.beq_refl];rfl
     have hgs:∀ (L:List Xb) (y:Xb),L.length=l.length→(L.set i y).getD i Xa=y:=fun L y hL=>Yvs _ _ (by omega)
     have hl1:((Xw l met T K i).set i (x.1,x.2.1,x.2.2.1,kbF met l i,x.2.2.2.2)).length=l.length:=by rw[List.length_set];exact hlen
     simp only[hx,hk,show((1:Int) != 1)=false from rfl,Ywl,Option.bind_some,hc1,htk,hnb,Ywx,hgs _ _ hlen,List.set_set,Xhj,hgs _ _ hl1];have hlk:=Xgt h hi (x.1,x.2.1,Xae x.2.2.1 (w64 (((kbF met l i).length:Int)*8)),kbF met l i,x.2.2.2.2) hent0
     have hsw:Xae x.2.2.1 (w64 (((kbF met l i).length:Int)*8))=Xae (w64 (((kbF met l i).length:Int)*8)) x.2.2.1:=by rw[←Xf6];rfl
     rw[hk] at hlk;rw[hlk];simp only[Option.bind_some]
     have hw1:w64 ((x.2.2.2.1.length:Int)-((kbF met l i).length:Int))=(x.2.2.2.1.length:Int)-((kbF met l i).length:Int):=Yrz (by rw[←hbx];omega) (by rw[←hbx];omega)
     have hgT:gT l met i=(x.2.2.2.1.length:Int)-((kbF met l i).length:Int):=by unfold gT;rw[hm,hX,hk,hbx];rfl
     have hw2:w64 (Xk (gT l met) i+((x.2.2.2.1.length:Int)-((kbF met l i).length:Int)))=Xk (gT l met) (i+1):=by
      rw[Yrz (by rw[←hbx];omega) (by rw[←hbx];omega)];simp only[Xk,hgT]
     have hfix:Xp l met T K i x=(1,K.getD i 0,Xae (w64 (((kbF met l i).length:Int)*8)) x.2.2.1,kbF met l i,x.2.2.2.2):=by
      unfold Xp;rw[hm,hk];rfl
     rw[hw1,hw2]
     cases hne:(x.2.1 != K.getD i 0) with
     |true=>
      have hgK:gK l met K i=1:=by unfold gK;rw[hm,hX,hk,hne];rfl
      simp only[Ywx]
      rw[Yxo (by omega) (by omega),show Xk (gK l met K) i+1=Xk (gK l met K) (i+1) by simp only[Xk,hgK]]
      rw[show(Xw l met T K i).set i (1,K.getD i 0,Xae x.2.2.1 (w64 (((kbF met l i).length:Int)*8)),kbF met l i,x.2.2.2.2)=Xw l met T K (i+1) from X8 hi (by rw[hX,hfix,hsw])]
     |false=>
      have hgK:gK l met K i=0:=by unfold gK;rw[hm,hX,hk,hne];rfl
      have hKe:x.2.1=K.getD i 0:=by simpa using hne
      simp only[Ywl]
      rw[show Xk (gK l met K) (i+1)=Xk (gK l met K) i by simp only[Xk,hgK,Int.add_zero]]
      rw[show(Xw l met T K i).set i (1,x.2.1,Xae x.2.2.1 (w64 (((kbF met l i).length:Int)*8)),kbF met l i,x.2.2.2.2)=Xw l met T K (i+1) from X8 hi (by rw[hX,hfix,hsw,hKe])]
    ·have hk2:(l.getD i Xa).1=2:=by have:=(h.D.all i).knd;have:=h.nz hm;omega
     have hx1:((Xw l met T K i).getD i Xa).1=2:=by rw[hO];unfold Xz;rw[hm,hk2];exact hk2
     rw[hx1];simp only[show((2:Int) != 1)=true from rfl,Ywx]
     rw[show Xk (gT l met) (i+1)=Xk (gT l met) i by simp only[Xk,gT,hm,hk2,show((2:Int) == 1)=false from rfl,Ywx,Ywl,Int.add_zero],show Xk (gK l met K) (i+1)=Xk (gK l met K) i by simp only[Xk,gK,hm,hk2,show((2:Int) == 1)=false from rfl,Ywx,Ywl,Int.add_zero]]
     rw[show Xw l met T K (i+1)=Xw l met T K i from(Xbq hi (by unfold Xz Xp;rw[hm,hk2];rfl)).symm]) (by
   simp only[Xde.B,show(Xw l met T K l.length).length=l.length from Xx _,Yxg (Nat.le_refl _),Ywl];rw[show Xw l met T K l.length=_ from Xby]) l.length 0 (by omega)
 rw[h0];exact hs
theorem Xje {l:List Xb} {met:List Bool} {T:List (List Xc)} {wr:Int} {K:List Int} {P:List Nat} (f v3:Fs_) (h:Seen l met T wr K P) (Da:List (List Int)) :
  Xa1 (f,met,T,wr,K,Xn (fun j _=>((kbF met l j).length:Int)) Xa l,()) (l.length:Int) v3 (0,(l,Da,()))=some (Xn (Xp l met T K) Xa l,Da,()):=by
 have hn:=h.D.len
 have h0:l=upN (Xp l met T K) (fun _ x=>x) Xa l 0:=by rw[Xba,Xeo]
 have hs:=Ysw (f:=fun s=>Xa1.B (f,met,T,wr,K,Xn (fun j _=>((kbF met l j).length:Int)) Xa l,()) (l.length:Int) v3 s.1 s.2) (fun i=>((i:Int),(upN (Xp l met T K) (fun _ x=>x) Xa l i,Da,()))) (n:=l.length)
  (r:=(Xn (Xp l met T K) Xa l,Da,())) (fun i hi=>by
   have hlen:(upN (Xp l met T K) (fun _ x=>x) Xa l i).length=l.length:=Xx i;have hO:(upN (Xp l met T K) (fun _ x=>x) Xa l i).getD i Xa=l.getD i Xa:=Xab hi _
   have hm1:inB (i:Int) met.length=true:=Yxc (by rw[h.I.len];exact hi)
   have hm2:inB (i:Int) T.length=true:=Yxc (by rw[h.I.tl];exact hi)
   have hm3:inB (i:Int) K.length=true:=Yxc (by rw[h.I.kl];exact hi)
   have hm4:inB (i:Int) (Xn (fun j _=>((kbF met l j).length:Int)) Xa l).length=true:=Yxc (by rw[Xt];exact hi)
   have hC:(Xn (fun j _=>((kbF met l j).length:Int)) Xa l).getD i 0=((kbF met l i).length:Int):=Xb0 _ _ _ _ hi _
   simp only[Xa1.B,hlen,Yxe hi,Yxc hi,hm1,hm2,hm3,hm4,hC,hO,Ywx,toNat_cast,Ywe (by omega:i<4294967296)]
   cases hm:met.getD i false with
   |false=>
    simp only[Bool.not_false,Ywx]
    rw[X8 hi (by unfold Xp;rw[hm];rfl)]
   |true=>
    simp only[Bool.not_true,Ywl]
    by_cases hk:(l.getD i Xa).1=2
    ·have hcl:Xeb (T.getD i [])=some (T.getD i []):=Xbx (by have:=(h.I.tb i).1;omega)
     rw[show((l.getD i Xa).1 == 2)=true by simpa using hk]
     simp only[Ywx,hcl,Option.bind_some]
     rw[X8 hi (by unfold Xp;rw[hm,show((l.getD i Xa).1 == 2)=true by simpa using hk];rfl)]
    ·rw[show((l.getD i Xa).1 == 2)=false by simpa using hk]
     have hk1:=Xaq met l i;have hbl:(((((l.getD i Xa).2).2).2).1).length=(Xj l i).length:=rfl
     have hc1:(decide ((0:Int)≤((kbF met l i).length:Int))&&decide (((kbF met l i).length:Int)≤(((((l.getD i Xa).2).2).2).1.length:Int)))=true:=by rw[hbl];simp;omega
     have htk:(((((l.getD i Xa).2).2).2).1.drop 0).take ((kbF met l i).length-0)=kbF met l i:=by
      rw[List.drop_zero,Nat.sub_zero];exact Xgg met l i
     have hnb:(Nat.beq i i&&true)=true:=by rw[Nat.beq_refl];rfl
     have hgs:∀ (L:List Xb) (y:Xb),L.length=l.length→(L.set i y).getD i Xa=y:=fun L y hL=>Yvs _ _ (by omega)
     have hl1:∀ y,((upN (Xp l met T K) (fun _ x=>x) Xa l i).set i y).length=l.length:=fun y=>by rw[List.length_set];exact hlen
     simp only[Ywl,hc1,htk,hnb,Ywx,Option.bind_some,hgs _ _ hlen,hgs _ _ (hl1 _),List.set_set]
     rw[X8 hi (by unfold Xp;rw[hm,show((l.getD i Xa).1 == 2)=false by simpa using hk];rfl)]) (by
   simp only[Xa1.B,Yxg (Nat.le_refl _),Ywl];rw[Xby]) l.length 0 (by omega)
 rw[←h0] at hs;exact hs
theorem Xhk:∀ (k:Nat) (d:List Int) (n:Int),n.toNat≤d.length+k→n≤1000→d.length≤2000000000→Xac d n=some (d++List.replicate (n.toNat-d.length) 0)
 |0,d,n,h,hn,hd=>by
  have hl:X7 n d=some d:=Y5 (by simp only[X7.B,Xb8,Option.bind_some];rw[show decide ((d.length:Int)<n)=false by simp;omega];rfl)
  simp only[Xac,hl,Option.bind_some]
  rw[show n.toNat-d.length=0 by omega];simp
 |k+1,d,n,h,hn,hd=>by
  by_cases hlt:(d.length:Int)<n
  ·have hs:X7 n d=X7 n (d++[0]):=Yar (by
    simp only[X7.B,Xb8,Option.bind_some,decide_eq_true hlt,Ywx]
    rw[show decide ((d++([0]:List Int)).length≤2147483648)=true by simp;omega];rfl)
   have ih:=Xhk k (d++[0]) n (by simp;omega) hn (by simp;omega)
   simp only[Xac] at ih ⊢;rw[hs,ih]
   congr 1
   rw[List.append_assoc,show n.toNat-d.length=(n.toNat-(d++[(0:Int)]).length)+1 by simp;omega,List.replicate_succ]
   simp
  ·have hl:X7 n d=some d:=Y5 (by simp only[X7.B,Xb8,Option.bind_some];rw[decide_eq_false hlt];rfl)
   simp only[Xac,hl,Option.bind_some]
   rw[show n.toNat-d.length=0 by omega];simp
def X4 (w:List Int) (j:Nat) (d:List Int):List Int:=(d++List.replicate ((w.getD j 0).toNat-d.length) 0).take (w.getD j 0).toNat
theorem Xgy (w:List Int) (j:Nat) (d:List Int):(X4 w j d).length=(w.getD j 0).toNat:=by
 unfold X4;rw[List.length_take];simp;omega
def gS (w:List Int) (D:List (List Int)) (j:Nat):Int:=cond (((D.getD j []).length:Int) != w.getD j 0) 1 0
theorem Xht (w:List Int) (D:List (List Int)) (j:Nat):0≤gS w D j∧gS w D j≤4:=by
 unfold gS;cases (((D.getD j []).length:Int) != w.getD j 0)<;>decide
theorem Xhh {w:List Int} (R:List Xb) (a:Int) {i:Nat} (hi:i<w.length) (hw8:w.getD i 0≤8):∀ (k:Nat) (D:List (List Int)),i<D.length→(w.getD i 0).toNat≤(D.getD i []).length+k→(D.getD i []).length≤2000000000→
  Xbp a (i:Int) w (R,D,())=some (R,D.set i (D.getD i []++List.replicate ((w.getD i 0).toNat-(D.getD i []).length) 0),())
 |k,D,hD,hk,hl=>by
  have hset:D.set i (D.getD i [])=D:=by
   refine List.ext_getElem (by simp) fun j h1 h2=>?_
   rw[List.getElem_set]
   split
   ·rename_i e;subst e;exact getD_lt _ h2
   ·rfl
  by_cases hlt:((D.getD i []).length:Int)<w.getD i 0
  ·cases k with
   |zero=>omega
   |succ k=>
    have hs:Xbp a (i:Int) w (R,D,())=Xbp a (i:Int) w (R,D.set i (D.getD i []++[0]),()):=Yar (by
     simp only[Xbp.B,Yxc hD,Yxc hi,Ywx,toNat_cast,Option.bind_some,decide_eq_true hlt,Nat.beq_refl,Bool.and_self]
     rw[show decide ((D.getD i []++([0]:List Int)).length≤2147483648)=true by rw[List.length_append,List.length_singleton,decide_eq_true_eq];omega];rfl)
    have hg:(D.set i (D.getD i []++[0])).getD i []=D.getD i []++[0]:=Yvs _ _ hD
    have ih:=Xhh R a hi hw8 k (D.set i (D.getD i []++[0])) (by simpa using hD) (by rw[hg,List.length_append,List.length_singleton];omega) (by rw[hg,List.length_append,List.length_singleton];omega)
    rw[hs,ih,hg,List.set_set]
    congr 4
    rw[List.append_assoc,show(w.getD i 0).toNat-(D.getD i []).length=((w.getD i 0).toNat-(D.getD i []++[(0:Int)]).length)+1 by rw[List.length_append,List.length_singleton];omega,List.replicate_succ]
    simp
  ·have hd:Xbp a (i:Int) w (R,D,())=some (R,D,()):=Y5 (by
    simp only[Xbp.B,Yxc hD,Yxc hi,Ywx,toNat_cast,Option.bind_some,decide_eq_false hlt,Ywl])
   rw[hd,show(w.getD i 0).toNat-(D.getD i []).length=0 by omega,List.replicate_zero,List.append_nil,hset]
theorem Xib {w:List Int} (hw:w.length=20) (hb:∀ j,0≤w.getD j 0∧w.getD j 0≤8) (R:List Xb) (D:List (List Int)) (hD:D.length=20) (hl:∀ b∈D,b.length≤1100000000) :
  Xdz w (0,0,(R,D,()))=some (Xk (gS w D) 20,(R,Xn (X4 w) [] D,())):=by
 have h0:D=upN (X4 w) (fun _ x=>x) [] D 0:=by rw[Xba,Xeo]
 have hs:=Ysw (f:=fun s=>Xdz.B w s.1 s.2.1 s.2.2) (fun i=>(Xk (gS w D) i,(i:Int),(R,upN (X4 w) (fun _ x=>x) [] D i,()))) (n:=20)
  (r:=(Xk (gS w D) 20,(R,Xn (X4 w) [] D,()))) (fun i hi=>by
   have hi':i<D.length:=by omega
   have hlen:(upN (X4 w) (fun _ x=>x) [] D i).length=20:=by rw[Xx];exact hD
   have hO:(upN (X4 w) (fun _ x=>x) [] D i).getD i []=D.getD i []:=Xab hi' _;have hbb:=Xbr (g:=gS w D) (Xht w D) i;have hwi:=hb i
   have hdl:(D.getD i []).length≤1100000000:=by rw[getD_lt _ hi'];exact hl _ (List.getElem_mem hi')
   have h3:∀ a,Xbp a (i:Int) w (R,upN (X4 w) (fun _ x=>x) [] D i,())=_:=fun a=>Xhh R a (by omega) hwi.2 8 (upN (X4 w) (fun _ x=>x) [] D i) (by omega) (by rw[hO];omega) (by rw[hO];omega)
   have hg:∀ y,((upN (X4 w) (fun _ x=>x) [] D i).set i y).getD i []=y:=fun y=>Yvs _ _ (by omega)
   have hc:(decide ((0:Int)≤w.getD i 0)&&decide (w.getD i 0≤((D.getD i []++List.replicate ((w.getD i 0).toNat-(D.getD i []).length) 0).length:Int)))=true:=by
    rw[List.length_append,List.length_replicate,Bool.and_eq_true,decide_eq_true_eq,decide_eq_true_eq];omega
   have hin1:inB (i:Int) (upN (X4 w) (fun _ x=>x) [] D i).length=true:=Yxc (by omega)
   have hin2:inB (i:Int) w.length=true:=Yxc (by omega)
   simp only[Xdz.B,hlen,show decide ((i:Int)<((20:Nat):Int))=true by simp;omega,hin1,hin2,Yxc hi,hO,h3,Ywx,toNat_cast,List.length_set,Option.bind_some,hg,hc,Nat.beq_refl,Bool.and_self,List.drop_zero,Nat.sub_zero,List.set_set,Ywe (by omega:i<4294967296)]
   rw[show(upN (X4 w) (fun _ x=>x) [] D i).set i (List.take (w.getD i 0).toNat (D.getD i []++List.replicate ((w.getD i 0).toNat-(D.getD i []).length) 0))=upN (X4 w) (fun _ x=>x) [] D (i+1) from X8 hi' rfl]
   cases hne:(((D.getD i []).length:Int) != w.getD i 0) with
   |true=>
    rw[show Xk (gS w D) (i+1)=w64 (Xk (gS w D) i+1) by rw[Yxo (by omega) (by omega)];simp only[Xk,gS,hne,Ywx]]
    rfl
   |false=>
    rw[show Xk (gS w D) (i+1)=Xk (gS w D) i by simp only[Xk,gS,hne,Ywl,Int.add_zero]]
    rfl) (by
   have:upN (X4 w) (fun _ x=>x) [] D 20=Xn (X4 w) [] D:=by rw[←hD,Xby]
   simp only[Xdz.B,this,Xt,hD];rfl) 20 0 (by omega)
 rw[←h0] at hs;exact hs
theorem Xhx {w:List Int} (hw:w.length=20) (hb:∀ j,0≤w.getD j 0∧w.getD j 0≤8) (R:List Xb) (v:Fs_) (D:List (List Int)) (hD:D.length=20) (hl:∀ b∈D,b.length≤1100000000) :
  Xa7 w v (0,(R,D,()))=some (R,Xn (X4 w) [] D,()):=by
 have h0:D=upN (X4 w) (fun _ x=>x) [] D 0:=by rw[Xba,Xeo]
 have hs:=Ysw (f:=fun s=>Xa7.B w v s.1 s.2) (fun i=>((i:Int),(R,upN (X4 w) (fun _ x=>x) [] D i,()))) (n:=20)
  (r:=(R,Xn (X4 w) [] D,())) (fun i hi=>by
   have hi':i<D.length:=by omega
   have hlen:(upN (X4 w) (fun _ x=>x) [] D i).length=20:=by rw[Xx];exact hD
   have hO:(upN (X4 w) (fun _ x=>x) [] D i).getD i []=D.getD i []:=Xab hi' _;have hwi:=hb i
   have hdl:(D.getD i []).length≤1100000000:=by rw[getD_lt _ hi'];exact hl _ (List.getElem_mem hi')
   have hc:(decide ((0:Int)≤w.getD i 0)&&decide (w.getD i 0≤((D.getD i []++List.replicate ((w.getD i 0).toNat-(D.getD i []).length) 0).length:Int)))=true:=by
    rw[List.length_append,List.length_replicate,Bool.and_eq_true,decide_eq_true_eq,decide_eq_true_eq];omega
   have hlg:=Xhk 8 (D.getD i []) (w.getD i 0) (by omega) (by omega) (by omega)
   simp only[Xa7.B,hlen,show decide ((i:Int)<(20:Int))=true by simp;omega,Yxc hi,hO,hlg,Ywx,toNat_cast,Option.bind_some,hc,Nat.beq_refl,Bool.and_self,List.drop_zero,Nat.sub_zero,Ywe (by omega:i<4294967296)]
   rw[show(upN (X4 w) (fun _ x=>x) [] D i).set i (List.take (w.getD i 0).toNat (D.getD i []++List.replicate ((w.getD i 0).toNat-(D.getD i []).length) 0))=upN (X4 w) (fun _ x=>x) [] D (i+1) from X8 hi' rfl]) (by
   have:upN (X4 w) (fun _ x=>x) [] D 20=Xn (X4 w) [] D:=by rw[←hD,Xby]
   simp only[Xa7.B,this];rfl) 20 0 (by omega)
 rw[←h0] at hs;exact hs
theorem Xic (f:Fs_) (i:Int) (x:Nat) (hx:InD (f.1.getD x Xa)∨((f.1.getD x Xa).2.2.2.1.length≤4∧∀ b∈(f.1.getD x Xa).2.2.2.1,0≤b∧b≤19)) (w:List Int) (hw:w.length=20):Xcl i x f (0,w)=some (Xao (f.1.getD x Xa) 0 (f.1.getD x Xa).2.2.2.1 w):=by
 have hx:((f.1.getD x Xa).2.2.2.1.length≤4∧∀ b∈(f.1.getD x Xa).2.2.2.1,0≤b∧b≤19):=hx.elim (fun h=>h.bl) id
 have h:=Yno (τ:=List Int) (f.1.getD x Xa).2.2.2.1 (f:=fun s=>Xcl.B i x f s.1 s.2) (fun k w=>((k:Int),w)) (fun k b w=>.inl (w.set b.toNat (Xae 8 (w64 ((f.1.getD x Xa).2.2.1-w64 ((k:Int)*8)))))) id (fun k w=>w.length=20)
  (fun k hk w hw=>by
   have h2:=hx.2 _ (List.getElem_mem hk)
   simp only[Xcl.B,Yxe hk,Yxc hk,Ywx,toNat_cast,getD_lt _ hk,Xhj,Option.bind_some,Ywe (by omega:k<4294967296),sel]
   rw[show inB ((f.1.getD x Xa).2.2.2.1[k]) w.length=true from Yuq h2.1 (by omega)];rfl) (fun k hk w w' hw e=>by cases e;simpa using hw) (fun w hw=>by
   simp only[Xcl.B,Option.bind_some,Yxg (Nat.le_refl _),Ywl,id]) w hw (s:=(0,w)) rfl
 rw[Xce] at h;exact h
theorem Xhv (f:Fs_) (hok:Xfe f.1):Xd2 f (0,List.replicate 20 0)=some (Xcd f.1):=by
 have hl:=hok.len
 have h:=Yno (τ:=List Int) f.1 (f:=fun s=>Xd2.B f s.1 s.2) (fun k w=>((k:Int),w)) (fun _ x w=>.inl (Xao x 0 x.2.2.2.1 w)) id (fun k w=>w.length=20)
  (fun k hk w hw=>by
   have h2:=hok.blk _ (List.getElem_mem hk);have hg:f.1.getD k Xa=f.1[k]:=getD_lt _ hk
   have e1:=Xic f (k:Int) k (.inr (by rw[hg];exact h2)) w hw
   rw[hg] at e1
   simp only[Xd2.B,Yxe hk,Yxc hk,Ywx,toNat_cast,e1,Option.bind_some,Ywe (by omega:k<4294967296),sel]) (fun k hk w w' hw e=>by cases e;rw[Xb1];exact hw) (fun w hw=>by
   simp only[Xd2.B,Yxg (Nat.le_refl _),Ywl,id]) (List.replicate 20 0) (by simp) (s:=(0,List.replicate 20 0)) rfl
 rw[Xcg] at h;exact h
theorem Xgp (a b:Int):Xae a b≤a∧Xae a b≤b∧(Xae a b=a∨Xae a b=b):=by
 unfold Xae
 by_cases h:a<b
 ·rw[decide_eq_true h];exact⟨Int.le_refl _,Int.le_of_lt h,.inl rfl⟩
 ·rw[decide_eq_false h];exact⟨by simp only[Ywl];omega,Int.le_refl _,.inr rfl⟩
theorem Xew (x:Xb) (hs:x.2.2.1≤1000):∀ (bs:List Int) (k:Nat) (w:List Int),k+bs.length≤100→(∀ j:Nat,j<k+bs.length→0≤x.2.2.1-8*j)→(∀ j,0≤w.getD j 0∧w.getD j 0≤8)→∀ j,0≤(Xao x k bs w).getD j 0∧(Xao x k bs w).getD j 0≤8
 |[],k,w,_,_,hw,j=>hw j
 |b::bs,k,w,hl,hx,hw,j=>by
  simp only[List.length_cons] at hl hx;simp only[Xao]
  refine Xew x hs bs (k+1) _ (by omega) (fun j hj=>hx j (by omega)) (fun j=>?_) j
  have h1:=hx k (by omega)
  have e1:w64 ((k:Int)*8)=(k:Int)*8:=Yrz (by omega) (by omega)
  have e2:w64 (x.2.2.1-(k:Int)*8)=x.2.2.1-(k:Int)*8:=Yrz (by omega) (by omega)
  have hm:=Xgp 8 (x.2.2.1-(k:Int)*8);rw[e1,e2]
  by_cases e:b.toNat=j
  ·by_cases hlt:b.toNat<w.length
   ·subst e;rw[Yvs _ _ hlt];omega
   ·rw[List.set_eq_of_length_le (by omega)];exact hw j
  ·have:(w.set b.toNat (Xae 8 (x.2.2.1-(k:Int)*8))).getD j 0=w.getD j 0:=by simp only[List.getD,List.getElem?_set,e,if_false]
   rw[this];exact hw j
theorem Xe0:∀ (l:List Xb) (w:List Int),(∀ x∈l,x.2.2.1≤1000∧x.2.2.2.1.length≤100∧∀ j:Nat,j<x.2.2.2.1.length→0≤x.2.2.1-8*j)→(∀ j,0≤w.getD j 0∧w.getD j 0≤8)→∀ j,0≤(Xea l w).getD j 0∧(Xea l w).getD j 0≤8
 |[],w,_,hw,j=>hw j
 |x::l,w,h,hw,j=>by
  obtain⟨h1,h2,h3⟩:=h x List.mem_cons_self
  exact Xe0 l _ (fun y hy=>h y (List.mem_cons_of_mem _ hy)) (Xew x h1 _ 0 w (by omega) (by simpa using h3) hw) j
theorem Xha {s:Int} (h:0≤s∧s≤32):8*Xeh s≤s+7:=by
 unfold Xeh
 rw[Yrz (show -9223372036854775808≤s+8 by omega) (by omega),Yrz (show -9223372036854775808≤s+8-1 by omega) (by omega)]
 have:(s+8-1).tdiv 8=(s+7) / 8:=by rw[Int.tdiv_eq_ediv_of_nonneg (by omega)];congr 1;omega
 rw[this,Yrz (by omega) (by omega)]
 omega
theorem Xet {l:List Xb} {met:List Bool} {T:List (List Xc)} {wr:Int} {K:List Int} {P:List Nat} (h:Seen l met T wr K P):∀ j,0≤(Xcd (Xn (Xp l met T K) Xa l)).getD j 0∧(Xcd (Xn (Xp l met T K) Xa l)).getD j 0≤8:=by
 refine Xe0 _ _ (fun x hx=>?_) (fun j=>?_)
 ·obtain⟨i,hi,rfl⟩:=List.mem_map.1 hx
  rw[Xep h];have hk1:=Xaq met l i;have hD:=h.D.all i;have hk4:(Xj l i).length≤4:=hD.bl.1;have hz:=hD.sz
  by_cases hm:met.getD i false=true
  ·by_cases hk:(l.getD i Xa).1=2
   ·have hb:Xj l i=[]:=hD.dir (by rw[hk];decide)
    have:(Xp l met T K i (l.getD i Xa)).2.2.1=(l.getD i Xa).2.2.1:=by unfold Xp;rw[hm,hk];rfl
    rw[this];rw[hb] at hk1
    have hk0:kbF met l i=[]:=List.eq_nil_of_length_eq_zero (by simpa using hk1)
    rw[hk0]
    exact⟨by omega,by decide,fun j hj=>by simp at hj⟩
   ·have hk2:(l.getD i Xa).1=1:=by have:=hD.knd;have:=h.nz hm;omega
    have hfo:=hD.fil hk2;have hle:=Xha hz
    have hs:(Xp l met T K i (l.getD i Xa)).2.2.1=Xae (w64 (((kbF met l i).length:Int)*8)) (l.getD i Xa).2.2.1:=by unfold Xp;rw[hm,hk2];rfl
    have e1:w64 (((kbF met l i).length:Int)*8)=((kbF met l i).length:Int)*8:=Yrz (by omega) (by omega)
    rw[hs,e1];obtain⟨m1,m2,m3⟩:=Xgp (((kbF met l i).length:Int)*8) (l.getD i Xa).2.2.1;have hbl:((Xj l i).length:Int)=Xeh (l.getD i Xa).2.2.1:=hfo
    refine⟨by omega,by omega,fun j hj=>?_⟩
    rcases m3 with m3 | m3<;>rw[m3]<;>omega
  ·have hm':met.getD i false=false:=by simpa using hm
   have hk0:kbF met l i=[]:=by unfold kbF;rw[hm'];rfl
   have:(Xp l met T K i (l.getD i Xa)).2.2.1=0:=by unfold Xp;rw[hm'];rfl
   rw[this,hk0]
   exact⟨by decide,by decide,fun j hj=>by simp at hj⟩
 ·simp only[List.getD,List.getElem?_replicate]
  split<;>decide
theorem Xgs {l:List Xb} {met:List Bool} {T:List (List Xc)} {wr:Int} {K:List Int} {P:List Nat} (h:Seen l met T wr K P) (hs:∀ j,Xat (l.getD j Xa)) (i:Nat):Xat (Xp l met T K i (l.getD i Xa)):=by
 have hk1:=Xaq met l i;have hk4:(Xj l i).length≤4:=(h.D.all i).bl.1
 refine⟨by rw[Xep h];omega,by rw[Xff h];exact(h.I.tb i).1,fun e he=>?_⟩
 rw[Xff h] at he;exact(hs i).nam e ((h.I.tb i).2 e he).1
theorem Xi3 (f:Fs_) (hb:Bd Xi f):Xe6 f=some (Xd8 f):=by
 simp only[Xe6,Xd8,Xi9 f.1 hb.1,Option.bind_some]
 cases hi:(Xr f.1 != 0) with
 |true=>simp only[Ywx]
 |false=>
  simp only[Ywl]
  have e1:cond (!((f.1.length:Int) == 0)) (inB 0 f.1.length) true=true:=by
   cases hl:((f.1.length:Int) == 0) with
   |true=>rfl
   |false=>exact Yxc (i:=0) (by
     have:(f.1.length:Int)≠0:=by simpa using hl
     omega)
  rw[e1];simp only[Ywx,show(0:Int).toNat=0 from rfl,Yvd]
theorem Xi5 (f:Fs_) (hl1:f.1.length≤10) (hs:∀ x∈f.1,Xat x) (hl2:f.2.1.length=20) (hd:∀ b∈f.2.1,b.length≤1100000000):Xch f=some f:=by
 obtain⟨bs,ps,⟨⟩⟩:=f;replace hl1:bs.length≤10:=hl1;replace hl2:ps.length=20:=hl2
 have h0:Xdx (bs,ps,()) ([],[],()) (0,([],[],()))=some (bs.foldl (fun(t:Fs_) x=>(t.1++[x],t.2)) ([],[],())):=
  Yij bs (f:=fun s=>Xdx.B (bs,ps,()) ([],[],()) s.1 s.2) _ (fun t=>t) (fun i t=>t.1.length≤i) (fun i hi t ht=>by
   have hw:=Xij (hs _ (List.getElem_mem hi))
   constructor
   ·simp only[Xdx.B,Yxe hi,Yxc hi,Ywx,toNat_cast,getD_lt _ hi,hw,Option.bind_some,Ywe (by omega:i<4294967296)]
    rw[show decide ((t.1++[(bs[i].1,bs[i].2.1,bs[i].2.2.1,bs[i].2.2.2.1,bs[i].2.2.2.2.1,bs[i].2.2.2.2.2)]).length≤2147483648)=true by simp;omega];rfl
   ·simp;omega) (fun t ht=>by simp only[Xdx.B,Yxg (Nat.le_refl _),Ywl]) _ (Nat.le_refl _)
 have h1:Xdb (bs,ps,()) ([],[],()) (0,(bs,[],()))=some (ps.foldl (fun(t:Fs_) x=>(t.1,t.2.1++[x],t.2.2)) (bs,[],())):=
  Yij ps (f:=fun s=>Xdb.B (bs,ps,()) ([],[],()) s.1 s.2) _ (fun t=>t) (fun i t=>t.2.1.length≤i) (fun i hi t ht=>by
   have hw:ps[i].length≤1100000000:=hd _ (List.getElem_mem hi)
   constructor
   ·simp only[Xdb.B,Yxe hi,Yxc hi,Ywx,toNat_cast,getD_lt _ hi,List.nil_append,decide_eq_true (show ps[i].length≤2147483648 by omega),Option.bind_some,Ywe (by omega:i<4294967296)]
    rw[show decide ((t.2.1++[ps[i]]).length≤2147483648)=true by simp;omega];rfl
   ·simp;omega) (fun t ht=>by simp only[Xdb.B,Yxg (Nat.le_refl _),Ywl]) _ (Nat.le_refl _)
 rw[Xhi] at h0;rw[Xhg] at h1;simp only[List.nil_append] at h0 h1;simp only[Xch,h0,Option.bind_some,h1]
structure Xbk (f:Fs_) (met:List Bool) (T:List (List Xc)) (wr:Int) (K:List Int) (P:List Nat):Prop where
 S:Seen f.1 met T wr K P
 sm:∀ j,Xat (f.1.getD j Xa)
 d:f.2.1.length=20
 dl:∀ b∈f.2.1,b.length≤1100000000
 spec:Xcj f=some ((Xbu f.1 P T,f.2.1,()),met,wr)
 impl:Xbi f=some (f,met,T,wr,K,Xn (fun j _=>((kbF met f.1 j).length:Int)) Xa f.1,())
theorem looked (f:Fs_) (h:Xd8 f=0) (hd:∀ b∈f.2.1,b.length≤1100000000):∃ met T wr K P,Xbk f met T wr K P:=by
 obtain⟨r1,r2,r3,r4⟩:=Xg0 h;have hD:=Xgk.of r1;have hn:=hD.len
 have hsm:∀ j,Xat (f.1.getD j Xa):=by
  intro j
  by_cases hj:j<f.1.length
  ·rw[getD_lt _ hj];exact Xat.of ((Xu r1).2 _ (List.getElem_mem hj))
  ·have:f.1.getD j Xa=Xa:=by simp only[List.getD,List.getElem?_eq_none (by omega:f.1.length≤j)];rfl
   rw[this];exact⟨by simp[Xa],by simp[Xa],fun e he=>by cases he⟩
 have hent:∀ j,(Xy f.1 j).length≤6∧∀ e∈Xy f.1 j,0≤e.2.1∧e.2.1≤9:=by
  intro j
  by_cases hj:j<f.1.length
  ·unfold Xy;rw[getD_lt _ hj];exact(Xg3.of r1).ent _ (List.getElem_mem hj)
  ·have:f.1.getD j Xa=Xa:=by simp only[List.getD,List.getElem?_eq_none (by omega:f.1.length≤j)];rfl
   unfold Xy;rw[this];exact⟨by simp[Xa],fun e he=>by cases he⟩
 have h2:Xm f.1 0=2:=r3
 have hon:∀ j,on ((List.replicate f.1.length false).set 0 true) j↔j=0:=by
  intro j;rw[Xdq]
  constructor
  ·rintro(hj | ⟨rfl,_⟩)
   ·unfold on at hj
    simp only[List.getD,List.getElem?_replicate] at hj
    split at hj<;>cases hj
   ·rfl
  ·rintro rfl;exact .inr ⟨rfl,by simpa using r2⟩
 have hT0:∀ j,(List.replicate f.1.length ([]:List Xc)).getD j []=[]:=by
  intro j;simp only[List.getD,List.getElem?_replicate];split<;>rfl
 have hK0:∀ j,(List.replicate f.1.length (0:Int)).getD j 0=0:=by
  intro j;simp only[List.getD,List.getElem?_replicate];split<;>rfl
 have hc0:∀ n j,Xfl (List.replicate n ([]:List Xc)) j=0:=by
  intro n j;simp[Xfl,List.flatMap_replicate]
 have I0:Xg2 f.1 [0] ((List.replicate f.1.length false).set 0 true) (List.replicate f.1.length []) 0 (List.replicate f.1.length 0) []:=by
  refine⟨by simp,by simp,by simp,(hon 0).2 rfl,by simp,fun a ha=>?_,fun j hj=>?_,fun j hj hk=>?_,fun j hj=>?_,fun j _=>hT0 j,fun j=>?_,fun j=>?_,fun j=>?_,by decide,by simp⟩
  ·simp only[List.mem_singleton] at ha;subst ha;exact⟨by decide,by omega⟩
  ·simp at hj;subst hj;exact⟨r2,h2,(hon 0).2 rfl⟩
  ·rw[(hon j).1 hj];simp
  ·rw[(hon j).1 hj];rw[show((0:Nat):Int)=0 from rfl,h2];decide
  ·rw[hT0];exact⟨by simp,fun e he=>by cases he⟩
  ·rw[hK0,hc0];rfl
  ·rw[hK0];simp
 obtain⟨met,T,wr,K,P,J,j1,j2⟩:=Xgd f hn h2 hent ([],[],()) (List.replicate f.1.length 0) f.2.1 11 _ _ _ _ _ _ I0 (by simp;omega)
 have S:Seen f.1 met T wr K P:=⟨J,hD⟩;refine⟨met,T,wr,K,P,S,hsm,r4,hd,?_,?_⟩
 ·have hcp:=Xi5 f hn (fun x hx=>by obtain⟨j,hj,rfl⟩:=List.getElem_of_mem hx;have:=hsm j;rwa [getD_lt _ hj] at this) r4 hd
  have ho:Xbu f.1 [] (List.replicate f.1.length [])=f.1:=by
   unfold Xbu;refine Eq.trans (X3 fun i _=>?_) (Xeo Xa f.1);simp
  rw[ho] at j2
  have hc1:(decide ((0:Int)≤(f.1.length:Int))&&(decide ((f.1.length:Int)≤(f.1.length:Int))&&decide ((f.1.length:Int)≤2147483648)))=true:=by simp;omega
  simp only[Xcj,hcp,Option.bind_some,hc1,Ywx,toNat_cast,List.length_replicate,Yxc (i:=0) r2,show inB 0 f.1.length=true from Yxc (i:=0) r2];rw[show(0:Int).toNat=0 from rfl,show Xdy f ([],[],()) (0,(f.1,f.2.1,f.2.2),(List.replicate f.1.length false).set 0 true,[0])=_ from j2];rfl
 ·have hc1:(decide ((0:Int)≤(f.1.length:Int))&&(decide ((f.1.length:Int)≤(f.1.length:Int))&&decide ((f.1.length:Int)≤2147483648)))=true:=by simp;omega
  simp only[Xbi,hc1,Ywx,Option.bind_some,toNat_cast,List.length_replicate,show inB 0 f.1.length=true from Yxc (i:=0) r2];rw[show(0:Int).toNat=0 from rfl,j1];simp only[Option.bind_some];rw[Xix hD J.len];rfl
def Xf0 (f:Fs_) (met:List Bool) (T:List (List Xc)) (K:List Int):Fs_:=
 (Xn (Xp f.1 met T K) Xa f.1,Xn (X4 (Xcd (Xn (Xp f.1 met T K) Xa f.1))) [] f.2.1,())
def Xhr (f:Fs_) (met:List Bool) (T:List (List Xc)) (wr:Int) (K:List Int):List Int:=
 [wr,Xk (gL f.1 met) f.1.length,Xk (gT f.1 met) f.1.length,Xk (gK f.1 met K) f.1.length,Xk (gS (Xcd (Xn (Xp f.1 met T K) Xa f.1)) f.2.1) 20]
theorem Xbk.wok {f:Fs_} {met:List Bool} {T:List (List Xc)} {wr:Int} {K:List Int} {P:List Nat} (h:Xbk f met T wr K P):Xfe (Xn (Xp f.1 met T K) Xa f.1):=Xge h.S (Nat.le_refl _)
theorem Xbk.mends {f:Fs_} {met:List Bool} {T:List (List Xc)} {wr:Int} {K:List Int} {P:List Nat} (h:Xbk f met T wr K P):Xfa f=some (Xf0 f met T K,Xhr f met T wr K):=by
 have hb:=Xet h.S;have hwl:=Xex (Xn (Xp f.1 met T K) Xa f.1)
 have e0:Xbs ((Xbu f.1 P T,f.2.1,()).1,(Xbu f.1 P T,f.2.1,()).2.1,(Xbu f.1 P T,f.2.1,()).2.2) met=some (Xk (gL f.1 met) f.1.length,Xk (gT f.1 met) f.1.length,Xk (gK f.1 met K) f.1.length,(Xn (Xp f.1 met T K) Xa f.1,f.2.1,())):=by
  simp only[Xbs,Xiy h.S,Option.bind_some,Xh7 h.S]
 have e1:Xbl (Xn (Xp f.1 met T K) Xa f.1,f.2.1,())=some (Xk (gS (Xcd (Xn (Xp f.1 met T K) Xa f.1)) f.2.1) 20,(Xf0 f met T K)):=by
  simp only[Xbl];rw[show(decide ((0:Int)≤(20:Int))&&(decide ((20:Int)≤(20:Int))&&decide ((20:Int)≤2147483648)))=true from rfl,show(20:Int).toNat=20 from rfl];rw[Xhv (Xn (Xp f.1 met T K) Xa f.1,f.2.1,()) h.wok];simp only[Ywx,Option.bind_some,Xib hwl hb _ f.2.1 h.d h.dl];rfl
 simp only[Xfa,h.spec,Option.bind_some];rw[e0];simp only[Option.bind_some,e1];rfl
theorem Xbk.Xgw {f:Fs_} {met:List Bool} {T:List (List Xc)} {wr:Int} {K:List Int} {P:List Nat} (h:Xbk f met T wr K P) (hb:Bd Xi f):X9 (f,met,T,wr,K,Xn (fun j _=>((kbF met f.1 j).length:Int)) Xa f.1,())=some (Xf0 f met T K):=by
 have hbd:=Xet h.S;have hwl:=Xex (Xn (Xp f.1 met T K) Xa f.1);simp only[X9,Xis f hb,Option.bind_some];rw[show(f.1,f.2.1,f.2.2)=(f.1,f.2.1,()) from rfl,Xje f ([],[],()) h.S f.2.1];simp only[Option.bind_some,Xiu _ h.wok,Xhx hwl hbd _ _ f.2.1 h.d h.dl];rfl
theorem Xbk.small {f:Fs_} {met:List Bool} {T:List (List Xc)} {wr:Int} {K:List Int} {P:List Nat} (h:Xbk f met T wr K P):FsB (Xf0 f met T K):=by
 refine⟨by show(Xn _ _ _).length≤10;rw[Xt];exact h.S.D.len,fun x hx=>?_,by show(Xn _ _ _).length=20;rw[Xt];exact h.d,fun b hb=>?_⟩
 ·obtain⟨i,hi,rfl⟩:=List.mem_map.1 hx
  exact Xgs h.S h.sm i
 ·obtain⟨i,hi,rfl⟩:=List.mem_map.1 hb
  rw[Xgy];have:=Xet h.S i;omega
theorem Xgl {f:Fs_} (hw:wt Xi f≤1048576):∀ b∈f.2.1,b.length≤1100000000:=by
 intro b hb;have h1:wt Xi f=wt (.sl Xd) f.1+(wt (.sl (.sl (.int .u8))) f.2.1+0):=rfl;have h2:wt (.sl (.sl (.int .u8))) f.2.1=(f.2.1.map (wt (.sl (.int .u8)))).sum+1:=rfl;have h3:=Yil (wt (.sl (.int .u8))) hb;have h4:wt (.sl (.int .u8)) b=(b.map (wt (.int .u8))).sum+1:=rfl;have h5:=Ylh (wt (.int .u8)) (fun x=>Nat.le_refl 1) b;omega
theorem RepairFs.main (f:Fs_) (hf:Fit Xi f) (hw:wt Xi f≤1048576):∃ r,Xev f=some r∧Xbw f=some r∧wt (.pair (.int .i64) (.pair Xi .unit)) r≤2147483648:=by
 have hb:Bd Xi f:=Yps (by decide) (by omega)
 simp only[Xev,Xbw,Xi3 f hb,Xjo f hb,Option.bind_some]
 cases h:(Xd8 f != 0) with
 |true=>exact⟨_,rfl,rfl,by simp[wt]⟩
 |false=>
  obtain⟨met,T,wr,K,P,L⟩:=looked f (by simpa using h) (Xgl hw)
  simp only[Ywl,L.mends,L.impl,Option.bind_some,L.Xgw hb];refine⟨_,rfl,rfl,?_⟩;have:=L.small.wt;show 1+(wt Xi (Xf0 f met T K)+0)≤_;omega
theorem RepairFs.law (x:PT.Els (shs [Xi])) (hf:Yo1 [Xi] x) (hw:Yo5 [Xi] x≤1048576):Xd6 x.1=some true:=by
 simp only[Yo5] at hw;have hf0:Fit Xi x.1:=hf.1
 have hw0:wt Xi x.1≤1048576:=by omega
 clear hw hf;generalize x.1=a0 at hf0 hw0 ⊢;obtain⟨r,hr1,hr2,hr3⟩:=RepairFs.main a0 hf0 hw0;obtain⟨r_0,⟨r_1_0,r_1_1,⟨⟩⟩,⟨⟩⟩:=r;replace hr3:wt Xl (r_0,(r_1_0,r_1_1,()),())≤2147483648:=hr3;replace hr1:Xev a0=some (r_0,(r_1_0,r_1_1,()),()):=hr1;replace hr2:Xbw a0=some (r_0,(r_1_0,r_1_1,()),()):=hr2;have er:=Xit (r_0,(r_1_0,r_1_1,()),()) hr3
 obtain⟨kr,y0,y1,l1,l2,hm,hh⟩:=Xid r_0 r_1_0 r_1_1 1 (by omega) (by omega) hr3
 have to0:=Xi7 a0 (by omega)
 have eq0:=Xhl a0 (by omega)
 obtain⟨k0,z0_0,z0_1,l0,u0,m0,_⟩:=Xjk a0.1 a0.2.1 1 (by omega) (by show _+((wt Xi a0:Nat):Int)≤_;omega) (by show wt Xi a0≤_;omega)
 have u0:k0≤1+((wt Xi a0:Nat):Int):=u0
 try simp only[Yxp] at m0
 have hsz:∀ g:Option Bool,g=some true→∀ b:Bool,cond b (some true) g=some true:=fun g h b=>by cases b<;>first | rfl | exact h
 simp only[Xd6]
 repeat' (first | with_reducible refine hsz _ ?_ _ | (rw[Option.bind_some]) | (obtain⟨q,hq⟩:=Xip a0 _ (by omega);rw[hq,Option.bind_some];clear hq))
 simp only[er,hm,hh,to0,eq0,m0,hr1,hr2,Yxp,Option.bind_some,Bool.not_true,Ywl,Ywx,Yvr,Yu9,Yvf,Ywn (by omega:0≤kr),Ywn (by omega:0≤k0)]
end Mf
