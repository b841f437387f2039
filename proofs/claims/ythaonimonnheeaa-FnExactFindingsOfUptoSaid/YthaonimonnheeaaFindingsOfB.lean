import Derived.Test.YthaonimonnheeaaFindingsOfA
noncomputable section
namespace Mf
open Go
set_option linter.unusedVariables false
set_option linter.unusedSimpArgs false
set_option maxRecDepth 100000
theorem Xho (a:(List Int)) (n:Int) (hw:wt (.sl (.int .i64)) a≤2147483648):∃ r,Zq0 a n=some r:=by
 simp only[Zq0]
 repeat' (first | with_reducible exact Ywo _ | with_reducible refine Ywq (Ywo _) fun _=>?_ | with_reducible apply Yww)
theorem Xio (a:Xc) (n:Int) (hw:wt Xe a≤2147483648):∃ r,Zq1 a n=some r:=by
 simp only[Zq1]
 repeat' (first | with_reducible exact Ywo _ | with_reducible refine Ywq (Ywo _) fun _=>?_ | with_reducible apply Yww)
theorem Xhs (a:(List Xc)) (n:Int) (hw:wt (.sl Xe) a≤2147483648):∃ r,Zq3 a n=some r:=by
 have hw2:=hw;simp only[Yt8,Ypv,Yw2,Ywu,Yrv,Ywt] at hw2
 have hl:a.length≤2147483648:=by have:=Ylh (wt Xe) (fun x=>by simp only[Yt8,Ypv,Yw2,Ywu,Yrv,Ywt];omega) a;omega
 have lp:∀ k,∃ r,Zq2 a (k,0)=some r:=fun k=>by
  refine Ysx (f:=fun s=>Zq2.B a s.1 s.2) (fun(i:Nat) (k:Int)=>(k,(i:Int))) a.length (fun i k hi=>?_) (fun k=>?_) a.length 0 k (by omega)
  ·have hm:=Ytv (wt Xe) a i hi
   have hb:inB (i:Int) a.length=true:=Yuq (by omega) (by omega)
   simp only[Zq2.B,Yxe hi,hb,Ywx,toNat_cast,getD_lt _ hi,Ywe (by omega:i<4294967296)]
   repeat' (first | with_reducible exact Yw1 _ | (with_reducible refine .inl ⟨_,rfl,?_⟩;exact⟨_,rfl⟩) | with_reducible refine Yvp (Xio _ _ (by first | omega | (simp only[Yt8,Ypv,Yw2,Ywu,Yrv,Ywt] at hm ⊢;omega))) fun _=>?_ | with_reducible refine Yvp (Ywo _) fun _=>?_ | with_reducible apply Yvx)
  ·refine⟨.inr k,?_⟩;simp only[Zq2.B,Yxg (Nat.le_refl _),Ywl]
 simp only[Zq3]
 repeat' (first | with_reducible exact Ywo _ | with_reducible refine Ywq (lp _) fun o=>?_ | with_reducible refine Ywq (Ywo _) fun _=>?_ | with_reducible apply Yww | (cases o<;>exact⟨_,rfl⟩))
theorem Xjf (a:Xb) (n:Int) (hw:wt Xd a≤2147483648):∃ r,Zq4 a n=some r:=by
 simp only[Zq4]
 repeat' (first | with_reducible exact Ywo _ | with_reducible refine Ywq (Xho _ _ (by first | omega | (simp only[Yt8,Ypv,Yw2,Ywu,Yrv,Ywt] at hw ⊢;omega))) fun _=>?_ | with_reducible refine Ywq (Xhs _ _ (by first | omega | (simp only[Yt8,Ypv,Yw2,Ywu,Yrv,Ywt] at hw ⊢;omega))) fun _=>?_ | with_reducible refine Ywq (Ywo _) fun _=>?_ | with_reducible apply Yww)
theorem Xit (a:(List Xb)) (n:Int) (hw:wt (.sl Xd) a≤2147483648):∃ r,Zq6 a n=some r:=by
 have hw2:=hw;simp only[Yt8,Ypv,Yw2,Ywu,Yrv,Ywt] at hw2
 have hl:a.length≤2147483648:=by have:=Ylh (wt Xd) (fun x=>by simp only[Yt8,Ypv,Yw2,Ywu,Yrv,Ywt];omega) a;omega
 have lp:∀ k,∃ r,Zq5 a (k,0)=some r:=fun k=>by
  refine Ysx (f:=fun s=>Zq5.B a s.1 s.2) (fun(i:Nat) (k:Int)=>(k,(i:Int))) a.length (fun i k hi=>?_) (fun k=>?_) a.length 0 k (by omega)
  ·have hm:=Ytv (wt Xd) a i hi
   have hb:inB (i:Int) a.length=true:=Yuq (by omega) (by omega)
   simp only[Zq5.B,Yxe hi,hb,Ywx,toNat_cast,getD_lt _ hi,Ywe (by omega:i<4294967296)]
   repeat' (first | with_reducible exact Yw1 _ | (with_reducible refine .inl ⟨_,rfl,?_⟩;exact⟨_,rfl⟩) | with_reducible refine Yvp (Xjf _ _ (by first | omega | (simp only[Yt8,Ypv,Yw2,Ywu,Yrv,Ywt] at hm ⊢;omega))) fun _=>?_ | with_reducible refine Yvp (Ywo _) fun _=>?_ | with_reducible apply Yvx)
  ·refine⟨.inr k,?_⟩;simp only[Zq5.B,Yxg (Nat.le_refl _),Ywl]
 simp only[Zq6]
 repeat' (first | with_reducible exact Ywo _ | with_reducible refine Ywq (lp _) fun o=>?_ | with_reducible refine Ywq (Ywo _) fun _=>?_ | with_reducible apply Yww | (cases o<;>exact⟨_,rfl⟩))
theorem Xjg (a:(List Int)) (n:Int) (hw:wt (.sl (.int .u8)) a≤2147483648):∃ r,Zq7 a n=some r:=by
 simp only[Zq7]
 repeat' (first | with_reducible exact Ywo _ | with_reducible refine Ywq (Ywo _) fun _=>?_ | with_reducible apply Yww)
theorem Xis (a:(List (List Int))) (n:Int) (hw:wt (.sl (.sl (.int .u8))) a≤2147483648):∃ r,Zq9 a n=some r:=by
 have hw2:=hw;simp only[Yt8,Ypv,Yw2,Ywu,Yrv,Ywt] at hw2
 have hl:a.length≤2147483648:=by have:=Ylh (wt (.sl (.int .u8))) (fun x=>by simp only[Yt8,Ypv,Yw2,Ywu,Yrv,Ywt];omega) a;omega
 have lp:∀ k,∃ r,Zq8 a (k,0)=some r:=fun k=>by
  refine Ysx (f:=fun s=>Zq8.B a s.1 s.2) (fun(i:Nat) (k:Int)=>(k,(i:Int))) a.length (fun i k hi=>?_) (fun k=>?_) a.length 0 k (by omega)
  ·have hm:=Ytv (wt (.sl (.int .u8))) a i hi
   have hb:inB (i:Int) a.length=true:=Yuq (by omega) (by omega)
   simp only[Zq8.B,Yxe hi,hb,Ywx,toNat_cast,getD_lt _ hi,Ywe (by omega:i<4294967296)]
   repeat' (first | with_reducible exact Yw1 _ | (with_reducible refine .inl ⟨_,rfl,?_⟩;exact⟨_,rfl⟩) | with_reducible refine Yvp (Xjg _ _ (by first | omega | (simp only[Yt8,Ypv,Yw2,Ywu,Yrv,Ywt] at hm ⊢;omega))) fun _=>?_ | with_reducible refine Yvp (Ywo _) fun _=>?_ | with_reducible apply Yvx)
  ·refine⟨.inr k,?_⟩;simp only[Zq8.B,Yxg (Nat.le_refl _),Ywl]
 simp only[Zq9]
 repeat' (first | with_reducible exact Ywo _ | with_reducible refine Ywq (lp _) fun o=>?_ | with_reducible refine Ywq (Ywo _) fun _=>?_ | with_reducible apply Yww | (cases o<;>exact⟨_,rfl⟩))
theorem Xhr (a:Fs_) (n:Int) (hw:wt Xi a≤2147483648):∃ r,Xe6 a n=some r:=by
 simp only[Xe6]
 repeat' (first | with_reducible exact Ywo _ | with_reducible refine Ywq (Xit _ _ (by first | omega | (simp only[Yt8,Ypv,Yw2,Ywu,Yrv,Ywt] at hw ⊢;omega))) fun _=>?_ | with_reducible refine Ywq (Xis _ _ (by first | omega | (simp only[Yt8,Ypv,Yw2,Ywu,Yrv,Ywt] at hw ⊢;omega))) fun _=>?_ | with_reducible refine Ywq (Ywo _) fun _=>?_ | with_reducible apply Yww)
theorem Xif (a:(List Int)) (hw:wt (.sl (.int .i64)) a≤2147483648):Xfh a=some a:=by
 have hw2:=hw;simp only[Yt8,Ypv,Yw2,Ywu,Yrv,Ywt] at hw2
 have hl:a.length≤2147483648:=by have:=Ylh (wt (.int .i64)) (fun x=>by simp only[Yt8,Ypv,Yw2,Ywu,Yrv,Ywt];omega) a;omega
 have lp:Xdr a (0,List.replicate (a.length:Int).toNat 0)=some a:=by
  refine Yvu a (fun s=>Xdr.B a s.1 s.2) 0 (fun i hi out ho=>?_) (fun out ho=>?_)
  ·have hm:=Ytv (wt (.int .i64)) a i hi
   have hb:inB (i:Int) a.length=true:=Yuq (by omega) (by omega)
   have hc:inB (i:Int) out.length=true:=Yuq (by omega) (by omega)
   simp only[Xdr.B,Yxe hi,hb,hc,Ywx,toNat_cast,getD_lt _ hi,Option.bind_some,Yxp,Ywe (by omega:i<4294967296)]
  ·simp only[Xdr.B];rw[show decide ((a.length:Int)<(a.length:Int))=false by simp];rfl
 simp only[Xfh]
 rw[show(decide ((0:Int)≤(a.length:Int))&&(decide ((a.length:Int)≤(a.length:Int))&&decide ((a.length:Int)≤2147483648)))=true by simp;omega]
 simp only[Ywx,Option.bind_some,lp]
theorem Xji (a:Xc) (hw:wt Xe a≤2147483648):Xe1 a=some a:=by
 obtain⟨x0,x1,⟨⟩⟩:=a;simp only[Yt8,Ypv,Yw2,Ywu,Yrv,Ywt] at hw;simp only[Xe1,Option.bind_some,Yxp]
theorem Xi3 (a:(List Xc)) (hw:wt (.sl Xe) a≤2147483648):Xdw a=some a:=by
 have hw2:=hw;simp only[Yt8,Ypv,Yw2,Ywu,Yrv,Ywt] at hw2
 have hl:a.length≤2147483648:=by have:=Ylh (wt Xe) (fun x=>by simp only[Yt8,Ypv,Yw2,Ywu,Yrv,Ywt];omega) a;omega
 have lp:Xdn a (0,List.replicate (a.length:Int).toNat Xh)=some a:=by
  refine Yvu a (fun s=>Xdn.B a s.1 s.2) Xh (fun i hi out ho=>?_) (fun out ho=>?_)
  ·have hm:=Ytv (wt Xe) a i hi
   have hb:inB (i:Int) a.length=true:=Yuq (by omega) (by omega)
   have hc:inB (i:Int) out.length=true:=Yuq (by omega) (by omega)
   have h0:=Xji a[i] (by omega)
   simp only[Xdn.B,Yxe hi,hb,hc,Ywx,toNat_cast,getD_lt _ hi,h0,Option.bind_some,Yxp,Ywe (by omega:i<4294967296)]
  ·simp only[Xdn.B];rw[show decide ((a.length:Int)<(a.length:Int))=false by simp];rfl
 simp only[Xdw]
 rw[show(decide ((0:Int)≤(a.length:Int))&&(decide ((a.length:Int)≤(a.length:Int))&&decide ((a.length:Int)≤2147483648)))=true by simp;omega]
 simp only[Ywx,Option.bind_some,lp]
theorem Xjh (a:Xb) (hw:wt Xd a≤2147483648):Xe5 a=some a:=by
 obtain⟨x0,x1,x2,x3,x4,⟨⟩⟩:=a;simp only[Yt8,Ypv,Yw2,Ywu,Yrv,Ywt] at hw
 have h_x3_0:=Xif x3 (by simp only[Yt8,Ypv,Yw2,Ywu,Yrv,Ywt];omega)
 have h_x4_1:=Xi3 x4 (by simp only[Yt8,Ypv,Yw2,Ywu,Yrv,Ywt];omega)
 simp only[Xe5,h_x3_0,h_x4_1,Option.bind_some,Yxp]
theorem Xh9 (a:(List Xb)) (hw:wt (.sl Xd) a≤2147483648):Xde a=some a:=by
 have hw2:=hw;simp only[Yt8,Ypv,Yw2,Ywu,Yrv,Ywt] at hw2
 have hl:a.length≤2147483648:=by have:=Ylh (wt Xd) (fun x=>by simp only[Yt8,Ypv,Yw2,Ywu,Yrv,Ywt];omega) a;omega
 have lp:Xdh a (0,List.replicate (a.length:Int).toNat Xa)=some a:=by
  refine Yvu a (fun s=>Xdh.B a s.1 s.2) Xa (fun i hi out ho=>?_) (fun out ho=>?_)
  ·have hm:=Ytv (wt Xd) a i hi
   have hb:inB (i:Int) a.length=true:=Yuq (by omega) (by omega)
   have hc:inB (i:Int) out.length=true:=Yuq (by omega) (by omega)
   have h0:=Xjh a[i] (by omega)
   simp only[Xdh.B,Yxe hi,hb,hc,Ywx,toNat_cast,getD_lt _ hi,h0,Option.bind_some,Yxp,Ywe (by omega:i<4294967296)]
  ·simp only[Xdh.B];rw[show decide ((a.length:Int)<(a.length:Int))=false by simp];rfl
 simp only[Xde]
 rw[show(decide ((0:Int)≤(a.length:Int))&&(decide ((a.length:Int)≤(a.length:Int))&&decide ((a.length:Int)≤2147483648)))=true by simp;omega]
 simp only[Ywx,Option.bind_some,lp]
theorem Xil (a:(List Int)) (hw:wt (.sl (.int .u8)) a≤2147483648):Xex a=some a:=by
 have hw2:=hw;simp only[Yt8,Ypv,Yw2,Ywu,Yrv,Ywt] at hw2
 have hl:a.length≤2147483648:=by have:=Ylh (wt (.int .u8)) (fun x=>by simp only[Yt8,Ypv,Yw2,Ywu,Yrv,Ywt];omega) a;omega
 have lp:Xdg a (0,List.replicate (a.length:Int).toNat 0)=some a:=by
  refine Yvu a (fun s=>Xdg.B a s.1 s.2) 0 (fun i hi out ho=>?_) (fun out ho=>?_)
  ·have hm:=Ytv (wt (.int .u8)) a i hi
   have hb:inB (i:Int) a.length=true:=Yuq (by omega) (by omega)
   have hc:inB (i:Int) out.length=true:=Yuq (by omega) (by omega)
   simp only[Xdg.B,Yxe hi,hb,hc,Ywx,toNat_cast,getD_lt _ hi,Option.bind_some,Yxp,Ywe (by omega:i<4294967296)]
  ·simp only[Xdg.B];rw[show decide ((a.length:Int)<(a.length:Int))=false by simp];rfl
 simp only[Xex]
 rw[show(decide ((0:Int)≤(a.length:Int))&&(decide ((a.length:Int)≤(a.length:Int))&&decide ((a.length:Int)≤2147483648)))=true by simp;omega]
 simp only[Ywx,Option.bind_some,lp]
theorem Xhw (a:(List (List Int))) (hw:wt (.sl (.sl (.int .u8))) a≤2147483648):Xdb a=some a:=by
 have hw2:=hw;simp only[Yt8,Ypv,Yw2,Ywu,Yrv,Ywt] at hw2
 have hl:a.length≤2147483648:=by have:=Ylh (wt (.sl (.int .u8))) (fun x=>by simp only[Yt8,Ypv,Yw2,Ywu,Yrv,Ywt];omega) a;omega
 have lp:Xc6 a (0,List.replicate (a.length:Int).toNat ([]:List Int))=some a:=by
  refine Yvu a (fun s=>Xc6.B a s.1 s.2) [] (fun i hi out ho=>?_) (fun out ho=>?_)
  ·have hm:=Ytv (wt (.sl (.int .u8))) a i hi
   have hb:inB (i:Int) a.length=true:=Yuq (by omega) (by omega)
   have hc:inB (i:Int) out.length=true:=Yuq (by omega) (by omega)
   have h0:=Xil a[i] (by omega)
   simp only[Xc6.B,Yxe hi,hb,hc,Ywx,toNat_cast,getD_lt _ hi,h0,Option.bind_some,Yxp,Ywe (by omega:i<4294967296)]
  ·simp only[Xc6.B];rw[show decide ((a.length:Int)<(a.length:Int))=false by simp];rfl
 simp only[Xdb]
 rw[show(decide ((0:Int)≤(a.length:Int))&&(decide ((a.length:Int)≤(a.length:Int))&&decide ((a.length:Int)≤2147483648)))=true by simp;omega]
 simp only[Ywx,Option.bind_some,lp]
theorem Xi0 (a:Fs_) (hw:wt Xi a≤2147483648):Xd7 a=some a:=by
 obtain⟨x0,x1,⟨⟩⟩:=a;simp only[Yt8,Ypv,Yw2,Ywu,Yrv,Ywt] at hw
 have h_x0_0:=Xh9 x0 (by simp only[Yt8,Ypv,Yw2,Ywu,Yrv,Ywt];omega)
 have h_x1_1:=Xhw x1 (by simp only[Yt8,Ypv,Yw2,Ywu,Yrv,Ywt];omega)
 simp only[Xd7,h_x0_0,h_x1_1,Option.bind_some,Yxp]
theorem Xhb (a:(List Int)) (hw:wt (.sl (.int .i64)) a≤2147483648):Xbk a a=some true:=by
 have hw2:=hw;simp only[Yt8,Ypv,Yw2,Ywu,Yrv,Ywt] at hw2
 have hl:a.length≤2147483648:=by have:=Ylh (wt (.int .i64)) (fun x=>by simp only[Yt8,Ypv,Yw2,Ywu,Yrv,Ywt];omega) a;omega
 have lp:Xbd a a 0=some (.inr ()):=by
  refine Yvk (n:=a.length) (fun s=>Xbd.B a a s) (fun i hi=>?_) ?_
  ·have hm:=Ytv (wt (.int .i64)) a i hi
   have hb:inB (i:Int) a.length=true:=Yuq (by omega) (by omega)
   simp only[Xbd.B,Yxe hi,hb,Ywx,Ywl,toNat_cast,getD_lt _ hi,Option.bind_some,Bool.not_true,Yvr,Yvf,Yu9,Ywe (by omega:i<4294967296)]
  ·simp only[Xbd.B,Yxg (Nat.le_refl _),Ywl]
 simp only[Xbk,Yvr,Ywl,lp,Option.bind_some,sel]
theorem Xi5 (a:Xp) (hw:wt Xk a≤2147483648):Xbo a a=some true:=by
 obtain⟨x0,x1,⟨⟩⟩:=a;simp only[Yt8,Ypv,Yw2,Ywu,Yrv,Ywt] at hw
 have h_x1_0:=Xhb x1 (by simp only[Yt8,Ypv,Yw2,Ywu,Yrv,Ywt];omega)
 simp only[Xbo,h_x1_0,Option.bind_some,Bool.not_true,Yvr,Yvf,Yu9,Ywl,Ywx]
theorem Xii (a:Xc) (hw:wt Xe a≤2147483648):Xcv a a=some true:=by
 obtain⟨x0,x1,⟨⟩⟩:=a;simp only[Yt8,Ypv,Yw2,Ywu,Yrv,Ywt] at hw;simp only[Xcv,Option.bind_some,Bool.not_true,Yvr,Yvf,Yu9,Ywl,Ywx]
theorem Xid (a:(List Xc)) (hw:wt (.sl Xe) a≤2147483648):Xau a a=some true:=by
 have hw2:=hw;simp only[Yt8,Ypv,Yw2,Ywu,Yrv,Ywt] at hw2
 have hl:a.length≤2147483648:=by have:=Ylh (wt Xe) (fun x=>by simp only[Yt8,Ypv,Yw2,Ywu,Yrv,Ywt];omega) a;omega
 have lp:Xbc a a 0=some (.inr ()):=by
  refine Yvk (n:=a.length) (fun s=>Xbc.B a a s) (fun i hi=>?_) ?_
  ·have hm:=Ytv (wt Xe) a i hi
   have hb:inB (i:Int) a.length=true:=Yuq (by omega) (by omega)
   have h0:=Xii a[i] (by omega)
   simp only[Xbc.B,Yxe hi,hb,Ywx,Ywl,toNat_cast,getD_lt _ hi,h0,Option.bind_some,Bool.not_true,Yvr,Yvf,Yu9,Ywe (by omega:i<4294967296)]
  ·simp only[Xbc.B,Yxg (Nat.le_refl _),Ywl]
 simp only[Xau,Yvr,Ywl,lp,Option.bind_some,sel]
theorem Xh0 (a:Xb) (hw:wt Xd a≤2147483648):Xci a a=some true:=by
 obtain⟨x0,x1,x2,x3,x4,⟨⟩⟩:=a;simp only[Yt8,Ypv,Yw2,Ywu,Yrv,Ywt] at hw
 have h_x3_0:=Xhb x3 (by simp only[Yt8,Ypv,Yw2,Ywu,Yrv,Ywt];omega)
 have h_x4_1:=Xid x4 (by simp only[Yt8,Ypv,Yw2,Ywu,Yrv,Ywt];omega)
 simp only[Xci,h_x3_0,h_x4_1,Option.bind_some,Bool.not_true,Yvr,Yvf,Yu9,Ywl,Ywx]
theorem Xij (a:(List Xb)) (hw:wt (.sl Xd) a≤2147483648):Xa6 a a=some true:=by
 have hw2:=hw;simp only[Yt8,Ypv,Yw2,Ywu,Yrv,Ywt] at hw2
 have hl:a.length≤2147483648:=by have:=Ylh (wt Xd) (fun x=>by simp only[Yt8,Ypv,Yw2,Ywu,Yrv,Ywt];omega) a;omega
 have lp:Xa2 a a 0=some (.inr ()):=by
  refine Yvk (n:=a.length) (fun s=>Xa2.B a a s) (fun i hi=>?_) ?_
  ·have hm:=Ytv (wt Xd) a i hi
   have hb:inB (i:Int) a.length=true:=Yuq (by omega) (by omega)
   have h0:=Xh0 a[i] (by omega)
   simp only[Xa2.B,Yxe hi,hb,Ywx,Ywl,toNat_cast,getD_lt _ hi,h0,Option.bind_some,Bool.not_true,Yvr,Yvf,Yu9,Ywe (by omega:i<4294967296)]
  ·simp only[Xa2.B,Yxg (Nat.le_refl _),Ywl]
 simp only[Xa6,Yvr,Ywl,lp,Option.bind_some,sel]
theorem Xiy (a:(List Int)) (hw:wt (.sl (.int .u8)) a≤2147483648):Xcu a a=some true:=by
 have hw2:=hw;simp only[Yt8,Ypv,Yw2,Ywu,Yrv,Ywt] at hw2
 have hl:a.length≤2147483648:=by have:=Ylh (wt (.int .u8)) (fun x=>by simp only[Yt8,Ypv,Yw2,Ywu,Yrv,Ywt];omega) a;omega
 have lp:Xa5 a a 0=some (.inr ()):=by
  refine Yvk (n:=a.length) (fun s=>Xa5.B a a s) (fun i hi=>?_) ?_
  ·have hm:=Ytv (wt (.int .u8)) a i hi
   have hb:inB (i:Int) a.length=true:=Yuq (by omega) (by omega)
   simp only[Xa5.B,Yxe hi,hb,Ywx,Ywl,toNat_cast,getD_lt _ hi,Option.bind_some,Bool.not_true,Yvr,Yvf,Yu9,Ywe (by omega:i<4294967296)]
  ·simp only[Xa5.B,Yxg (Nat.le_refl _),Ywl]
 simp only[Xcu,Yvr,Ywl,lp,Option.bind_some,sel]
theorem Xi6 (a:(List (List Int))) (hw:wt (.sl (.sl (.int .u8))) a≤2147483648):Xav a a=some true:=by
 have hw2:=hw;simp only[Yt8,Ypv,Yw2,Ywu,Yrv,Ywt] at hw2
 have hl:a.length≤2147483648:=by have:=Ylh (wt (.sl (.int .u8))) (fun x=>by simp only[Yt8,Ypv,Yw2,Ywu,Yrv,Ywt];omega) a;omega
 have lp:Xa7 a a 0=some (.inr ()):=by
  refine Yvk (n:=a.length) (fun s=>Xa7.B a a s) (fun i hi=>?_) ?_
  ·have hm:=Ytv (wt (.sl (.int .u8))) a i hi
   have hb:inB (i:Int) a.length=true:=Yuq (by omega) (by omega)
   have h0:=Xiy a[i] (by omega)
   simp only[Xa7.B,Yxe hi,hb,Ywx,Ywl,toNat_cast,getD_lt _ hi,h0,Option.bind_some,Bool.not_true,Yvr,Yvf,Yu9,Ywe (by omega:i<4294967296)]
  ·simp only[Xa7.B,Yxg (Nat.le_refl _),Ywl]
 simp only[Xav,Yvr,Ywl,lp,Option.bind_some,sel]
theorem Xh4 (a:Fs_) (hw:wt Xi a≤2147483648):Xcf a a=some true:=by
 obtain⟨x0,x1,⟨⟩⟩:=a;simp only[Yt8,Ypv,Yw2,Ywu,Yrv,Ywt] at hw
 have h_x0_0:=Xij x0 (by simp only[Yt8,Ypv,Yw2,Ywu,Yrv,Ywt];omega)
 have h_x1_1:=Xi6 x1 (by simp only[Yt8,Ypv,Yw2,Ywu,Yrv,Ywt];omega)
 simp only[Xcf,h_x0_0,h_x1_1,Option.bind_some,Bool.not_true,Yvr,Yvf,Yu9,Ywl,Ywx]
theorem Xhe:∀ (n:Nat) (k:Int) (out:List UInt8),0≤k→k<10 ^ n→out.length+n≤2147483648→k≤4611686018427387904→∃ s,Xa3 (k,out)=some s∧s.length≤out.length+n
 |0,k,out,h0,h1,h2,h3=>by
  have:k=0:=by simp at h1;omega
  subst this
  exact⟨out,Y5 (by simp only[Xa3.B];rfl),by omega⟩
 |n+1,k,out,h0,h1,h2,h3=>by
  by_cases hk:k=0
  ·subst hk;exact⟨out,Y5 (by simp only[Xa3.B];rfl),by omega⟩
  ·have hd:k.tdiv 10=k / 10:=Int.tdiv_eq_ediv_of_nonneg h0
   have hq:w64 (k / 10)=k / 10:=Yrz (by omega) (by omega)
   have hp:k / 10<10 ^ n:=by rw[Int.pow_succ] at h1;omega
   obtain⟨s,hs,hl⟩:=Xhe n (k / 10) ((([IntKind.u8.wrap (w64 ((48:Int)+(k.tmod 10)))]).map fun n=>UInt8.ofNat n.toNat)++out) (by omega) hp (by simp;omega) (by omega)
   refine⟨s,?_,by simp at hl;omega⟩
   rw[←hs];refine Yar (s':=(k / 10,_)) ?_
   simp only[Xa3.B,show decide (k>0)=true by simp;omega,Ywx,show(!((10:Int) == 0))=true from rfl,Option.bind_some,hd,hq]
   rw[show decide ((([IntKind.u8.wrap (w64 ((48:Int)+(k.tmod 10)))]).map fun n=>UInt8.ofNat n.toNat).length+out.length≤2147483648)=true by simp;omega]
   rfl
theorem Xiq (k:Int) (h:0≤k) (hk:k≤4611686018427387904):∃ s,Xco k=some s:=by
 obtain⟨s,hs,hl⟩:=Xhe 19 k [] h (by omega) (by simp) hk
 simp only[Xco];cases decide (k≤0)
 ·simp only[Ywl,hs,Option.bind_some]
  rw[show decide (([109]:List UInt8).length+s.length≤2147483648)=true by simp at hl ⊢;omega]
  exact⟨_,rfl⟩
 ·exact⟨_,rfl⟩
theorem Xhy (a:(List Xc)) (k:Int) (hk:0≤k) (hw:k+wt (.sl Xe) a≤4611686018427387904) (hz:wt (.sl Xe) a≤2147483648):MK Xa1 (wt (.sl Xe) a) a k:=by
 simp only[Yt8,Ypv,Yw2,Ywu,Yrv,Ywt] at hw hz
 have hl:a.length≤2147483648:=by have:=Ylh (wt Xe) (fun x=>by simp only[Yt8,Ypv,Yw2,Ywu,Yrv,Ywt];omega) a;omega
 have hs:∀ (k:Int) (i:Nat) (a:(List Xc)) (h:i<a.length),a.length≤2147483648→0≤k→k+wt Xe a[i]≤4611686018427387904→wt Xe a[i]≤2147483648→∃ k2 x2,k≤k2∧k2≤k+wt Xe a[i]∧Xao.B k (i:Int) a=some (.inl (k2,((i+1:Nat):Int),a.set i x2)):=by
  clear hw hz hl hk k a;intro k i a hi hl hk hw hz
  have hb:inB (i:Int) a.length=true:=Yuq (by omega) (by omega)
  simp only[Yt8,Ypv,Yw2,Ywu,Yrv,Ywt] at hw hz
  obtain⟨s1,w1⟩:=Xiq (k) (by omega) (by omega)
  have w2:w64 (k+1)=k+1:=Yxo (by omega) (by omega)
  have w3:w64 (k+1+1)=k+1+1:=Yxo (by omega) (by omega)
  refine⟨k+1+1,(s1,k+1,()),by omega,by simp only[Yt8,Ypv,Yw2,Ywu,Yrv,Ywt];omega,?_⟩
  simp only[Xao.B,Yxe hi,hb,Ywx,toNat_cast,getD_lt _ hi,Option.bind_some,w1,w2,w3,Ywe (by omega:i<4294967296),List.set_set,List.length_set,Yvs _ _ hi,show(!((3:Int) == 0))=true from rfl]
 obtain⟨k2,a2,e1,e2,e3⟩:=Yu8 (wt Xe) 4611686018427387904 (fun s=>Xao.B s.1 s.2.1 s.2.2) (fun k a=>by simp only[Xao.B,Yxg (Nat.le_refl _),Ywl]) hs k a hl hk (by omega) (by omega)
 refine⟨k2,a2,e1,by simp only[Yt8,Ypv,Yw2,Ywu,Yrv,Ywt];omega,?_⟩
 have:Xao (k,0,a)=some (k2,a2):=e3;simp only[Xa1,this,Option.bind_some]
theorem Xhg (a:(List Int)) (k:Int) (hk:0≤k) (hw:k+wt (.sl (.int .i64)) a≤4611686018427387904) (hz:wt (.sl (.int .i64)) a≤2147483648):MH Xbi Xcr (wt (.sl (.int .i64)) a) a k:=by
 simp only[Yt8,Ypv,Yw2,Ywu,Yrv,Ywt] at hw hz
 have hl:a.length≤2147483648:=by have:=Ylh (wt (.int .i64)) (fun x=>by simp only[Yt8,Ypv,Yw2,Ywu,Yrv,Ywt];omega) a;omega
 have hs:∀ (k:Int) (i:Nat) (a:(List Int)) (h:i<a.length),a.length≤2147483648→0≤k→k+wt (.int .i64) a[i]≤4611686018427387904→wt (.int .i64) a[i]≤2147483648→∃ k2 x2,k≤k2∧k2≤k+wt (.int .i64) a[i]∧Xap.B k (i:Int) a=some (.inl (k2,((i+1:Nat):Int),a.set i x2))∧∀ b:(List Int),b.length=a.length→b[i]? = some x2→Xaj.B b k (i:Int)=some (.inl (k2,((i+1:Nat):Int))):=by
  clear hw hz hl hk k a;intro k i a hi hl hk hw hz
  have hb:inB (i:Int) a.length=true:=Yuq (by omega) (by omega)
  simp only[Yt8,Ypv,Yw2,Ywu,Yrv,Ywt] at hw hz
  have w1:w64 (k+1)=k+1:=Yxo (by omega) (by omega)
  refine⟨k+1,k,by omega,by simp only[Yt8,Ypv,Yw2,Ywu,Yrv,Ywt];omega,?_,fun b hlb hx=>?_⟩
  ·simp only[Xap.B,Yxe hi,hb,Ywx,toNat_cast,getD_lt _ hi,Option.bind_some,w1,Ywe (by omega:i<4294967296),List.set_set,List.length_set,Yvs _ _ hi,show(!((3:Int) == 0))=true from rfl]
  ·have hc:inB (i:Int) b.length=true:=Yuq (by omega) (by omega)
   have hd:decide ((i:Int)<(b.length:Int))=true:=Yxe (by omega)
   simp only[Xaj.B,hd,hc,Ywx,Ywl,toNat_cast,Yws _ hx,Option.bind_some,Yvr,Yvf,Yu9,Bool.not_true,w1,Ywe (by omega:i<4294967296),List.set_set,List.length_set,Yvs _ _ hi,show(!((3:Int) == 0))=true from rfl]
 obtain⟨k2,a2,e1,e2,e3,e4⟩:=Yuk (wt (.int .i64)) 4611686018427387904 (fun s=>Xap.B s.1 s.2.1 s.2.2) (fun b s=>Xaj.B b s.1 s.2) (fun k a=>by simp only[Xap.B,Yxg (Nat.le_refl _),Ywl]) (fun k a=>by simp only[Xaj.B,Yxg (Nat.le_refl _),Ywl]) hs k a hl hk (by omega) (by omega)
 refine⟨k2,a2,e1,by simp only[Yt8,Ypv,Yw2,Ywu,Yrv,Ywt];omega,?_,?_⟩
 ·have:Xap (k,0,a)=some (k2,a2):=e3
  simp only[Xbi,this,Option.bind_some]
 ·have:Xaj a2 (k,0)=some (.inr k2):=e4
  simp only[Xcr,this,Option.bind_some,sel]
theorem Xiw (a:(List Xb)) (k:Int) (hk:0≤k) (hw:k+wt (.sl Xd) a≤4611686018427387904) (hz:wt (.sl Xd) a≤2147483648):MK Xa9 (wt (.sl Xd) a) a k:=by
 simp only[Yt8,Ypv,Yw2,Ywu,Yrv,Ywt] at hw hz
 have hl:a.length≤2147483648:=by have:=Ylh (wt Xd) (fun x=>by simp only[Yt8,Ypv,Yw2,Ywu,Yrv,Ywt];omega) a;omega
 have hs:∀ (k:Int) (i:Nat) (a:(List Xb)) (h:i<a.length),a.length≤2147483648→0≤k→k+wt Xd a[i]≤4611686018427387904→wt Xd a[i]≤2147483648→∃ k2 x2,k≤k2∧k2≤k+wt Xd a[i]∧Xah.B k (i:Int) a=some (.inl (k2,((i+1:Nat):Int),a.set i x2)):=by
  clear hw hz hl hk k a;intro k i a hi hl hk hw hz
  have hb:inB (i:Int) a.length=true:=Yuq (by omega) (by omega)
  simp only[Yt8,Ypv,Yw2,Ywu,Yrv,Ywt] at hw hz
  have w1:w64 (k+1)=k+1:=Yxo (by omega) (by omega)
  have w2:w64 (k+1+1)=k+1+1:=Yxo (by omega) (by omega)
  have w3:w64 (k+1+1+1)=k+1+1+1:=Yxo (by omega) (by omega)
  obtain⟨k4,y4,l4,u4,w4⟩:=MH.mk (Xhg a[i].2.2.2.1 (k+1+1+1) (by omega) (by simp only[Yt8,Ypv,Yw2,Ywu,Yrv,Ywt];omega) (by simp only[Yt8,Ypv,Yw2,Ywu,Yrv,Ywt];omega))
  simp only[Yt8,Ypv,Yw2,Ywu,Yrv,Ywt] at u4
  obtain⟨k5,y5,l5,u5,w5⟩:=id (Xhy a[i].2.2.2.2.1 (k4) (by omega) (by simp only[Yt8,Ypv,Yw2,Ywu,Yrv,Ywt];omega) (by simp only[Yt8,Ypv,Yw2,Ywu,Yrv,Ywt];omega))
  simp only[Yt8,Ypv,Yw2,Ywu,Yrv,Ywt] at u5
  refine⟨k5,(k,k+1,k+1+1,y4,y5,()),by omega,by simp only[Yt8,Ypv,Yw2,Ywu,Yrv,Ywt];omega,?_⟩
  simp only[Xah.B,Yxe hi,hb,Ywx,toNat_cast,getD_lt _ hi,Option.bind_some,w1,w2,w3,w4,w5,Ywe (by omega:i<4294967296),List.set_set,List.length_set,Yvs _ _ hi,show(!((3:Int) == 0))=true from rfl]
 obtain⟨k2,a2,e1,e2,e3⟩:=Yu8 (wt Xd) 4611686018427387904 (fun s=>Xah.B s.1 s.2.1 s.2.2) (fun k a=>by simp only[Xah.B,Yxg (Nat.le_refl _),Ywl]) hs k a hl hk (by omega) (by omega)
 refine⟨k2,a2,e1,by simp only[Yt8,Ypv,Yw2,Ywu,Yrv,Ywt];omega,?_⟩
 have:Xah (k,0,a)=some (k2,a2):=e3;simp only[Xa9,this,Option.bind_some]
theorem Xiz (a:(List Int)) (k:Int) (hk:0≤k) (hw:k+wt (.sl (.int .u8)) a≤4611686018427387904) (hz:wt (.sl (.int .u8)) a≤2147483648):MK Xcx (wt (.sl (.int .u8)) a) a k:=by
 simp only[Yt8,Ypv,Yw2,Ywu,Yrv,Ywt] at hw hz
 have hl:a.length≤2147483648:=by have:=Ylh (wt (.int .u8)) (fun x=>by simp only[Yt8,Ypv,Yw2,Ywu,Yrv,Ywt];omega) a;omega
 have hs:∀ (k:Int) (i:Nat) (a:(List Int)) (h:i<a.length),a.length≤2147483648→0≤k→k+wt (.int .u8) a[i]≤4611686018427387904→wt (.int .u8) a[i]≤2147483648→∃ k2 x2,k≤k2∧k2≤k+wt (.int .u8) a[i]∧Xak.B k (i:Int) a=some (.inl (k2,((i+1:Nat):Int),a.set i x2)):=by
  clear hw hz hl hk k a;intro k i a hi hl hk hw hz
  have hb:inB (i:Int) a.length=true:=Yuq (by omega) (by omega)
  simp only[Yt8,Ypv,Yw2,Ywu,Yrv,Ywt] at hw hz
  have w1:w64 (k+1)=k+1:=Yxo (by omega) (by omega)
  refine⟨k+1,(IntKind.u8.wrap (k)),by omega,by simp only[Yt8,Ypv,Yw2,Ywu,Yrv,Ywt];omega,?_⟩
  simp only[Xak.B,Yxe hi,hb,Ywx,toNat_cast,getD_lt _ hi,Option.bind_some,w1,Ywe (by omega:i<4294967296),List.set_set,List.length_set,Yvs _ _ hi,show(!((3:Int) == 0))=true from rfl]
 obtain⟨k2,a2,e1,e2,e3⟩:=Yu8 (wt (.int .u8)) 4611686018427387904 (fun s=>Xak.B s.1 s.2.1 s.2.2) (fun k a=>by simp only[Xak.B,Yxg (Nat.le_refl _),Ywl]) hs k a hl hk (by omega) (by omega)
 refine⟨k2,a2,e1,by simp only[Yt8,Ypv,Yw2,Ywu,Yrv,Ywt];omega,?_⟩
 have:Xak (k,0,a)=some (k2,a2):=e3;simp only[Xcx,this,Option.bind_some]
theorem Xip (a:(List (List Int))) (k:Int) (hk:0≤k) (hw:k+wt (.sl (.sl (.int .u8))) a≤4611686018427387904) (hz:wt (.sl (.sl (.int .u8))) a≤2147483648):MK Xaz (wt (.sl (.sl (.int .u8))) a) a k:=by
 simp only[Yt8,Ypv,Yw2,Ywu,Yrv,Ywt] at hw hz
 have hl:a.length≤2147483648:=by have:=Ylh (wt (.sl (.int .u8))) (fun x=>by simp only[Yt8,Ypv,Yw2,Ywu,Yrv,Ywt];omega) a;omega
 have hs:∀ (k:Int) (i:Nat) (a:(List (List Int))) (h:i<a.length),a.length≤2147483648→0≤k→k+wt (.sl (.int .u8)) a[i]≤4611686018427387904→wt (.sl (.int .u8)) a[i]≤2147483648→∃ k2 x2,k≤k2∧k2≤k+wt (.sl (.int .u8)) a[i]∧Xan.B k (i:Int) a=some (.inl (k2,((i+1:Nat):Int),a.set i x2)):=by
  clear hw hz hl hk k a;intro k i a hi hl hk hw hz
  have hb:inB (i:Int) a.length=true:=Yuq (by omega) (by omega)
  simp only[Yt8,Ypv,Yw2,Ywu,Yrv,Ywt] at hw hz
  obtain⟨k1,y1,l1,u1,w1⟩:=id (Xiz a[i] (k) (by omega) (by simp only[Yt8,Ypv,Yw2,Ywu,Yrv,Ywt];omega) (by simp only[Yt8,Ypv,Yw2,Ywu,Yrv,Ywt];omega))
  simp only[Yt8,Ypv,Yw2,Ywu,Yrv,Ywt] at u1
  refine⟨k1,y1,by omega,by simp only[Yt8,Ypv,Yw2,Ywu,Yrv,Ywt];omega,?_⟩
  simp only[Xan.B,Yxe hi,hb,Ywx,toNat_cast,getD_lt _ hi,Option.bind_some,w1,Ywe (by omega:i<4294967296),List.set_set,List.length_set,Yvs _ _ hi,show(!((3:Int) == 0))=true from rfl]
 obtain⟨k2,a2,e1,e2,e3⟩:=Yu8 (wt (.sl (.int .u8))) 4611686018427387904 (fun s=>Xan.B s.1 s.2.1 s.2.2) (fun k a=>by simp only[Xan.B,Yxg (Nat.le_refl _),Ywl]) hs k a hl hk (by omega) (by omega)
 refine⟨k2,a2,e1,by simp only[Yt8,Ypv,Yw2,Ywu,Yrv,Ywt];omega,?_⟩
 have:Xan (k,0,a)=some (k2,a2):=e3;simp only[Xaz,this,Option.bind_some]
theorem Xh3 (x_0:List Xb) (x_1:List (List Int)) (k:Int) (hk:0≤k) (hw:k+wt Xi (x_0,x_1,())≤4611686018427387904) (hz:wt Xi (x_0,x_1,())≤2147483648):∃ k2 y0 y1,k≤k2∧k2≤k+wt Xi (x_0,x_1,())∧Xch (x_0,x_1,()) k=some (k2,(y0,y1,())):=by
 simp only[Yt8,Ypv,Yw2,Ywu,Yrv,Ywt] at hw hz
 obtain⟨k0,y0,l0,u0,w0⟩:=id (Xiw x_0 k (by omega) (by simp only[Yt8,Ypv,Yw2,Ywu,Yrv,Ywt];omega) (by simp only[Yt8,Ypv,Yw2,Ywu,Yrv,Ywt];omega))
 simp only[Yt8,Ypv,Yw2,Ywu,Yrv,Ywt] at u0
 obtain⟨k1,y1,l1,u1,w1⟩:=id (Xip x_1 k0 (by omega) (by simp only[Yt8,Ypv,Yw2,Ywu,Yrv,Ywt];omega) (by simp only[Yt8,Ypv,Yw2,Ywu,Yrv,Ywt];omega))
 simp only[Yt8,Ypv,Yw2,Ywu,Yrv,Ywt] at u1
 refine⟨k1,y0,y1,by omega,by simp only[Yt8,Ypv,Yw2,Ywu,Yrv,Ywt];omega,?_⟩
 simp only[Xch,w0,w1,Option.bind_some,Yxp]
theorem Xi9 (x_0:Int) (x_1:List Int) (k:Int) (hk:0≤k) (hw:k+wt Xk (x_0,x_1,())≤4611686018427387904) (hz:wt Xk (x_0,x_1,())≤2147483648):∃ k2 y0,k≤k2∧k2≤k+wt Xk (x_0,x_1,())∧Xcw (x_0,x_1,()) k=some (k2,(x_0,y0,()))∧Xb7 (x_0,y0,()) k=some k2:=by
 simp only[Yt8,Ypv,Yw2,Ywu,Yrv,Ywt] at hw hz
 obtain⟨k0,y0,l0,u0,w0,v0⟩:=Xhg x_1 k (by omega) (by simp only[Yt8,Ypv,Yw2,Ywu,Yrv,Ywt];omega) (by simp only[Yt8,Ypv,Yw2,Ywu,Yrv,Ywt];omega)
 simp only[Yt8,Ypv,Yw2,Ywu,Yrv,Ywt] at u0
 refine⟨k0,y0,by omega,by simp only[Yt8,Ypv,Yw2,Ywu,Yrv,Ywt];omega,?_,?_⟩
 ·simp only[Xcw,w0,Option.bind_some,Yxp]
 ·simp only[Xb7,v0,Option.bind_some,Ywl,Ywn (by omega:0≤k0)]
def inR (v lo hi:Int):Bool:=cond (decide (v≥lo)) (decide (v≤hi)) false
theorem Xby {v lo hi:Int}:inR v lo hi=true↔lo≤v∧v≤hi:=by
 unfold inR;by_cases h:v≥lo<;>simp[h]<;>omega
theorem Xf8 (v lo hi:Int):Xas v lo hi=some (inR v lo hi):=rfl
theorem Xgi (v lo hi:Int):Xbm v lo hi=some (inR v lo hi):=rfl
theorem Xew {α:Type} (p:α→Bool) (l:List α):((some (match Yl1 p 0 l with | some j=>.inl (j:Int) | none=>.inr ():Int⊕Unit)).bind fun o=>sel o (fun b=>some b) (fun c=>some (-1))).bind (fun r=>some (decide (r≥0)))=some (l.any p):=by
 cases h:Yl1 p 0 l with
 |none=>rw[Yqq.1 h];rfl
 |some j=>
  have:l.any p=true:=by
   cases ha:l.any p with
   |true=>rfl
   |false=>rw[Yqq.2 ha] at h;cases h
  rw[this];simp[sel]
theorem Xbx (n:Int) (g:Option Int):((some (cond (n != 0) (.inl n) (.inr ()):Int⊕Unit)).bind fun o=>sel o (fun b=>some b) (fun _=>g))=cond (n != 0) (some n) g:=by
 cases (n != 0)<;>rfl
theorem Xbh (n:Int):cond (n != 0) (some n) (some 0)=some n:=by
 cases h:(n != 0)
 ·have:n=0:=by simpa using h
  rw[this];rfl
 ·rfl
theorem Xbv {α:Type} {xs:List α} (h:xs.length≤2147483648):Yma xs=some xs:=by
 unfold Yma;rw[show decide (xs.length≤2147483648)=true by simp;omega];rfl
theorem Xin {n:Nat} (h:n≤2147483648):decide (n≤2147483648)=true:=by simp;omega
theorem Xim (l:List (List Int)) (h:Bd (.sl (.sl (.int .u8))) l):Xdj l=some l:=by
 obtain⟨hl,hb⟩:=h
 have h:Xdm l (l.length:Int) (0,[])=some ([]++l.map id):=
  Yvg l (f:=fun s=>Xdm.B l (l.length:Int) s.1 s.2) id id 0 (fun i hi t ht=>by
   have hx:=(hb l[i] (List.getElem_mem hi)).1
   simp only[Xdm.B,Yxe hi,Yxc hi,Ywx,toNat_cast,getD_lt _ hi,Xfu,Xbv hx,Option.bind_some,Ywe (by omega:i<4294967296),id]
   rw[Xin (by simp;omega)];rfl) (fun t ht=>by
   simp only[Xdm.B,Yxg (Nat.le_refl _),Ywl,id]) [] rfl
 simp only[Xdj,h,Option.bind_some];simp
theorem Xjc (f:Fs_) (h:Bd Xi f):Xdy f=some f:=by
 obtain⟨l,d,⟨⟩⟩:=f;obtain⟨⟨hl,hb⟩,hd,_⟩:=h;replace hl:l.length≤2147483648:=hl;replace hb:∀ x∈l,Bd Xd x:=hb;replace hd:Bd (.sl (.sl (.int .u8))) d:=hd
 have h:Xdq l (l.length:Int) ([],[],()) (0,([],d,()))=some (l.foldl (fun(t:Fs_) x=>(t.1++[x],t.2)) ([],d,())):=
  Yij l (f:=fun s=>Xdq.B l (l.length:Int) ([],[],()) s.1 s.2) (fun(t:Fs_) x=>(t.1++[x],t.2)) id (fun i t=>t.1.length=i) (fun i hi t ht=>by
   have hx:=hb l[i] (List.getElem_mem hi);obtain⟨hx1,hx2,hx3,hx4,hx5,_⟩:=hx;have e1:Yma l[i].2.2.2.1=some l[i].2.2.2.1:=Xbv hx4.1;have e2:Yma l[i].2.2.2.2.1=some l[i].2.2.2.2.1:=Xbv hx5.1
   refine⟨?_,by simp[ht]⟩
   simp only[Xdq.B,Yxe hi,Yxc hi,Ywx,toNat_cast,getD_lt _ hi,Xf1,Xeg,e1,e2,Option.bind_some,Ywe (by omega:i<4294967296),Yxp]
   rw[Xin (by simp;omega)];rfl) (fun t ht=>by
   simp only[Xdq.B,Yxg (Nat.le_refl _),Ywl,id]) _ rfl
 have h2:∀ (l:List Xb) (t:Fs_),l.foldl (fun(t:Fs_) x=>(t.1++[x],t.2)) t=(t.1++l,t.2):=by
  intro l
  induction l with
  |nil=>intro t;simp
  |cons x l ih=>intro t;simp[ih]
 simp only[Xdy,Xim d hd,Option.bind_some,h,h2];simp
def Xfd (b:UInt8):Bool:=cond (decide ((b.toNat:Int)<97)) true (decide ((b.toNat:Int)>122))
def Xba (s:List UInt8):Int:=cond (s.any Xfd) 5 (cond (s == []) 5 (cond (decide ((s.length:Int)>4)) 2 0))
theorem Xhq (s:List UInt8) (hl:s.length≤2147483648):Xez s=some (Xba s):=by
 have h:Xea s 0=_:=Yvy s Xfd (5:Int) (fun i hi=>by
  simp only[Xea.B,Yxe hi,Yxc hi,Ywx,toNat_cast,getD_lt _ hi,Option.bind_some,Ywe (by omega:i<4294967296),Xfd,Yvb]) (by
  simp only[Xea.B,Yxg (Nat.le_refl _),Ywl])
 simp only[Xez,h,Option.bind_some,Xba];cases s.any Xfd
 ·simp only[Ywl,Yw0,Yvd]
 ·rfl
theorem Xhx (s:List UInt8) (hl:s.length≤2147483648):Xfc s=some (Xba s):=by
 have h:Xef s (s.length:Int) 0=_:=Yvy s Xfd (5:Int) (fun i hi=>by
  simp only[Xef.B,Yxe hi,Yxc hi,Ywx,toNat_cast,getD_lt _ hi,Option.bind_some,Ywe (by omega:i<4294967296),Xfd,Yvb]) (by
  simp only[Xef.B,Yxg (Nat.le_refl _),Ywl])
 simp only[Xfc,h,Option.bind_some,Xba]
 cases s with
 |nil=>rfl
 |cons b s=>
  rw[show((b::s:List UInt8) == [])=false from rfl];simp only[Ywl];cases (b::s).any Xfd
  ·simp only[Ywl,Yw0,Yvd]
  ·rfl
theorem Xgz {s:List UInt8} (h:Xba s=0):s≠[]∧s.length≤4∧s.any Xfd=false:=by
 unfold Xba at h
 cases h1:s.any Xfd with
 |true=>rw[h1] at h;cases h
 |false=>
  rw[h1] at h
  cases h2:(s == []) with
  |true=>rw[h2] at h;cases h
  |false=>
   rw[h2] at h
   cases h3:decide ((s.length:Int)>4) with
   |true=>rw[h3] at h;cases h
   |false=>exact⟨(by intro e;subst e;cases h2),(by simp at h3;omega),rfl⟩
def Xc2:List Int→List Int→Bool
 |_,[]=>false
 |a,x::l=>a.contains x || Xc2 (a++[x]) l
theorem Xb3 {α:Type} (p:α→Bool) (l:List α) {o:Option (Int⊕Unit)} (h:o=some (match Yl1 p 0 l with | some j=>.inl (j:Int) | none=>.inr ())):(o.bind fun o=>sel o (fun b=>some b) (fun c=>some (-1))).bind (fun r=>some (decide (r≥0)))=some (l.any p):=by
 rw[h];exact Xew p l
theorem Xhj (l:List Int) (v:Int) (hl:l.length≤2147483648):Xds l v=some (l.contains v):=by
 have h:Xd5 l v (l.length:Int) 0=_:=Yvm l (fun x=>v == x) (fun i hi=>by
  simp only[Xd5.B,Yxe hi,Yxc hi,Ywx,toNat_cast,getD_lt _ hi,Option.bind_some,Ywe (by omega:i<4294967296)]) (by
  simp only[Xd5.B,Yxg (Nat.le_refl _),Ywl]) 0 (Nat.zero_le _)
 simp only[Xds,Xfl];rw[Xb3 _ _ h,List.any_beq,List.drop_zero]
def Xee (n:Int):Int:=w64 ((w64 ((w64 (n+8))-1)).tdiv 8)
def Xd3 (x:Xb):Int:=cond (!inR x.2.1 1 60) 3 (cond (!inR x.2.2.1 0 32) 3 (cond ((x.2.2.2.1.length:Int) != Xee x.2.2.1) 1 (cond (x.2.2.2.1.any fun b=>!inR b 0 19) 3 (cond (Xc2 [] x.2.2.2.1) 7 0))))
theorem Xih (x:Xb) (hl:x.2.2.2.1.length≤2147483648) (n:Nat) (hn:n<x.2.2.2.1.length):Xcq x (n:Int) 0=some (cond ((x.2.2.2.1.take n).contains x.2.2.2.1[n]) (.inl 7) (.inr ())):=by
 have h:Xcq x (n:Int) 0=_:=Yvy (x.2.2.2.1.take n) (fun y=>y == x.2.2.2.1[n]) (7:Int) (fun i hi=>by
  have hi':i<n:=by simp at hi;omega
  simp only[Xcq.B,Yxe hi',Yxc (by omega:i<x.2.2.2.1.length),Yxc hn,Ywx,toNat_cast,getD_lt _ (by omega:i<x.2.2.2.1.length),getD_lt _ hn,Option.bind_some,Ywe (by omega:i<4294967296),List.getElem_take]) (by
  have:(x.2.2.2.1.take n).length=n:=by simp;omega
  rw[this]
  simp only[Xcq.B,Yxg (Nat.le_refl _),Ywl])
 rw[h,←List.any_beq,show(fun y:Int=>y == x.2.2.2.1[n])=fun y=>x.2.2.2.1[n] == y from funext fun y=>Bool.beq_comm]
theorem Xdf (l:List Int):∀ (k n:Nat),n+k=l.length→Yba (τ:=Unit) (fun i y _=>cond ((l.take i).contains y) (.inr (.inl 7)) (.inl ())) (fun _=>(.inr ():Int⊕Unit)) n (l.drop n) ()=cond (Xc2 (l.take n) (l.drop n)) (.inl 7) (.inr ())
 |0,n,h=>by
  have:n=l.length:=by omega
  subst this
  simp[Yba,Xc2]
 |k+1,n,h=>by
  have hn:n<l.length:=by omega
  rw[List.drop_eq_getElem_cons hn];simp only[Yba,Xc2]
  have e:l.take n++[l[n]]=l.take (n+1):=by simp
  rw[e];cases (l.take n).contains l[n]
  ·simp only[Ywl,Ywm,Bool.false_or];exact Xdf l k (n+1) (by omega)
  ·rfl
theorem Xh8 (x:Xb) (hl:x.2.2.2.1.length≤2147483648):Xbr x=some (Xd3 x):=by
 have h0:Xed x 0=_:=Yvy x.2.2.2.1 (fun b=>!inR b 0 19) (3:Int) (fun i hi=>by
  simp only[Xed.B,Yxe hi,Yxc hi,Ywx,toNat_cast,getD_lt _ hi,Xf8,Option.bind_some,Ywe (by omega:i<4294967296)]) (by
  simp only[Xed.B,Yxg (Nat.le_refl _),Ywl])
 have h1:Xdk x 0=some (cond (Xc2 [] x.2.2.2.1) (.inl 7) (.inr ())):=by
  have:=Yfl (τ:=Unit) x.2.2.2.1 (f:=fun s=>Xdk.B x s) (fun i _=>(i:Int)) (fun i y _=>cond ((x.2.2.2.1.take i).contains y) (.inr (.inl 7)) (.inl ())) (fun _=>(.inr ():Int⊕Unit)) (fun i hi t=>by
   simp only[Xdk.B,Yxe hi,Ywx,Xih x hl i hi,Option.bind_some,Ywe (by omega:i<4294967296)]
   cases (x.2.2.2.1.take i).contains x.2.2.2.1[i]<;>rfl) (fun t=>by
   simp only[Xdk.B,Yxg (Nat.le_refl _),Ywl]) () (s:=0) rfl
  refine Eq.trans this ?_
  congr 1
  exact Xdf x.2.2.2.1 x.2.2.2.1.length 0 (by omega)
 have h8:(!((8:Int) == 0))=true:=rfl;simp only[Xbr,Xf2,Xf4,Xf8,Option.bind_some,h8,Ywx,h0,h1,Xd3,Xee,Yvd];cases inR x.2.1 1 60
 ·rfl
 ·cases inR x.2.2.1 0 32
  ·rfl
  ·simp only[Bool.not_true,Ywl]
   cases ((x.2.2.2.1.length:Int) != w64 ((w64 ((w64 (x.2.2.1+8))-1)).tdiv 8))
   ·simp only[Ywl]
    cases x.2.2.2.1.any fun b=>!inR b 0 19
    ·simp only[Ywl,Yw0]
     cases Xc2 [] x.2.2.2.1<;>rfl
    ·rfl
   ·rfl
theorem Xhv (x:Xb) (hl:x.2.2.2.1.length≤2147483648):Xdl x=some (Xd3 x):=by
 have h0:Xey x.2.2.2.1 ()=some (x.2.2.2.1.any fun b=>!inR b 0 19):=by
  have h:Xd6 x.2.2.2.1 () (x.2.2.2.1.length:Int) 0=_:=Yvm x.2.2.2.1 (fun b=>!inR b 0 19) (fun i hi=>by
   simp only[Xd6.B,Yxe hi,Yxc hi,Ywx,toNat_cast,getD_lt _ hi,Xfw,Xgi,Option.bind_some,Ywe (by omega:i<4294967296)]) (by
   simp only[Xd6.B,Yxg (Nat.le_refl _),Ywl]) 0 (Nat.zero_le _)
  simp only[Xey,Xeh];exact Xb3 _ _ h
 have h1:Xdd x x.2.2.2.1 (x.2.2.2.1.length:Int) 0=some (cond (Xc2 [] x.2.2.2.1) (.inl 7) (.inr ())):=by
  have:=Yfl (τ:=Unit) x.2.2.2.1 (f:=fun s=>Xdd.B x x.2.2.2.1 (x.2.2.2.1.length:Int) s) (fun i _=>(i:Int)) (fun i y _=>cond ((x.2.2.2.1.take i).contains y) (.inr (.inl 7)) (.inl ())) (fun _=>(.inr ():Int⊕Unit)) (fun i hi t=>by
   have e1:(decide ((0:Int)≤(i:Int))&&decide ((i:Int)≤(x.2.2.2.1.length:Int)))=true:=by simp;omega
   have e2:=Xhj (x.2.2.2.1.take i) x.2.2.2.1[i] (by simp;omega)
   simp only[Xdd.B,Yxe hi,Yxc hi,Ywx,toNat_cast,getD_lt _ hi,e1,List.drop_zero,e2,Option.bind_some,Ywe (by omega:i<4294967296)]
   cases (x.2.2.2.1.take i).contains x.2.2.2.1[i]<;>rfl) (fun t=>by
   simp only[Xdd.B,Yxg (Nat.le_refl _),Ywl]) () (s:=0) rfl
  refine Eq.trans this ?_
  congr 1
  exact Xdf x.2.2.2.1 x.2.2.2.1.length 0 (by omega)
 have h8:(!((8:Int) == 0))=true:=rfl;simp only[Xdl,Xft,Xeb,Xgi,Option.bind_some,h8,Ywx,h0,h1,Xd3,Xee,Yvd];cases inR x.2.1 1 60
 ·rfl
 ·cases inR x.2.2.1 0 32
  ·rfl
  ·simp only[Bool.not_true,Ywl]
   cases ((x.2.2.2.1.length:Int) != w64 ((w64 ((w64 (x.2.2.1+8))-1)).tdiv 8))
   ·simp only[Ywl]
    cases x.2.2.2.1.any fun b=>!inR b 0 19
    ·simp only[Ywl]
     cases Xc2 [] x.2.2.2.1<;>rfl
    ·rfl
   ·rfl
def Xcc (prev:Option (List UInt8)) (e:Xc):Int:=
 cond (Xba e.1 != 0) (Xba e.1) (cond (!inR e.2.1 0 9) 3 (match prev with | none=>0 | some p=>cond (leB p e.1) 0 1))
def Xax:Option (List UInt8)→List Xc→Int
 |_,[]=>0
 |p,e::l=>cond (Xcc p e != 0) (Xcc p e) (Xax (some e.1) l)
def Xe4 (x:Xb):Int:=cond (decide ((x.2.2.2.2.1.length:Int)>6)) 2 (Xax none x.2.2.2.2.1)
theorem Xge:∀ (a b:List UInt8),(leB a b || a == b) = !leB b a
 |[],[]=>rfl
 |[],_::_=>rfl
 |_::_,[]=>by simp[leB]
 |x::a,y::b=>by
  have ih:=Xge a b;simp only[leB]
  by_cases e:x=y
  ·subst e
   have h:¬ x<x:=UInt8.lt_irrefl x;simp only[h,decide_false,Bool.false_or,beq_self_eq_true,Bool.true_and]
   rw[←ih,show(x::a == x::b)=(a == b) by simp]
  ·have e':¬ y=x:=fun h=>e h.symm
   rw[show(x == y)=false by simp[e],show(y == x)=false by simp[e'],show(x::a == y::b)=false by simp[e]]
   simp only[Bool.false_and,Bool.or_false]
   by_cases h1:x<y
   ·have:¬ y<x:=fun h=>absurd (UInt8.lt_trans h1 h) (UInt8.lt_irrefl x)
    simp[h1,this]
   ·have:y<x:=by
     rw[UInt8.lt_iff_toNat_lt] at *;have:x.toNat≠y.toNat:=fun h=>e (UInt8.toNat_inj.1 h);omega
    simp[h1,this]
def Xat (l:List Xc):Nat→Option (List UInt8)
 |0=>none
 |j+1=>(l[j]?).map (·.1)
theorem Xdv (l:List Xc):∀ (k n:Nat),n+k=l.length→Yba (τ:=Unit) (fun i e _=>cond (Xcc (Xat l i) e != 0) (.inr (.inl (Xcc (Xat l i) e))) (.inl ())) (fun _=>(.inr ():Int⊕Unit)) n (l.drop n) () =
  cond (Xax (Xat l n) (l.drop n) != 0) (.inl (Xax (Xat l n) (l.drop n))) (.inr ())
 |0,n,h=>by
  have:n=l.length:=by omega
  subst this
  simp[Yba,Xax]
 |k+1,n,h=>by
  have hn:n<l.length:=by omega
  have hp:Xat l (n+1)=some l[n].1:=by simp[Xat,hn]
  have ih:=Xdv l k (n+1) (by omega)
  rw[hp] at ih;rw[List.drop_eq_getElem_cons hn];simp only[Yba,Xax];generalize Xat l n=p;cases hc:(Xcc p l[n] != 0)
  ·simp only[Ywl,Ywm];exact ih
  ·simp only[Ywx,Yw0,hc]
theorem Xir (x:Xb) (hb:Bd Xd x):Xdu x=some (Xe4 x):=by
 simp only[Xdu,Xe4]
 cases hd:decide ((x.2.2.2.2.1.length:Int)>6) with
 |true=>rfl
 |false=>
  have hl:x.2.2.2.2.1.length≤6:=by simp at hd;omega
  have h:Xc1 x 0=some (cond (Xax none x.2.2.2.2.1 != 0) (.inl (Xax none x.2.2.2.2.1)) (.inr ())):=by
   have:=Yfl (τ:=Unit) x.2.2.2.2.1 (f:=fun s=>Xc1.B x s) (fun i _=>(i:Int)) (fun i e _=>cond (Xcc (Xat x.2.2.2.2.1 i) e != 0) (.inr (.inl (Xcc (Xat x.2.2.2.2.1 i) e))) (.inl ())) (fun _=>(.inr ():Int⊕Unit)) (fun i hi t=>by
    have hn:(x.2.2.2.2.1[i]).1.length≤2147483648:=(hb.2.2.2.2.1.2 _ (List.getElem_mem hi)).1
    simp only[Xc1.B,Yxe hi,Yxc hi,Ywx,toNat_cast,getD_lt _ hi,Xf8,Xhq _ hn,Option.bind_some,Ywe (by omega:i<4294967296)]
    simp only[Xcc];cases hc:(Xba (x.2.2.2.2.1[i]).1 != 0)
    ·simp only[Ywl]
     cases inR (x.2.2.2.2.1[i]).2.1 0 9
     ·rfl
     ·simp only[Bool.not_true,Ywl]
      cases i with
      |zero=>rfl
      |succ j=>
       have hj:j<x.2.2.2.2.1.length:=by omega
       have hw:w64 (((j+1:Nat):Int)-1)=(j:Int):=by rw[Yrz (by omega) (by omega)];omega
       rw[show decide (((j+1:Nat):Int)>0)=true by simp]
       simp only[Ywx,hw,Yxc hj,toNat_cast,getD_lt _ hj,Xat,List.getElem?_eq_getElem hj,Option.map_some,Xge]
       cases leB (x.2.2.2.2.1[j]).1 (x.2.2.2.2.1[j+1]).1<;>rfl
    ·simp only[Ywx,hc];rfl) (fun t=>by
    simp only[Xc1.B,Yxg (Nat.le_refl _),Ywl]) () (s:=0) rfl
   refine Eq.trans this ?_
   congr 1
   exact Xdv x.2.2.2.2.1 x.2.2.2.2.1.length 0 (by omega)
  rw[h,Ywl,Ywl,Xbx,Xbh]
theorem Xi8 (x:Xb) (hb:Bd Xd x):Xcz x=some (Xe4 x):=by
 simp only[Xcz,Xe4]
 cases hd:decide ((x.2.2.2.2.1.length:Int)>6) with
 |true=>rfl
 |false=>
  have hl:x.2.2.2.2.1.length≤6:=by simp at hd;omega
  have h:Xda x x.2.2.2.2.1 (x.2.2.2.2.1.length:Int) 0=some (cond (Xax none x.2.2.2.2.1 != 0) (.inl (Xax none x.2.2.2.2.1)) (.inr ())):=by
   have:=Yfl (τ:=Unit) x.2.2.2.2.1 (f:=fun s=>Xda.B x x.2.2.2.2.1 (x.2.2.2.2.1.length:Int) s) (fun i _=>(i:Int)) (fun i e _=>cond (Xcc (Xat x.2.2.2.2.1 i) e != 0) (.inr (.inl (Xcc (Xat x.2.2.2.2.1 i) e))) (.inl ())) (fun _=>(.inr ():Int⊕Unit)) (fun i hi t=>by
    have hn:(x.2.2.2.2.1[i]).1.length≤2147483648:=(hb.2.2.2.2.1.2 _ (List.getElem_mem hi)).1
    simp only[Xda.B,Yxe hi,Yxc hi,Ywx,toNat_cast,getD_lt _ hi,Xgi,Xhx _ hn,Option.bind_some,Ywe (by omega:i<4294967296)]
    simp only[Xcc];cases hc:(Xba (x.2.2.2.2.1[i]).1 != 0)
    ·simp only[Ywl]
     cases inR (x.2.2.2.2.1[i]).2.1 0 9
     ·rfl
     ·simp only[Bool.not_true,Ywl]
      cases i with
      |zero=>rfl
      |succ j=>
       have hj:j<x.2.2.2.2.1.length:=by omega
       have hw:w64 (((j+1:Nat):Int)-1)=(j:Int):=by rw[Yrz (by omega) (by omega)];omega
       rw[show decide (((j+1:Nat):Int)>0)=true by simp]
       simp only[Ywx,hw,Yxc hj,toNat_cast,getD_lt _ hj,Xat,List.getElem?_eq_getElem hj,Option.map_some]
       cases leB (x.2.2.2.2.1[j]).1 (x.2.2.2.2.1[j+1]).1<;>rfl
    ·simp only[Ywx,hc];rfl) (fun t=>by
    simp only[Xda.B,Yxg (Nat.le_refl _),Ywl]) () (s:=0) rfl
   refine Eq.trans this ?_
   congr 1
   exact Xdv x.2.2.2.2.1 x.2.2.2.2.1.length 0 (by omega)
  rw[h,Ywl,Ywl,Xbx,Xbh]
def X3 (x:Xb):Int:=
 cond (!inR x.1 0 2) 1 (cond (cond (cond (x.1 != 1) (cond (cond (x.2.1 != 0) true (x.2.2.1 != 0)) true (decide ((x.2.2.2.1.length:Int)>0))) false) true (cond (x.1 != 2) (decide ((x.2.2.2.2.1.length:Int)>0)) false)) 1
  (cond (x.1 == 1) (Xd3 x) (cond (x.1 == 2) (Xe4 x) 0)))
theorem Xia (x:Xb) (hb:Bd Xd x):Xe0 x=some (X3 x):=by
 simp only[Xe0,X3,Xf8,Xh8 x hb.2.2.2.1.1,Xir x hb,Option.bind_some];simp only[Yvd]
theorem Xgj (n:Nat):decide ((n:Int)>0) = !((n:Int) == 0):=by
 rw[Bool.eq_iff_iff];simp only[decide_eq_true_eq,Bool.not_eq_true',beq_eq_false_iff_ne,ne_eq];omega
theorem not_bne (a b:Int):(a == b) = !(a != b):=(Bool.not_not _).symm
theorem Xic (x:Xb) (hb:Bd Xd x):Xfe x=some (X3 x):=by
 simp only[Xfe,X3,Xgi,Xhv x hb.2.2.2.1.1,Xi8 x hb,Option.bind_some];cases inR x.1 0 2
 ·rfl
 ·simp only[Bool.not_true,Ywl]
  have e1:(cond (cond (x.2.1 == 0) (x.2.2.1 == 0) false) ((x.2.2.2.1.length:Int) == 0) false) = !(cond (cond (x.2.1 != 0) true (x.2.2.1 != 0)) true (decide ((x.2.2.2.1.length:Int)>0))):=by
   rw[show(x.2.1 != 0) = !(x.2.1 == 0) from rfl,show(x.2.2.1 != 0) = !(x.2.2.1 == 0) from rfl,Xgj]
   cases (x.2.1 == 0)<;>cases (x.2.2.1 == 0)<;>cases ((x.2.2.2.1.length:Int) == 0)<;>rfl
  have e2:(!((x.2.2.2.2.1.length:Int) == 0))=decide ((x.2.2.2.2.1.length:Int)>0):=(Xgj _).symm;rw[e1,e2,Bool.not_not]
  cases (cond (cond (x.2.1 != 0) true (x.2.2.1 != 0)) true (decide ((x.2.2.2.1.length:Int)>0)))<;>cases h1:(x.1 != 1)<;>cases h2:(x.1 != 2)<;>cases hd:decide ((x.2.2.2.2.1.length:Int)>0)<;>simp only[Ywx,Ywl]
  all_goals (rw[not_bne x.1 1,not_bne x.1 2,h1,h2])
  all_goals simp only[Bool.not_true,Bool.not_false,Ywx,Ywl]
  all_goals first | rfl | skip
  all_goals (
   have hz:x.2.2.2.2.1=[]:=by simp at hd;exact hd
   have:Xe4 x=0:=by simp[Xe4,hz,Xax]
   rw[this])
def Xt (l:List Xb):Int:=cond (decide ((l.length:Int)>10)) 2 (Yee X3 l)
theorem Xh1 (l:List Xb) (hb:Bd (.sl Xd) l):Xdx l=some (Xt l):=by
 simp only[Xdx,Xt]
 cases hd:decide ((l.length:Int)>10) with
 |true=>rfl
 |false=>
  have hl:l.length≤10:=by simp at hd;omega
  have h:Xei l 0=_:=Yut l X3 (fun i hi=>by
   simp only[Xei.B,Yxe hi,Yxc hi,Ywx,toNat_cast,getD_lt _ hi,Xia _ (hb.2 _ (List.getElem_mem hi)),Option.bind_some,Ywe (by omega:i<4294967296)]) (by
   simp only[Xei.B,Yxg (Nat.le_refl _),Ywl])
  rw[h,Ywl,Ywl,Xbx,Xbh]
theorem Xi7 (l:List Xb) (hb:Bd (.sl Xd) l):Xc7 l=some (Xt l):=by
 simp only[Xc7,Xt]
 cases hd:decide ((l.length:Int)>10) with
 |true=>rfl
 |false=>
  have hl:l.length≤10:=by simp at hd;omega
  have h:Xec l (l.length:Int) 0=_:=Yut l X3 (fun i hi=>by
   simp only[Xec.B,Yxe hi,Yxc hi,Ywx,toNat_cast,getD_lt _ hi,Xic _ (hb.2 _ (List.getElem_mem hi)),Option.bind_some,Ywe (by omega:i<4294967296)]) (by
   simp only[Xec.B,Yxg (Nat.le_refl _),Ywl])
  rw[h,Ywl,Ywl,Xbx,Xbh]
def Xen (l:List Xb):List Int:=l.flatMap fun x=>x.2.2.2.1
theorem Xam {x:Xb} (h:X3 x=0):x.2.2.2.1.length≤4∧(∀ b∈x.2.2.2.1,0≤b∧b≤19)∧(x.1≠1→x.2.2.2.1=[])∧(x.1=1→Xd3 x=0):=by
 unfold X3 at h
 cases h1:inR x.1 0 2 with
 |false=>rw[h1] at h;cases h
 |true=>
  rw[h1] at h;simp only[Bool.not_true,Ywl] at h
  by_cases e:x.1=1
  ·rw[show(x.1 != 1)=false by simp[e]] at h
   cases h2:cond (cond false (cond (cond (x.2.1 != 0) true (x.2.2.1 != 0)) true (decide ((x.2.2.2.1.length:Int)>0))) false) true (cond (x.1 != 2) (decide ((x.2.2.2.2.1.length:Int)>0)) false) with
   |true=>rw[h2] at h;cases h
   |false=>
    rw[h2,show(x.1 == 1)=true by simp[e]] at h
    simp only[Ywl,Ywx] at h;have hf:=h;unfold Xd3 at h
    cases h3:inR x.2.1 1 60 with
    |false=>rw[h3] at h;cases h
    |true=>
     rw[h3] at h
     cases h4:inR x.2.2.1 0 32 with
     |false=>rw[h4] at h;cases h
     |true=>
      rw[h4] at h;simp only[Bool.not_true,Ywl] at h
      cases h5:((x.2.2.2.1.length:Int) != Xee x.2.2.1) with
      |true=>rw[h5] at h;cases h
      |false=>
       rw[h5] at h;simp only[Ywl] at h
       cases h6:(x.2.2.2.1.any fun b=>!inR b 0 19) with
       |true=>rw[h6] at h;cases h
       |false=>
        refine⟨?_,fun b hb=>?_,fun h=>absurd e h,fun _=>hf⟩
        ·have hs:=Xby.1 h4
         have:(x.2.2.2.1.length:Int)=Xee x.2.2.1:=by simpa using h5
         unfold Xee at this
         rw[Yrz (x:=x.2.2.1+8) (by omega) (by omega),Yrz (x:=x.2.2.1+8-1) (by omega) (by omega),Int.tdiv_eq_ediv_of_nonneg (by omega),Yrz (by omega) (by omega)] at this
         omega
        ·have:=List.any_eq_false.1 h6 b hb
         exact Xby.1 (by simpa using this)
  ·rw[show(x.1 != 1)=true by simp[e]] at h
   cases h2:decide ((x.2.2.2.1.length:Int)>0) with
   |true=>
    rw[h2] at h;simp only[Ywx,Yvb] at h
    cases h
   |false=>
    have hz:x.2.2.2.1=[]:=by simp at h2;exact h2
    exact⟨by simp[hz],by simp[hz],fun _=>hz,fun h=>absurd h e⟩
theorem Xd4 {α:Type} {c:α→Int}:∀ {l:List α},Yee c l=0↔∀ x∈l,c x=0
 |[]=>by simp[Yee]
 |x::l=>by
  simp only[Yee,List.mem_cons,forall_eq_or_imp];cases h:(c x != 0)
  ·have:c x=0:=by simpa using h
   simp only[Ywl,this,true_and];exact Xd4
  ·have:c x≠0:=by simpa using h
   simp only[Ywx];exact⟨fun e=>absurd e this,fun e=>absurd e.1 this⟩
theorem Xu {l:List Xb} (h:Xt l=0):l.length≤10∧∀ x∈l,X3 x=0:=by
 unfold Xt at h
 cases h1:decide ((l.length:Int)>10) with
 |true=>rw[h1] at h;cases h
 |false=>rw[h1] at h;exact⟨by simp at h1;omega,Xd4.1 h⟩
structure Xe2 (l:List Xb):Prop where
 len:l.length≤10
 blk:∀ x∈l,x.2.2.2.1.length≤4∧∀ b∈x.2.2.2.1,0≤b∧b≤19
theorem Xe2.of {l:List Xb} (h:Xt l=0):Xe2 l:=
 ⟨(Xu h).1,fun x hx=>⟨(Xam ((Xu h).2 x hx)).1,(Xam ((Xu h).2 x hx)).2.1⟩⟩
theorem Xfn:∀ {l:List Xb},(∀ x∈l,x.2.2.2.1.length≤4)→(Xen l).length≤4*l.length
 |[],h=>by simp[Xen]
 |x::l,h=>by
  have h1:=h x (List.mem_cons_self ..);have:=Xfn (l:=l) fun y hy=>h y (List.mem_cons_of_mem _ hy);simp only[Xen,List.flatMap_cons,List.length_append,List.length_cons] at *;omega
theorem Xe2.all {l:List Xb} (h:Xe2 l):(Xen l).length≤40∧∀ b∈Xen l,0≤b∧b≤19:=by
 refine⟨by have:=Xfn (l:=l) fun x hx=>(h.blk x hx).1;have:=h.len;omega,fun b hb=>?_⟩
 obtain⟨x,hx,hb⟩:=List.mem_flatMap.1 hb;exact(h.blk x hx).2 b hb
theorem Xh2 (l:List Xb) (at_:Int) (i:Nat) (hi:i<l.length) (n:Nat) (hb:l[i].2.2.2.1.length≤4) (hn:n≤1000):Xck l at_ (i:Int) ((n:Int),0)=some (((n+l[i].2.2.2.1.count at_:Nat):Int)):=by
 have h:=Yno (τ:=Nat) l[i].2.2.2.1 (f:=fun s=>Xck.B l at_ (i:Int) s.1 s.2) (fun k m=>((m:Int),(k:Int))) (fun _ y m=>.inl (m+(if y == at_ then 1 else 0))) (fun m=>((m:Nat):Int)) (fun k m=>m≤n+k)
  (fun k hk m hm=>by
   simp only[Xck.B,Yxc hi,Ywx,toNat_cast,getD_lt _ hi,Option.bind_some,Yxe hk,Yxc hk,getD_lt _ hk,Ywe (by omega:k<4294967296),Ywe (by omega:m<4294967296),sel]
   cases h:(l[i].2.2.2.1[k] == at_)<;>simp[h])
  (fun k hk m m' hm e=>by cases e;split<;>omega)
  (fun m hm=>by
   simp only[Xck.B,Yxc hi,Ywx,toNat_cast,getD_lt _ hi,Option.bind_some,Yxg (Nat.le_refl _),Ywl]) n (by omega) (s:=((n:Int),0)) rfl
 refine Eq.trans h ?_;rw[Yfm]
 congr 2
 have:∀ (l:List Int) (m:Nat),l.foldl (fun t y=>t+(if y == at_ then 1 else 0)) m=m+l.count at_:=by
  intro l
  induction l with
  |nil=>intro m;simp
  |cons y l ih=>intro m;rw[List.foldl_cons,ih,List.count_cons];omega
 exact this _ _
theorem Xjd (l:List Xb) (hok:Xe2 l) (at_:Int):Xe8 l at_=some ((((Xen l).count at_:Nat):Int)):=by
 have h:=Yno (τ:=Nat) l (f:=fun s=>Xc4.B l at_ s.1 s.2) (fun k m=>((m:Int),(k:Int))) (fun _ x m=>.inl (m+x.2.2.2.1.count at_)) (fun m=>((m:Nat):Int)) (fun k m=>m≤4*k)
  (fun k hk m hm=>by
   have hl:=hok.len
   simp only[Xc4.B,Yxe hk,Ywx,Xh2 l at_ k hk m (hok.blk _ (List.getElem_mem hk)).1 (by omega),Option.bind_some,Ywe (by omega:k<4294967296),sel])
  (fun k hk m m' hm e=>by cases e;have:=(hok.blk _ (List.getElem_mem hk)).1;have:=List.count_le_length (a:=at_) (l:=l[k].2.2.2.1);omega)
  (fun m hm=>by simp only[Xc4.B,Yxg (Nat.le_refl _),Ywl]) 0 (by omega) (s:=(0,0)) rfl
 have h':Xc4 l at_ (0,0)=_:=h;simp only[Xe8,h',Option.bind_some];rw[Yfm]
 have:∀ (l:List Xb) (m:Nat),l.foldl (fun t x=>t+x.2.2.2.1.count at_) m=m+(Xen l).count at_:=by
  intro l
  induction l with
  |nil=>intro m;simp[Xen]
  |cons y l ih=>intro m;rw[List.foldl_cons,ih];simp only[Xen,List.flatMap_cons,List.count_append];omega
 rw[this,Nat.zero_add]
theorem Xfm:∀ {p:Option (List UInt8)} {l:List Xc},Xax p l=0→∀ e∈l,Xba e.1=0∧0≤e.2.1∧e.2.1≤9
 |p,[],h,e,he=>by cases he
 |p,x::l,h,e,he=>by
  simp only[Xax] at h
  cases hc:(Xcc p x != 0) with
  |true=>
   rw[hc] at h
   have:Xcc p x≠0:=by simpa using hc
   exact absurd h this
  |false=>
   rw[hc] at h;rcases List.mem_cons.1 he with rfl | he
   ·have h0:Xcc p e=0:=by simpa using hc
    unfold Xcc at h0
    cases h1:(Xba e.1 != 0) with
    |true=>rw[h1] at h0;exact absurd h0 (by simpa using h1)
    |false=>
     rw[h1] at h0
     cases h2:inR e.2.1 0 9 with
     |false=>rw[h2] at h0;cases h0
     |true=>exact⟨by simpa using h1,Xby.1 h2⟩
   ·exact Xfm h e he
theorem Xae {x:Xb} (h:X3 x=0):(0≤x.1∧x.1≤2)∧x.2.2.2.2.1.length≤6∧(x.1≠2→x.2.2.2.2.1=[])∧(x.1=2→Xe4 x=0)∧(x.1≠1→x.2.1=0∧x.2.2.1=0)∧∀ e∈x.2.2.2.2.1,Xba e.1=0∧0≤e.2.1∧e.2.1≤9:=by
 unfold X3 at h
 cases h1:inR x.1 0 2 with
 |false=>rw[h1] at h;cases h
 |true=>
  rw[h1] at h;simp only[Bool.not_true,Ywl] at h;have hk:=Xby.1 h1
  have hz:x.1≠1→x.2.1=0∧x.2.2.1=0:=by
   intro e
   rw[show(x.1 != 1)=true by simp[e]] at h
   cases h2:(x.2.1 != 0) with
   |true=>rw[h2] at h;cases h
   |false=>
    cases h3:(x.2.2.1 != 0) with
    |true=>rw[h2,h3] at h;cases h
    |false=>exact⟨by simpa using h2,by simpa using h3⟩
  cases h2:cond (cond (x.1 != 1) (cond (cond (x.2.1 != 0) true (x.2.2.1 != 0)) true (decide ((x.2.2.2.1.length:Int)>0))) false) true (cond (x.1 != 2) (decide ((x.2.2.2.2.1.length:Int)>0)) false) with
  |true=>rw[h2] at h;cases h
  |false=>
   rw[h2] at h
   by_cases e:x.1=2
   ·rw[show(x.1 == 1)=false by simp[e],show(x.1 == 2)=true by simp[e]] at h
    simp only[Ywl,Ywx] at h;have hd:=h;unfold Xe4 at h
    cases h3:decide ((x.2.2.2.2.1.length:Int)>6) with
    |true=>rw[h3] at h;cases h
    |false=>
     rw[h3] at h
     exact⟨hk,by simp at h3;omega,fun hh=>absurd e hh,fun _=>hd,hz,Xfm h⟩
   ·rw[show(x.1 != 2)=true by simp[e]] at h2
    have:x.2.2.2.2.1=[]:=by
     cases h3:decide ((x.2.2.2.2.1.length:Int)>0) with
     |true=>
      rw[h3] at h2;exfalso
      revert h2
      generalize cond (x.1 != 1) (cond (cond (x.2.1 != 0) true (x.2.2.1 != 0)) true (decide ((x.2.2.2.1.length:Int)>0))) false=b
      cases b<;>intro h2<;>cases h2
     |false=>simp at h3;exact h3
    exact⟨hk,by simp[this],fun _=>this,fun hh=>absurd hh e,hz,by simp[this]⟩
def Xd0 (f:Fs_):Int:=cond (Xt f.1 != 0) (Xt f.1) (cond (cond (cond ((f.1.length:Int) == 0) true ((f.1.getD 0 Xa).1 != 2)) true ((f.2.1.length:Int) != 20)) 1 0)
structure Xgr (l:List Xb):Prop where
 ent:∀ x∈l,x.2.2.2.2.1.length≤6∧∀ e∈x.2.2.2.2.1,0≤e.2.1∧e.2.1≤9
theorem Xgr.of {l:List Xb} (h:Xt l=0):Xgr l:=
 ⟨fun x hx=>⟨(Xae ((Xu h).2 x hx)).2.1,fun e he=>((Xae ((Xu h).2 x hx)).2.2.2.2.2 e he).2⟩⟩
theorem Xht (f:Fs_) (hb:Bd Xi f):Xfa f=some (Xd0 f):=by
 simp only[Xfa,Xd0,Xi7 f.1 hb.1,Option.bind_some]
 cases hi:(Xt f.1 != 0) with
 |true=>simp only[Ywx]
 |false=>
  simp only[Ywl]
  have e1:cond (!((f.1.length:Int) == 0)) (inB 0 f.1.length) true=true:=by
   cases hl:((f.1.length:Int) == 0) with
   |true=>rfl
   |false=>exact Yxc (i:=0) (by
     have:(f.1.length:Int)≠0:=by simpa using hl
     omega)
  rw[e1];simp only[Ywx,show(0:Int).toNat=0 from rfl,Yvd]
theorem Xgx {f:Fs_} (h:Xd0 f=0):Xt f.1=0∧0<f.1.length∧(f.1.getD 0 Xa).1=2∧f.2.1.length=20:=by
 unfold Xd0 at h
 cases hi:(Xt f.1 != 0) with
 |true=>rw[hi] at h;exact absurd h (by simpa using hi)
 |false=>
  rw[hi] at h
  refine⟨by simpa using hi,?_⟩
  cases h1:((f.1.length:Int) == 0) with
  |true=>rw[h1] at h;cases h
  |false=>
   rw[h1] at h
   cases h2:((f.1.getD 0 Xa).1 != 2) with
   |true=>rw[h2] at h;cases h
   |false=>
    rw[h2] at h
    cases h3:((f.2.1.length:Int) != 20) with
    |true=>rw[h3] at h;cases h
    |false=>
     have a1:(f.1.length:Int)≠0:=by simpa using h1
     have a3:(f.2.1.length:Int)=20:=by simpa using h3
     exact⟨by omega,by simpa using h2,by omega⟩
abbrev Xy (l:List Xb) (a:Nat):List Xc:=(l.getD a Xa).2.2.2.2.1
abbrev on (b:List Bool) (i:Nat):Prop:=b.getD i false=true
theorem Xc8 {b:List Bool} {i j:Nat}:on (b.set i true) j↔on b j∨(i=j∧i<b.length):=by
 unfold on;rw[List.getD_eq_getElem?_getD,List.getD_eq_getElem?_getD,List.getElem?_set]
 by_cases e:i=j
 ·subst e
  by_cases h:i<b.length
  ·simp[h]
  ·simp[h]
 ·simp[e]
theorem Xhz {b:List Bool} {i:Nat} (h:on b i):i<b.length:=by
 unfold on at h
 by_cases hh:i<b.length
 ·exact hh
 ·rw[List.getD_eq_getElem?_getD,List.getElem?_eq_none (by omega)] at h;cases h
theorem Xjr {b:List Bool} {i:Nat} (h:on b i):b.set i true=b:=by
 have hl:=Xhz h;unfold on at h;rw[getD_lt _ hl] at h
 conv=>lhs;rw[←h]
 exact List.set_getElem_self hl
def Xgs (l:List Xb):List Int:=l.flatMap fun x=>x.2.2.2.2.1.map fun e=>e.2.1
def Xgb (l:List Xb) (a:Int):Int:=(((Xgs l).count a:Nat):Int)
theorem Xfk (a:Int):∀ (l:List Xc) (m:Nat),l.foldl (fun t e=>t+(if e.2.1 == a then 1 else 0)) m=m+(l.map fun e=>e.2.1).count a
 |[],m=>by simp
 |y::l,m=>by rw[List.foldl_cons,Xfk a l,List.map_cons,List.count_cons];omega
theorem Xhu (l:List Xb) (hl:∀ x∈l,x.2.2.2.2.1.length≤6) (hn:l.length≤10) (a:Int):Xep l a=some (Xgb l a):=by
 have h1:∀ (i:Nat) (hi:i<l.length) (n:Nat),n≤1000→Xcm l a (i:Int) ((n:Int),0)=some (((n+(l[i].2.2.2.2.1.map fun e=>e.2.1).count a:Nat):Int)):=by
  intro i hi n hn;have h6:=hl _ (List.getElem_mem hi)
  have h:=Yno (τ:=Nat) l[i].2.2.2.2.1 (f:=fun s=>Xcm.B l a (i:Int) s.1 s.2) (fun k m=>((m:Int),(k:Int))) (fun _ e m=>.inl (m+(if e.2.1 == a then 1 else 0))) (fun m=>((m:Nat):Int)) (fun k m=>m≤n+k)
   (fun k hk m hm=>by
    simp only[Xcm.B,Yxc hi,Ywx,toNat_cast,getD_lt _ hi,Option.bind_some,Yxe hk,Yxc hk,getD_lt _ hk,Ywe (by omega:k<4294967296),Ywe (by omega:m<4294967296),sel]
    cases h:((l[i].2.2.2.2.1[k]).2.1 == a)<;>simp[h])
   (fun k hk m m' hm e=>by cases e;split<;>omega)
   (fun m hm=>by
    simp only[Xcm.B,Yxc hi,Ywx,toNat_cast,getD_lt _ hi,Option.bind_some,Yxg (Nat.le_refl _),Ywl]) n (by omega) (s:=((n:Int),0)) rfl
  refine Eq.trans h ?_;rw[Yfm,Xfk]
 have h:=Yno (τ:=Nat) l (f:=fun s=>Xdc.B l a s.1 s.2) (fun k m=>((m:Int),(k:Int))) (fun _ x m=>.inl (m+(x.2.2.2.2.1.map fun e=>e.2.1).count a)) (fun m=>((m:Nat):Int)) (fun k m=>m≤6*k)
  (fun k hk m hm=>by
   simp only[Xdc.B,Yxe hk,Ywx,h1 k hk m (by omega),Option.bind_some,Ywe (by omega:k<4294967296),sel])
  (fun k hk m m' hm e=>by cases e;have:=hl _ (List.getElem_mem hk);have:=List.count_le_length (a:=a) (l:=l[k].2.2.2.2.1.map fun e=>e.2.1);simp at this;omega)
  (fun m hm=>by simp only[Xdc.B,Yxg (Nat.le_refl _),Ywl]) 0 (by omega) (s:=(0,0)) rfl
 have h':Xdc l a (0,0)=_:=h;simp only[Xep,h',Option.bind_some];rw[Yfm]
 have:∀ (l:List Xb) (m:Nat),l.foldl (fun t x=>t+(x.2.2.2.2.1.map fun e=>e.2.1).count a) m=m+(Xgs l).count a:=by
  intro l
  induction l with
  |nil=>intro m;simp[Xgs]
  |cons y l ih=>intro m;rw[List.foldl_cons,ih];simp only[Xgs,List.flatMap_cons,List.count_append];omega
 rw[this,Nat.zero_add];rfl
def Xag (a b:Int):Int:=cond (decide (a<b)) a b
theorem Xhi (a b:Int):Xd9 a b=some (Xag a b):=by simp only[Xd9,Xag,Yvd]
theorem Xf6 (a b:Int):cond (decide (a<b)) a b=Xag b a:=by
 unfold Xag
 by_cases h1:a<b
 ·rw[show decide (a<b)=true by simp[h1],show decide (b<a)=false by simp;omega];rfl
 ·by_cases h2:b<a
  ·rw[show decide (a<b)=false by simp;omega,show decide (b<a)=true by simp[h2]];rfl
  ·have:a=b:=by omega
   subst this;simp
def Xar (x:Xb):Nat→List Int→List Int→List Int
 |_,[],w=>w
 |k,b::bs,w=>Xar x (k+1) bs (w.set b.toNat (Xag 8 (w64 (x.2.2.1-w64 ((k:Int)*8)))))
def Xdz:List Xb→List Int→List Int
 |[],w=>w
 |x::l,w=>Xdz l (Xar x 0 x.2.2.2.1 w)
def Xb5 (l:List Xb):List Int:=Xdz l (List.replicate 20 0)
theorem Xbu (x:Xb):∀ (bs:List Int) (k:Nat) (w:List Int),(Xar x k bs w).length=w.length
 |[],k,w=>rfl
 |b::bs,k,w=>by simp only[Xar];rw[Xbu x bs];simp
theorem Xes:∀ (l:List Xb) (w:List Int),(Xdz l w).length=w.length
 |[],w=>rfl
 |x::l,w=>by simp only[Xdz];rw[Xes l,Xbu]
theorem Xc0 (l:List Xb):(Xb5 l).length=20:=by unfold Xb5;rw[Xes];simp
theorem Xcb (x:Xb):∀ (bs:List Int) (k:Nat) (w:List Int),Yba (fun k b w=>.inl (w.set b.toNat (Xag 8 (w64 (x.2.2.1-w64 ((k:Int)*8)))))) id k bs w=Xar x k bs w
 |[],k,w=>rfl
 |b::bs,k,w=>by simp only[Yba,Ywm,Xar];exact Xcb x bs _ _
theorem Xca:∀ (l:List Xb) (k:Nat) (w:List Int),Yba (fun _ x w=>.inl (Xar x 0 x.2.2.2.1 w)) id k l w=Xdz l w
 |[],k,w=>rfl
 |x::l,k,w=>by simp only[Yba,Ywm,Xdz];exact Xca l _ _
theorem Xib (l:List Xb) (v v2:Int) (v3:List Int) (x:Xb) (h4:x.2.2.2.1.length≤4) (hb:∀ b∈x.2.2.2.1,0≤b∧b≤19) (w:List Int) (hw:w.length=20):Xaq l v v2 x.2.2.2.1 (x.2.2.2.1.length:Int) v3 x (0,w)=some (Xar x 0 x.2.2.2.1 w):=by
 have h:=Yno (τ:=List Int) x.2.2.2.1 (f:=fun s=>Xaq.B l v v2 x.2.2.2.1 (x.2.2.2.1.length:Int) v3 x s.1 s.2) (fun k w=>((k:Int),w)) (fun k b w=>.inl (w.set b.toNat (Xag 8 (w64 (x.2.2.1-w64 ((k:Int)*8)))))) id (fun k w=>w.length=20)
  (fun k hk w hw=>by
   have h2:=hb _ (List.getElem_mem hk)
   simp only[Xaq.B,Yxe hk,Yxc hk,Ywx,toNat_cast,getD_lt _ hk,Xf6,Option.bind_some,Ywe (by omega:k<4294967296),sel]
   rw[show inB (x.2.2.2.1[k]) 20=true from Yuq h2.1 (by omega)];rfl) (fun k hk w w' hw e=>by cases e;simpa using hw) (fun w hw=>by
   simp only[Xaq.B,Yxg (Nat.le_refl _),Ywl,id]) w hw (s:=(0,w)) rfl
 rw[Xcb] at h;exact h
theorem Xhf (l:List Xb) (hok:Xe2 l):Xbj l=some (Xb5 l):=by
 have hl:=hok.len
 have h:=Yno (τ:=List Int) l (f:=fun s=>Xa0.B l (l.length:Int) (List.replicate 20 0) s.1 s.2) (fun k w=>((k:Int),w)) (fun _ x w=>.inl (Xar x 0 x.2.2.2.1 w)) id (fun k w=>w.length=20)
  (fun k hk w hw=>by
   have h2:=hok.blk _ (List.getElem_mem hk)
   simp only[Xa0.B,Yxe hk,Yxc hk,Ywx,toNat_cast,getD_lt _ hk,Option.bind_some,Xib l _ _ _ _ h2.1 h2.2 w hw,Ywe (by omega:k<4294967296),sel]) (fun k hk w w' hw e=>by cases e;rw[Xbu];exact hw) (fun w hw=>by
   simp only[Xa0.B,Yxg (Nat.le_refl _),Ywl,id]) (List.replicate 20 0) (by simp) (s:=(0,List.replicate 20 0)) rfl
 rw[Xca] at h;have h':Xa0 l (l.length:Int) (List.replicate 20 0) (0,List.replicate 20 0)=some (Xb5 l):=h;simp only[Xbj,h',Option.bind_some]
structure Xb9 (x:Xb):Prop where
 blk:x.2.2.2.1.length≤4
 ent:x.2.2.2.2.1.length≤6
 nam:∀ e∈x.2.2.2.2.1,e.1.length≤4
theorem Xb9.of {x:Xb} (h:X3 x=0):Xb9 x:=
 ⟨(Xam h).1,(Xae h).2.1,fun e he=>(Xgz ((Xae h).2.2.2.2.2 e he).1).2.1⟩
theorem Xhd {α β:Type}:∀ (l:List α) (a:List α) (b:β),l.foldl (fun(t:List α×β) x=>(t.1++[x],t.2)) (a,b)=(a++l,b)
 |[],a,b=>by simp
 |x::l,a,b=>by rw[List.foldl_cons,Xhd l];simp
theorem Xhk {α β γ:Type}:∀ (l:List α) (a:β) (b:List α) (c:γ),l.foldl (fun(t:β×List α×γ) x=>(t.1,t.2.1++[x],t.2.2)) (a,b,c)=(a,b++l,c)
 |[],a,b,c=>by simp
 |x::l,a,b,c=>by rw[List.foldl_cons,Xhk l];simp
theorem Xh7 {x:Xb} (h:Xb9 x):Xe3 x=some x:=by
 have h1:=h.blk;have h2:=h.ent;simp only[Xe3,Xfj,List.nil_append]
 rw[decide_eq_true (by omega:x.2.2.2.1.length≤2147483648)]
 simp only[Ywx,Option.bind_some]
 rw[decide_eq_true (by omega:x.2.2.2.2.1.length≤2147483648)]
 rfl
def Xm (l:List Xb) (a:Int):Int:=(l.getD a.toNat Xa).1
def Xo (l:List Xb) (met:List Bool) (e:Xc):Bool:=
 cond (cond (decide (e.2.1≥(l.length:Int))) true (e.2.1 == 0)) false (cond (Xm l e.2.1 == 0) false (cond (Xm l e.2.1 == 2) (!(met.getD e.2.1.toNat false)) true))
abbrev Xb6:=List Bool×List Int×List Xc×Int
def Xr (l:List Xb) (t:Xb6) (e:Xc):Xb6:=
 cond (Xo l t.1 e) (t.1.set e.2.1.toNat true,t.2.1++cond (Xm l e.2.1 == 2) [e.2.1] [],t.2.2.1++[e],t.2.2.2) (t.1,t.2.1,t.2.2.1,t.2.2.2+1)
structure Xd1 (l:List Xb) (wr:Int) (i:Nat) (t:Xb6):Prop where
 len:t.1.length=l.length
 m0:t.1.getD 0 false=true
 p:t.2.1.length≤i
 q:t.2.2.1.length≤i
 w0:0≤t.2.2.2
 w1:t.2.2.2≤wr+i
theorem Xfo {b:List Bool} {j:Nat} (k:Nat) (h:b.getD k false=true):(b.set j true).getD k false=true:=by
 simp only[List.getD,List.getElem?_set] at h ⊢
 split
 ·rename_i e
  split
  ·rfl
  ·rename_i hl
   rw[List.getElem?_eq_none (by omega)] at h;cases h
 ·exact h
theorem Xd1.step {l:List Xb} {wr:Int} {i:Nat} {t:Xb6} (h:Xd1 l wr i t) (e:Xc):Xd1 l wr (i+1) (Xr l t e):=by
 unfold Xr
 cases Xo l t.1 e with
 |false=>exact⟨h.len,h.m0,by have:=h.p;simp only[Ywl];omega,by have:=h.q;simp only[Ywl];omega,by have:=h.w0;simp only[Ywl];omega,by have:=h.w1;simp only[Ywl];omega⟩
 |true=>
  refine⟨by simp only[Ywx,List.length_set];exact h.len,Xfo 0 h.m0,?_,?_,h.w0,by have:=h.w1;simp only[Ywx];omega⟩
  ·have:=h.p
   simp only[Ywx,List.length_append]
   cases Xm l e.2.1 == 2<;>simp<;>omega
  ·have:=h.q;simp;omega
theorem Xje (f:Fs_) (hn:f.1.length≤1000) (a:Int) (h0:0≤a):Xff f a=some (decide (a<(f.1.length:Int))):=by
 simp only[Xff,Xf8,Option.bind_some,Yrz (show -9223372036854775808≤(f.1.length:Int)-1 by omega) (by omega)]
 congr 1
 rw[Bool.eq_iff_iff,Xby];simp;omega
theorem Xh5 (f:Fs_) (hn:f.1.length≤10) (h2:Xm f.1 0=2) (d:Int) (es:List Xc) (hl:es.length≤6) (he:∀ e∈es,0≤e.2.1∧e.2.1≤9) (v out:Fs_) (q:List Int) (hq:q.length≤1000) (wr:Int) (met:List Bool)
  (hw0:0≤wr) (hw1:wr≤1000) (hm:met.length=f.1.length) (hm0:met.getD 0 false=true) :
  Xcn f d es v out (wr,0,met,q,[])=some ((es.foldl (Xr f.1) (met,[],[],wr)).2.2.2,(es.foldl (Xr f.1) (met,[],[],wr)).1,q++(es.foldl (Xr f.1) (met,[],[],wr)).2.1,(es.foldl (Xr f.1) (met,[],[],wr)).2.2.1):=by
 have h:=Yno (τ:=Xb6) (f:=fun s=>Xcn.B f d es v out s.1 s.2.1 s.2.2.1 s.2.2.2.1 s.2.2.2.2) es (fun i t=>(t.2.2.2,(i:Int),t.1,q++t.2.1,t.2.2.1)) (fun _ e t=>.inl (Xr f.1 t e))
  (fun t=>(t.2.2.2,t.1,q++t.2.1,t.2.2.1)) (fun i t=>Xd1 f.1 wr i t) (fun i hi t ht=>by
   have hee:=he _ (List.getElem_mem hi);simp only[Xcn.B,Yxe hi,Yxc hi,Ywx,toNat_cast,getD_lt _ hi];generalize es[i]=e at hee;have hp:=ht.p;have hqq:=ht.q;have hw:=ht.w1;have hw':=ht.w0
   rw[Xje f (by omega) _ hee.1]
   simp only[Option.bind_some,Ywe (by omega:i<4294967296),sel]
   by_cases hlt:e.2.1<(f.1.length:Int)
   ·have hb:inB e.2.1 f.1.length=true:=Yuq hee.1 hlt
    have hb2:inB e.2.1 t.1.length=true:=by rw[ht.len];exact hb
    have hge:decide (e.2.1≥(f.1.length:Int))=false:=by simp;omega
    have ek:(f.1.getD e.2.1.toNat Xa).1=Xm f.1 e.2.1:=rfl;simp only[decide_eq_true hlt,hb,hb2,Bool.not_true,Bool.not_false,Ywx,Ywl,Yvb,ek]
    have hl1:decide ((q++(t.2.1++[e.2.1])).length≤2147483648)=true:=by simp;omega
    have hl2:decide ((t.2.2.1++[e]).length≤2147483648)=true:=by simp;omega
    by_cases h0:e.2.1=0
    ·have e2:Xm f.1 e.2.1=2:=by rw[h0];exact h2
     have em:t.1.getD e.2.1.toNat false=true:=by rw[h0];exact ht.m0
     have hr:Xo f.1 t.1 e=false:=by unfold Xo;simp[h0]
     simp only[Xr,hr,e2,em,Ywl]
     simp only[show((2:Int) == 0)=false from rfl,show((2:Int) == 2)=true from rfl,Ywx,Ywl,Bool.not_false,Bool.and_self,Option.bind_some,Yxo (show 0≤t.2.2.2+1 by omega) (by omega)]
    ·have h0':(e.2.1 == 0)=false:=by simpa using h0
     cases hk0:Xm f.1 e.2.1 == 0 with
     |true=>
      have hr:Xo f.1 t.1 e=false:=by unfold Xo;simp only[hge,h0',hk0,Ywl,Ywx]
      simp only[Xr,hr,Ywl,Ywx,Bool.not_true,Bool.false_and,Option.bind_some,Yxo (show 0≤t.2.2.2+1 by omega) (by omega)]
     |false=>
      cases hk2:Xm f.1 e.2.1 == 2 with
      |true=>
       cases hm:t.1.getD e.2.1.toNat false with
       |true=>
        have hr:Xo f.1 t.1 e=false:=by unfold Xo;simp only[hge,h0',hk0,hk2,hm,Ywl,Ywx,Bool.not_true]
        simp only[Xr,hr,Ywl,Ywx,Bool.not_false,Bool.and_self,Option.bind_some,hk2,hm,Yxo (show 0≤t.2.2.2+1 by omega) (by omega)]
       |false=>
        have hr:Xo f.1 t.1 e=true:=by unfold Xo;simp only[hge,h0',hk0,hk2,hm,Ywl,Ywx,Bool.not_false]
        simp only[Xr,hr,Ywl,Ywx,Bool.not_false,Bool.and_self,Option.bind_some,hk2,hm,hl1,hl2,List.append_assoc]
      |false=>
       have hr:Xo f.1 t.1 e=true:=by unfold Xo;simp only[hge,h0',hk0,hk2,Ywl,Ywx]
       simp only[Xr,hr,Ywl,Ywx,Bool.not_false,Bool.and_false,Option.bind_some,hk2,hl2,List.append_nil]
   ·have hge:decide (e.2.1≥(f.1.length:Int))=true:=by simp;omega
    have hr:Xo f.1 t.1 e=false:=by unfold Xo;simp only[hge,Ywx]
    simp only[Xr,hr,decide_eq_false hlt,Bool.not_false,Bool.not_true,Ywx,Ywl,Option.bind_some,Bool.false_and,Yxo (show 0≤t.2.2.2+1 by omega) (by omega)])
  (fun i hi t t' ht e=>by cases e;exact ht.step _)
  (fun t ht=>by simp only[Xcn.B,Yxg (Nat.le_refl _),Ywl]) (met,[],[],wr) ⟨hm,hm0,Nat.le_refl _,Nat.le_refl _,hw0,by simp⟩ (s:=(wr,0,met,q,[])) (by simp)
 rw[Yfm] at h;exact h
def Xb1 (k:List Int) (es:List Xc):List Int:=es.foldl (fun k e=>k.set e.2.1.toNat (w64 (k.getD e.2.1.toNat 0+1))) k
theorem Xf7 (es:List Xc):∀ k:List Int,(Xb1 k es).length=k.length:=by
 induction es with
 |nil=>intro k;rfl
 |cons e es ih=>intro k;show(Xb1 _ es).length=_;rw[ih];simp
theorem Xgw (k:List Int) (es:List Xc) (e:Xc):Xb1 k (es++[e])=(Xb1 k es).set e.2.1.toNat (w64 ((Xb1 k es).getD e.2.1.toNat 0+1)):=by simp[Xb1]
theorem Xiu (l:List Xb) (hn:l.length≤10) (f:Fs_) (hf:f.1=l) (met:List Bool) (hm:met.length=l.length) (r:List (List Xc)×Int×(List Int)×(List Int)×Unit) (e:Xc) (h0:0≤e.2.1):Xev (f,met,r) e=some (Xo l met e):=by
 subst hf;unfold Xev Xfy Xo;simp only[Option.bind_some]
 cases h1:cond (decide (e.2.1≥(f.1.length:Int))) true (e.2.1 == 0) with
 |true=>rfl
 |false=>
  have hlt:e.2.1<(f.1.length:Int):=by
   cases h2:decide (e.2.1≥(f.1.length:Int)) with
   |true=>rw[h2] at h1;cases h1
   |false=>simp at h2;omega
  have hb:inB e.2.1 f.1.length=true:=Yuq h0 hlt
  have hb2:inB e.2.1 met.length=true:=by rw[hm];exact hb
  have ek:(f.1.getD e.2.1.toNat Xa).1=Xm f.1 e.2.1:=rfl;simp only[hb,hb2,Ywl,Ywx,ek]
  cases Xm f.1 e.2.1 == 0<;>cases Xm f.1 e.2.1 == 2<;>rfl
theorem Xhm (f:Fs_) (hn:f.1.length≤10) (a:Int) (ha:0≤a∧a<(f.1.length:Int)) (es:List Xc) (hl:es.length≤6) (he:∀ e∈es,0≤e.2.1∧e.2.1≤9) (q:List Int) (hq:q.length≤1000) (wr:Int) (met:List Bool)
  (E:List (List Xc)) (hE:E.length=f.1.length) (hEa:E.getD a.toNat []=[]) (K B:List Int) (hK:K.length=f.1.length) (hw0:0≤wr) (hw1:wr≤1000) (hm:met.length=f.1.length) (hm0:met.getD 0 false=true) :
  Xcl f a es (es.length:Int) f (0,q,(met,E,wr,K,B,()))=some (q++(es.foldl (Xr f.1) (met,[],[],wr)).2.1,((es.foldl (Xr f.1) (met,[],[],wr)).1,E.set a.toNat (es.foldl (Xr f.1) (met,[],[],wr)).2.2.1,(es.foldl (Xr f.1) (met,[],[],wr)).2.2.2,Xb1 K (es.foldl (Xr f.1) (met,[],[],wr)).2.2.1,B,())):=by
 have hat:a.toNat<f.1.length:=by omega
 have hE0:E.set a.toNat []=E:=by
  rw[←hEa]
  refine List.ext_getElem (by simp) fun i h1 h2=>?_
  rw[List.getElem_set]
  split
  ·rename_i e;subst e;exact getD_lt _ h2
  ·rfl
 have h:=Yno (τ:=Xb6) (f:=fun s=>Xcl.B f a es (es.length:Int) f s.1 s.2.1 s.2.2) es (fun i t=>((i:Int),q++t.2.1,(t.1,E.set a.toNat t.2.2.1,t.2.2.2,Xb1 K t.2.2.1,B,()))) (fun _ e t=>.inl (Xr f.1 t e))
  (fun t=>(q++t.2.1,(t.1,E.set a.toNat t.2.2.1,t.2.2.2,Xb1 K t.2.2.1,B,()))) (fun i t=>Xd1 f.1 wr i t) (fun i hi t ht=>by
   have hee:=he _ (List.getElem_mem hi);simp only[Xcl.B,Yxe hi,Yxc hi,Ywx,toNat_cast,getD_lt _ hi];generalize es[i]=e at hee;have hp:=ht.p;have hqq:=ht.q;have hw:=ht.w1;have hw':=ht.w0;rw[Xiu f.1 hn f rfl t.1 ht.len _ _ hee.1]
   simp only[Option.bind_some,Ywe (by omega:i<4294967296),sel]
   cases hr:Xo f.1 t.1 e with
   |false=>simp only[Xr,hr,Ywl,Ywx,Bool.not_false,Yxo (show 0≤t.2.2.2+1 by omega) (by omega)]
   |true=>
    have hlt:e.2.1<(f.1.length:Int):=by
     cases h2:decide (e.2.1≥(f.1.length:Int)) with
     |true=>unfold Xo at hr;rw[h2] at hr;simp only[Ywx] at hr;cases hr
     |false=>simp at h2;omega
    have hb:inB e.2.1 f.1.length=true:=Yuq hee.1 hlt
    have hb2:inB e.2.1 t.1.length=true:=by rw[ht.len];exact hb
    have hb3:inB e.2.1 (Xb1 K t.2.2.1).length=true:=by rw[Xf7,hK];exact hb
    have hb4:inB a (E.set a.toNat t.2.2.1).length=true:=by rw[List.length_set,hE];exact Yuq ha.1 ha.2
    have hl1:decide ((q++(t.2.1++[e.2.1])).length≤2147483648)=true:=by simp;omega
    have hl2:decide ((t.2.2.1++[e]).length≤2147483648)=true:=by simp;omega
    have ek:(f.1.getD e.2.1.toNat Xa).1=Xm f.1 e.2.1:=rfl
    have hEe:(E.set a.toNat t.2.2.1).getD a.toNat []=t.2.2.1:=Yvs _ _ (by omega)
    have hnb:Nat.beq a.toNat a.toNat=true:=Nat.beq_refl _
    have hmk:(cond (!(t.1.getD e.2.1.toNat false)) (Xm f.1 e.2.1 == 2) false)=(Xm f.1 e.2.1 == 2):=by
     cases hk2:Xm f.1 e.2.1 == 2 with
     |false=>exact Yvb _ _
     |true=>
      unfold Xo at hr;simp only[hk2,Ywx] at hr
      cases hm':t.1.getD e.2.1.toNat false with
      |false=>rfl
      |true=>
       rw[hm'] at hr
       revert hr
       cases cond (decide (e.2.1≥(f.1.length:Int))) true (e.2.1 == 0)<;>cases Xm f.1 e.2.1 == 0<;>simp
    simp only[Bool.not_true,Ywl,Ywx,hb,hb2,hb3,hb4,hEe,hl1,hl2,hnb,Bool.and_self,Option.bind_some,Yvb,ek,hmk,Xr,hr,Xgw,List.set_set]
    cases hk2:Xm f.1 e.2.1 == 2 with
    |true=>simp only[Ywx,List.append_assoc,hl1]
    |false=>simp only[Ywl,List.append_nil])
  (fun i hi t t' ht e=>by cases e;exact ht.step _)
  (fun t ht=>by simp only[Xcl.B,Yxg (Nat.le_refl _),Ywl]) (met,[],[],wr) ⟨hm,hm0,Nat.le_refl _,Nat.le_refl _,hw0,by simp⟩ (s:=(0,q,(met,E,wr,K,B,()))) (by simp[hE0,Xb1])
 rw[Yfm] at h;exact h
theorem Xgn {l:List Xb} {met:List Bool} {e:Xc} (h:Xo l met e=true):e.2.1<(l.length:Int)∧e.2.1≠0∧Xm l e.2.1≠0∧(Xm l e.2.1=2→met.getD e.2.1.toNat false=false):=by
 unfold Xo at h
 by_cases h1:e.2.1≥(l.length:Int)
 ·simp[h1] at h
 ·by_cases h2:e.2.1=0
  ·simp[h2] at h
  ·by_cases h3:Xm l e.2.1=0
   ·simp[h3] at h
   ·refine⟨by omega,h2,h3,fun h4=>?_⟩
    have a1:decide (e.2.1≥(l.length:Int))=false:=by simpa using h1
    have a2:(e.2.1 == 0)=false:=by simpa using h2
    have a4:(Xm l e.2.1 == 2)=true:=by simpa using h4
    rw[a1,a2,h4] at h
    simpa using h
structure Xeq (l:List Xb) (met0:List Bool) (es:List Xc) (t:Xb6):Prop where
 len:t.1.length=l.length
 mono:∀ j,on met0 j→on t.1 j
 ps:∀ p∈t.2.1,0≤p∧p<(l.length:Int)∧Xm l p=2∧¬ on met0 p.toNat∧on t.1 p.toNat
 nd:t.2.1.Nodup
 all:∀ j:Nat,on t.1 j→¬ on met0 j→Xm l j=2→(j:Int)∈t.2.1
 nz:∀ j:Nat,on t.1 j→¬ on met0 j→Xm l j≠0
 lf:∀ e∈t.2.2.1,e∈es∧0≤e.2.1∧e.2.1<(l.length:Int)∧on t.1 e.2.1.toNat
theorem Xeq.step {l:List Xb} {met0:List Bool} {es:List Xc} {t:Xb6} (h:Xeq l met0 es t) {e:Xc} (he:e∈es) (h0:0≤e.2.1):Xeq l met0 es (Xr l t e):=by
 unfold Xr
 cases hr:Xo l t.1 e with
 |false=>exact⟨h.len,h.mono,h.ps,h.nd,h.all,h.nz,h.lf⟩
 |true=>
  obtain⟨r1,r2,r3,r4⟩:=Xgn hr
  have hlt:e.2.1.toNat<t.1.length:=by rw[h.len];omega
  have hcast:((e.2.1.toNat:Nat):Int)=e.2.1:=by omega
  have hup:∀ j,on t.1 j→on (t.1.set e.2.1.toNat true) j:=fun j hj=>Xc8.2 (.inl hj)
  refine⟨by simp only[Ywx,List.length_set];exact h.len,fun j hj=>hup j (h.mono j hj),?_,?_,?_,?_,?_⟩
  ·intro p hp
   simp only[Ywx] at hp;rcases List.mem_append.1 hp with hp | hp
   ·obtain⟨q1,q2,q3,q4,q5⟩:=h.ps p hp
    exact⟨q1,q2,q3,q4,hup _ q5⟩
   ·cases hk:Xm l e.2.1 == 2 with
    |false=>rw[hk] at hp;cases hp
    |true=>
     rw[hk] at hp;simp only[Ywx,List.mem_singleton] at hp;subst hp
     have hk2:Xm l e.2.1=2:=by simpa using hk
     exact⟨h0,r1,hk2,(fun hm=>by have:=h.mono _ hm;unfold on at this;rw[r4 hk2] at this;cases this),Xc8.2 (.inr ⟨rfl,hlt⟩)⟩
  ·simp only[Ywx]
   cases hk:Xm l e.2.1 == 2 with
   |false=>simpa using h.nd
   |true=>
    have hk2:Xm l e.2.1=2:=by simpa using hk
    simp only[Ywx]
    refine List.nodup_append.2 ⟨h.nd,by simp,fun a ha b hb=>?_⟩
    simp only[List.mem_singleton] at hb;subst hb;intro e';subst e';have:=(h.ps _ ha).2.2.2.2;unfold on at this;rw[r4 hk2] at this;cases this
  ·intro j hj hn hk
   simp only[Ywx] at hj ⊢;rcases Xc8.1 hj with hj | ⟨rfl,_⟩
   ·exact List.mem_append.2 (.inl (h.all j hj hn hk))
   ·rw[hcast] at hk ⊢
    rw[hk];simp
  ·intro j hj hn
   simp only[Ywx] at hj;rcases Xc8.1 hj with hj | ⟨rfl,_⟩
   ·exact h.nz j hj hn
   ·rw[hcast];exact r3
  ·intro x hx
   simp only[Ywx] at hx ⊢;rcases List.mem_append.1 hx with hx | hx
   ·obtain⟨q1,q2,q3,q4⟩:=h.lf x hx
    exact⟨q1,q2,q3,hup _ q4⟩
   ·simp only[List.mem_singleton] at hx
    subst hx;exact⟨he,h0,r1,Xc8.2 (.inr ⟨rfl,hlt⟩)⟩
theorem Xg2 {l:List Xb} {met0:List Bool} {es0:List Xc} (hd:∀ e∈es0,0≤e.2.1):∀ (es:List Xc) (t:Xb6),(∀ e∈es,e∈es0)→Xeq l met0 es0 t→Xeq l met0 es0 (es.foldl (Xr l) t)
 |[],t,_,h=>h
 |e::es,t,hs,h=>Xg2 hd es _ (fun x hx=>hs x (List.mem_cons_of_mem _ hx)) (h.step (hs e List.mem_cons_self) (hd e (hs e List.mem_cons_self)))
theorem Xg4 {l:List Xb} {wr:Int}:∀ (es:List Xc) (i:Nat) (t:Xb6),Xd1 l wr i t→Xd1 l wr (i+es.length) (es.foldl (Xr l) t)
 |[],i,t,h=>h
 |e::es,i,t,h=>by
  have:=Xg4 es (i+1) _ (h.step e)
  rwa [show i+(e::es).length=i+1+es.length by simp;omega]
theorem Xf0:∀ (es:List Xc) (K:List Int) (M:Int),(∀ j,0≤K.getD j 0∧K.getD j 0≤M)→M+es.length≤1000000→(∀ e∈es,0≤e.2.1∧e.2.1.toNat<K.length)→
  ∀ j,(Xb1 K es).getD j 0=K.getD j 0+(((es.map fun e=>e.2.1).count (j:Int):Nat):Int)
 |[],K,M,_,_,_,j=>by simp[Xb1]
 |e::es,K,M,hK,hM,he,j=>by
  obtain⟨h0,hlt⟩:=he e List.mem_cons_self;have hKe:=hK e.2.1.toNat
  have hlen:((e::es).length:Int)=es.length+1:=by simp
  have hw:w64 (K.getD e.2.1.toNat 0+1)=K.getD e.2.1.toNat 0+1:=Yrz (by omega) (by omega)
  have hg:∀ j,(K.set e.2.1.toNat (K.getD e.2.1.toNat 0+1)).getD j 0=K.getD j 0+(if e.2.1=(j:Int) then 1 else 0):=by
   intro j
   by_cases hj:e.2.1.toNat=j
   ·subst hj
    rw[Yvs _ _ hlt,if_pos (by omega)]
   ·rw[if_neg (by omega)]
    simp only[List.getD,List.getElem?_set,hj,if_false];omega
  show(Xb1 (K.set e.2.1.toNat (w64 (K.getD e.2.1.toNat 0+1))) es).getD j 0=_
  rw[hw,Xf0 es _ (M+1) (fun j=>by rw[hg];have:=hK j;split<;>omega) (by omega) (fun x hx=>by rw[List.length_set];exact he x (List.mem_cons_of_mem _ hx)) j,hg,List.map_cons,List.count_cons]
  by_cases hj:e.2.1=(j:Int)
  ·rw[if_pos hj,if_pos (by simpa using hj)];omega
  ·rw[if_neg hj,if_neg (by simpa using hj)];omega
def Xe9 (T:List (List Xc)) (j:Int):Nat:=(T.flatMap fun es=>es.map fun e=>e.2.1).count j
theorem Xfv:∀ (T:List (List Xc)) (a:Nat) (left:List Xc) (j:Int),a<T.length→T.getD a []=[]→Xe9 (T.set a left) j=Xe9 T j+(left.map fun e=>e.2.1).count j
 |[],a,left,j,h,_=>by simp at h
 |t::T,0,left,j,h,he=>by
  have:t=[]:=he;subst this
  simp[Xe9,List.count_append];omega
 |t::T,a+1,left,j,h,he=>by
  have:=Xfv T a left j (by simpa using h) (by simpa using he)
  simp only[Xe9,List.set_cons_succ,List.flatMap_cons,List.count_append] at this ⊢;omega
theorem Xbw:∀ (n:Nat) (P:List Nat),P.Nodup→(∀ x∈P,x<n)→P.length≤n
 |0,P,_,h=>by
  cases P with
  |nil=>simp
  |cons x P=>have:=h x List.mem_cons_self;omega
 |n+1,P,hn,h=>by
  by_cases hm:n∈P
  ·have h1:=Xbw n (P.erase n) (hn.erase _) (fun x hx=>by
    have h2:=(List.Nodup.mem_erase_iff hn).1 hx;have h3:=h x h2.2
    omega)
   rw[List.length_erase_of_mem hm] at h1;omega
  ·have:=Xbw n P hn (fun x hx=>by
    have h3:=h x hx;have:x≠n:=fun e=>hm (e▸hx)
    omega)
   omega
def Xn {α β:Type} (h:Nat→α→β) (d:α) (l:List α):List β:=(List.range l.length).map fun i=>h i (l.getD i d)
theorem Xv {α β:Type} (h:Nat→α→β) (d:α) (l:List α):(Xn h d l).length=l.length:=by simp[Xn]
theorem Xaa {α β:Type} (h:Nat→α→β) (d:α) (l:List α) (i:Nat) (hi:i<(Xn h d l).length):(Xn h d l)[i]=h i (l.getD i d):=by simp[Xn]
theorem Xa8 {α β:Type} (h:Nat→α→β) (d:α) (l:List α) (i:Nat) (hi:i<l.length) (d':β):(Xn h d l).getD i d'=h i (l.getD i d):=by
 rw[getD_lt _ (by rw[Xv];exact hi),Xaa]
theorem Xej {α:Type} (d:α) (l:List α):Xn (fun _ x=>x) d l=l:=by
 refine List.ext_getElem (Xv _ _ _) fun i h1 h2=>?_;rw[Xaa,getD_lt _ h2]
theorem Xfs {α β:Type} (h:Nat→α→β) (d:α) (l:List α) (i:Nat) (v:β) (hi:i<l.length):(Xn h d l).set i v=Xn (fun j x=>if j=i then v else h j x) d l:=by
 refine List.ext_getElem (by simp[Xv]) fun j h1 h2=>?_
 rw[List.getElem_set];simp only[Xaa]
 by_cases e:i=j
 ·rw[if_pos e,if_pos e.symm]
 ·rw[if_neg e,if_neg (fun h=>e h.symm)]
theorem X4 {α β:Type} {h g:Nat→α→β} {d:α} {l:List α} (e:∀ i,i<l.length→h i (l.getD i d)=g i (l.getD i d)):Xn h d l=Xn g d l:=by
 refine List.ext_getElem (by simp[Xv]) fun j h1 h2=>?_
 rw[Xaa,Xaa]
 exact e j (by simpa [Xv] using h1)
def Xcj (x:Xb) (es:List Xc):Xb:=(x.1,x.2.1,x.2.2.1,x.2.2.2.1,es,x.2.2.2.2.2)
def Xbq (l:List Xb) (P:List Nat) (T:List (List Xc)):List Xb:=Xn (fun i x=>if i∈P then Xcj x (T.getD i []) else x) Xa l
structure Xg0 (l:List Xb) (q:List Int) (met:List Bool) (T:List (List Xc)) (wr:Int) (K:List Int) (P:List Nat):Prop where
 len:met.length=l.length
 tl:T.length=l.length
 kl:K.length=l.length
 m0:on met 0
 nd:(P++q.map Int.toNat).Nodup
 qp:∀ a∈q,0≤a∧a<(l.length:Int)
 qk:∀ j∈P++q.map Int.toNat,j<l.length∧Xm l j=2∧on met j
 al:∀ j:Nat,on met j→Xm l j=2→j∈P++q.map Int.toNat
 nz:∀ j:Nat,on met j→Xm l j≠0
 te:∀ j,j∉P→T.getD j []=[]
 tb:∀ j,(T.getD j []).length≤6∧∀ e∈T.getD j [],e∈Xy l j∧0≤e.2.1∧e.2.1<(l.length:Int)
 kc:∀ j:Nat,K.getD j 0=((Xe9 T j:Nat):Int)
 kb:∀ j:Nat,K.getD j 0≤6*P.length
 w0:0≤wr
 w1:wr≤6*P.length
theorem Xg1 (x:Xb) (es:List Xc):(x.1,x.2.1,x.2.2.1,x.2.2.2.1,es,x.2.2.2.2.2)=Xcj x es:=rfl
theorem Xf3 (f:Fs_) (hn:f.1.length≤10) (h2:Xm f.1 0=2) (hent:∀ j,(Xy f.1 j).length≤6∧∀ e∈Xy f.1 j,0≤e.2.1∧e.2.1≤9) (v:Fs_) (B:List Int) (D:List (List Int)) :
  ∀ (k:Nat) (q:List Int) (met:List Bool) (T:List (List Xc)) (wr:Int) (K:List Int) (P:List Nat),Xg0 f.1 q met T wr K P→f.1.length≤k+P.length→
  ∃ met' T' wr' K' P',Xg0 f.1 [] met' T' wr' K' P'∧Xd8 f f (q,(met,T,wr,K,B,()))=some (met',T',wr',K',B,())∧
   Xdo f v (wr,(Xbq f.1 P T,D,()),met,q)=some (wr',(Xbq f.1 P' T',D,()),met')
 |k,[],met,T,wr,K,P,I,hk=>⟨met,T,wr,K,P,I,Y5 (by simp[Xd8.B]),Y5 (by simp[Xdo.B])⟩
 |0,a::q,met,T,wr,K,P,I,hk=>by
  have h1:=Xbw _ _ I.nd (fun x hx=>(I.qk x hx).1)
  simp at h1;omega
 |k+1,a::q,met,T,wr,K,P,I,hk=>by
  have ha:=I.qp a List.mem_cons_self
  have hcast:((a.toNat:Nat):Int)=a:=by omega
  have hat:a.toNat<f.1.length:=by omega
  have hPn:=Xbw _ _ I.nd (fun x hx=>(I.qk x hx).1);simp only[List.length_append,List.map_cons,List.length_cons,List.length_map] at hPn;have hnd:=I.nd;rw[List.map_cons] at hnd
  have haP:a.toNat∉P:=fun h=>by
   have:=(List.nodup_append.1 hnd).2.2 _ h _ List.mem_cons_self;exact this rfl
  have hTa:=I.te _ haP;obtain⟨hel,heb⟩:=hent a.toNat
  let r:=(Xy f.1 a.toNat).foldl (Xr f.1) (met,[],[],wr)
  have hr:(Xy f.1 a.toNat).foldl (Xr f.1) (met,[],[],wr)=r:=rfl;have hw1:=I.w1
  have S:Xeq f.1 met (Xy f.1 a.toNat) r:=Xg2 (fun e he=>(heb e he).1) _ _ (fun _ h=>h) ⟨I.len,fun _ h=>h,(fun _ h=>by cases h),List.nodup_nil,(fun j h1 h2=>absurd h1 h2),(fun j h1 h2=>absurd h1 h2),(fun _ h=>by cases h)⟩
  have L:Xd1 f.1 wr (0+(Xy f.1 a.toNat).length) r:=Xg4 _ 0 _ ⟨I.len,I.m0,Nat.le_refl _,Nat.le_refl _,I.w0,by simp⟩
  have Lq:=L.q;have Lw:=L.w1
  have hleft:r.2.2.1.length≤6:=by omega
  have e1:=Xhm f hn a ha (Xy f.1 a.toNat) hel heb (a::q) (by simp;omega) wr met T I.tl hTa K B I.kl I.w0 (by omega) I.len I.m0
  have e2:=Xh5 f hn h2 a (Xy f.1 a.toNat) hel heb v (Xbq f.1 P T,D,()) q (by omega) wr met I.w0 (by omega) I.len I.m0
  rw[hr] at e1 e2
  have hTset:∀ j,(T.set a.toNat r.2.2.1).getD j []=if j=a.toNat then r.2.2.1 else T.getD j []:=by
   intro j
   by_cases hj:j=a.toNat
   ·subst hj;rw[if_pos rfl,Yvs _ _ (by rw[I.tl];exact hat)]
   ·rw[if_neg hj];simp only[List.getD,List.getElem?_set];rw[if_neg (fun h=>hj h.symm)]
  have hKn:∀ j:Nat,0≤K.getD j 0∧K.getD j 0≤60:=fun j=>⟨by rw[I.kc];omega,by have:=I.kb j;omega⟩
  have hK':=Xf0 r.2.2.1 K 60 hKn (by omega) (fun e he=>by have:=S.lf e he;rw[I.kl];omega)
  have hout:(Xbq f.1 P T).set a.toNat (Xcj ((Xbq f.1 P T).getD a.toNat Xa) r.2.2.1)=Xbq f.1 (P++[a.toNat]) (T.set a.toNat r.2.2.1):=by
   unfold Xbq;rw[Xfs _ _ _ _ _ hat];refine X4 fun i hi=>?_
   by_cases e:i=a.toNat
   ·subst e
    rw[if_pos rfl,if_pos (by simp),Xa8 _ _ _ _ hat,if_neg haP,hTset,if_pos rfl]
   ·rw[if_neg e,hTset,if_neg e]
    have:(i∈P++[a.toNat])↔i∈P:=by simp[e]
    by_cases hiP:i∈P
    ·rw[if_pos hiP,if_pos (this.2 hiP)]
    ·rw[if_neg hiP,if_neg (fun h=>hiP (this.1 h))]
  have I':Xg0 f.1 (q++r.2.1) r.1 (T.set a.toNat r.2.2.1) r.2.2.2 (Xb1 K r.2.2.1) (P++[a.toNat]):=by
   have hmem:∀ j,j∈(P++[a.toNat])++(q++r.2.1).map Int.toNat↔(j∈P++(a::q).map Int.toNat)∨j∈r.2.1.map Int.toNat:=by
    intro j;simp only[List.map_append,List.map_cons,List.mem_append,List.mem_cons,List.not_mem_nil,or_false]
    constructor
    ·rintro((h | h) | (h | h))
     ·exact .inl (.inl h)
     ·exact .inl (.inr (.inl h))
     ·exact .inl (.inr (.inr h))
     ·exact .inr h
    ·rintro((h | (h | h)) | h)
     ·exact .inl (.inl h)
     ·exact .inl (.inr h)
     ·exact .inr (.inl h)
     ·exact .inr (.inr h)
   have hpush:∀ j∈r.2.1.map Int.toNat,j<f.1.length∧Xm f.1 j=2∧¬ on met j∧on r.1 j:=by
    intro j hj;obtain⟨p,hp,rfl⟩:=List.mem_map.1 hj;obtain⟨q1,q2,q3,q4,q5⟩:=S.ps p hp
    have hc:((p.toNat:Nat):Int)=p:=by omega
    exact⟨by omega,by rw[hc];exact q3,q4,q5⟩
   have hpl:((P++[a.toNat]).length:Int)=P.length+1:=by simp
   refine⟨S.len,by rw[List.length_set];exact I.tl,by rw[Xf7];exact I.kl,S.mono _ I.m0,?_,?_,?_,?_,?_,?_,?_,?_,?_,L.w0,by omega⟩
   ·have h1:(P++[a.toNat])++(q++r.2.1).map Int.toNat=(P++(a::q).map Int.toNat)++r.2.1.map Int.toNat:=by simp
    rw[h1];refine List.nodup_append.2 ⟨I.nd,?_,fun x hx y hy e=>?_⟩
    ·have:∀ (l:List Int),(∀ p∈l,0≤p)→l.Nodup→(l.map Int.toNat).Nodup:=by
      intro l
      induction l with
      |nil=>intro _ _;simp
      |cons p l ih=>
       intro h1 h2;rw[List.nodup_cons] at h2;rw[List.map_cons,List.nodup_cons];refine⟨fun hm=>?_,ih (fun x hx=>h1 x (List.mem_cons_of_mem _ hx)) h2.2⟩;obtain⟨p',hp',e⟩:=List.mem_map.1 hm;have a1:=h1 p List.mem_cons_self;have a2:=h1 p' (List.mem_cons_of_mem _ hp')
       have:p'=p:=by omega
       subst this;exact h2.1 hp'
     exact this _ (fun p hp=>(S.ps p hp).1) S.nd
    ·subst e
     exact(hpush x hy).2.2.1 (I.qk x hx).2.2
   ·intro x hx
    rcases List.mem_append.1 hx with hx | hx
    ·exact I.qp x (List.mem_cons_of_mem _ hx)
    ·exact⟨(S.ps x hx).1,(S.ps x hx).2.1⟩
   ·intro j hj
    rcases(hmem j).1 hj with hj | hj
    ·obtain⟨q1,q2,q3⟩:=I.qk j hj
     exact⟨q1,q2,S.mono _ q3⟩
    ·obtain⟨q1,q2,q3,q4⟩:=hpush j hj
     exact⟨q1,q2,q4⟩
   ·intro j hj hk2
    refine(hmem j).2 ?_
    by_cases hm:on met j
    ·exact .inl (I.al j hm hk2)
    ·exact .inr (List.mem_map.2 ⟨(j:Int),S.all j hj hm hk2,by simp⟩)
   ·intro j hj
    by_cases hm:on met j
    ·exact I.nz j hm
    ·exact S.nz j hj hm
   ·intro j hj
    have hj1:j∉P:=fun h=>hj (List.mem_append.2 (.inl h))
    have hj2:j≠a.toNat:=fun h=>hj (by simp[h])
    rw[hTset,if_neg hj2];exact I.te j hj1
   ·intro j
    rw[hTset]
    split
    ·rename_i e;subst e
     exact⟨hleft,fun e he=>⟨(S.lf e he).1,(S.lf e he).2.1,(S.lf e he).2.2.1⟩⟩
    ·exact I.tb j
   ·intro j
    rw[hK',I.kc,Xfv T a.toNat r.2.2.1 j (by rw[I.tl];exact hat) hTa];omega
   ·intro j
    rw[hK'];have h3:=I.kb j;have h4:=List.count_le_length (a:=(j:Int)) (l:=r.2.2.1.map fun e=>e.2.1);rw[List.length_map] at h4;omega
  obtain⟨met',T',wr',K',P',J,j1,j2⟩:=Xf3 f hn h2 hent v B D k (q++r.2.1) r.1 (T.set a.toNat r.2.2.1) r.2.2.2 (Xb1 K r.2.2.1) (P++[a.toNat]) I' (by simp;omega)
  refine⟨met',T',wr',K',P',J,?_,?_⟩
  ·rw[←j1]
   refine Yar ?_;have g0:(a::q).getD ((0:Int).toNat) 0=a:=rfl
   have g1:decide (((a::q).length:Int)>0)=true:=by simp
   have g2:inB 0 (a::q).length=true:=Yuq (by omega) (by simp)
   have g3:inB a f.1.length=true:=Yuq ha.1 ha.2;simp only[Xd8.B,g0,g1,g2,g3,Ywx,Option.bind_some];rw[show(((((f.1.getD a.toNat Xa).2).2).2).2).1=Xy f.1 a.toNat from rfl,e1];have g4:(a::q++r.2.1).drop ((1:Int).toNat)=q++r.2.1:=rfl
   have g5:(decide ((0:Int)≤(1:Int))&&decide ((1:Int)≤((a::q++r.2.1).length:Int)))=true:=by simp;omega
   simp only[Option.bind_some,g5,Ywx,g4]
   rw[List.take_of_length_le (by simp)]
  ·rw[←j2]
   refine Yar ?_;have g0:(a::q).getD ((0:Int).toNat) 0=a:=rfl
   have g1:decide (((a::q).length:Int)>0)=true:=by simp
   have g2:inB 0 (a::q).length=true:=Yuq (by omega) (by simp)
   have g3:inB a f.1.length=true:=Yuq ha.1 ha.2;have g4:(a::q).drop ((1:Int).toNat)=q:=rfl
   have g5:(decide ((0:Int)≤(1:Int))&&decide ((1:Int)≤((a::q).length:Int)))=true:=by simp;omega
   have g6:inB a (Xbq f.1 P T).length=true:=by rw[show(Xbq f.1 P T).length=f.1.length from Xv _ _ _];exact g3
   simp only[Xdo.B,g0,g1,g2,g3,g4,g5,g6,Ywx,Option.bind_some]
   rw[List.take_of_length_le (by simp),show(((((f.1.getD a.toNat Xa).2).2).2).2).1=Xy f.1 a.toNat from rfl,e2]
   simp only[Option.bind_some];rw[Xg1,hout]
def upN {α β:Type} (N O:Nat→α→β) (d:α) (l:List α) (i:Nat):List β:=Xn (fun j x=>if j<i then N j x else O j x) d l
theorem Xx {α:Type} {β:Type} {N:Nat→α→β} {O:Nat→α→β} {d:α} {l:List α} (i:Nat):(upN N O d l i).length=l.length:=Xv _ _ _
theorem Xa4 {α:Type} {β:Type} {N:Nat→α→β} {O:Nat→α→β} {d:α} {l:List α}:upN N O d l 0=Xn O d l:=X4 fun i _=>by simp
theorem Xbz {α:Type} {β:Type} {N:Nat→α→β} {O:Nat→α→β} {d:α} {l:List α}:upN N O d l l.length=Xn N d l:=X4 fun i hi=>by rw[if_pos hi]
theorem Xab {α:Type} {β:Type} {N:Nat→α→β} {O:Nat→α→β} {d:α} {l:List α} {i:Nat} (hi:i<l.length) (d':β):(upN N O d l i).getD i d'=O i (l.getD i d):=by
 unfold upN;rw[Xa8 _ _ _ _ hi,if_neg (Nat.lt_irrefl _)]
theorem X9 {α:Type} {β:Type} {N:Nat→α→β} {O:Nat→α→β} {d:α} {l:List α} {i:Nat} (hi:i<l.length) {v:β} (hv:v=N i (l.getD i d)):(upN N O d l i).set i v=upN N O d l (i+1):=by
 unfold upN;rw[Xfs _ _ _ _ _ hi];refine X4 fun j hj=>?_
 by_cases e:j=i
 ·subst e;rw[if_pos rfl,if_pos (Nat.lt_succ_self _),hv]
 ·rw[if_neg e]
  by_cases h:j<i
  ·rw[if_pos h,if_pos (by omega)]
  ·rw[if_neg h,if_neg (by omega)]
theorem Xbs {α:Type} {β:Type} {N:Nat→α→β} {O:Nat→α→β} {d:α} {l:List α} {i:Nat} (hi:i<l.length) (h:N i (l.getD i d)=O i (l.getD i d)):upN N O d l i=upN N O d l (i+1):=
 X4 fun j hj=>by
  by_cases e:j=i
  ·subst e;rw[if_neg (Nat.lt_irrefl _),if_pos (Nat.lt_succ_self _),h]
  ·by_cases h:j<i
   ·rw[if_pos h,if_pos (by omega)]
   ·rw[if_neg h,if_neg (by omega)]
def Xl (l:List Xb) (i:Nat):List Int:=(l.getD i Xa).2.2.2.1
def tkF (met:List Bool) (l:List Xb):Nat→List Int
 |0=>[]
 |i+1=>tkF met l i++cond (met.getD i false) ((Xl l i).takeWhile fun b=>!(tkF met l i).contains b) []
def kbF (met:List Bool) (l:List Xb) (i:Nat):List Int:=cond (met.getD i false) ((Xl l i).takeWhile fun b=>!(tkF met l i).contains b) []
theorem Xcs (met:List Bool) (l:List Xb) (i:Nat):tkF met l (i+1)=tkF met l i++kbF met l i:=rfl
theorem Xct {α:Type} (p:α→Bool):∀ l:List α,(l.takeWhile p).length≤l.length
 |[]=>by simp
 |x::l=>by
  rw[List.takeWhile_cons]
  split
  ·have:=Xct p l;simp;omega
  ·simp
theorem take_takeWhile {α:Type} (p:α→Bool):∀ l:List α,l.take (l.takeWhile p).length=l.takeWhile p
 |[]=>by simp
 |x::l=>by
  rw[List.takeWhile_cons]
  split
  ·simp[take_takeWhile p l]
  ·simp
theorem Xb4 {α:Type} {p:α→Bool} {x:α}:∀ {l:List α},x∈l.takeWhile p→x∈l
 |y::l,h=>by
  rw[List.takeWhile_cons] at h
  split at h
  ·rcases List.mem_cons.1 h with rfl | h
   ·exact List.mem_cons_self
   ·exact List.mem_cons_of_mem _ (Xb4 h)
  ·cases h
theorem Xek:∀ (l a:List Int),Xc2 a l=false→l.Nodup∧∀ x∈l,x∉a
 |[],a,_=>⟨List.nodup_nil,fun _ h=>by cases h⟩
 |x::l,a,h=>by
  simp only[Xc2,Bool.or_eq_false_iff] at h;obtain⟨h1,h2⟩:=Xek l _ h.2
  have hx:x∉a:=by have:=h.1;simpa using this
  refine⟨List.nodup_cons.2 ⟨fun hm=>h2 x hm (by simp),h1⟩,fun y hy=>?_⟩
  rcases List.mem_cons.1 hy with rfl | hy
  ·exact hx
  ·exact fun hm=>h2 y hy (by simp[hm])
structure InD (x:Xb):Prop where
 nd:x.2.2.2.1.Nodup
 bl:x.2.2.2.1.length≤4∧∀ b∈x.2.2.2.1,0≤b∧b≤19
 fre:x.1=0→x=Xa
 ent:x.1≠2→x.2.2.2.2.1=[]
 dir:x.1≠1→x.2.2.2.1=[]
 knd:0≤x.1∧x.1≤2
 sz:0≤x.2.2.1∧x.2.2.1≤32
 fil:x.1=1→(x.2.2.2.1.length:Int)=Xee x.2.2.1
 el:x.2.2.2.2.1.length≤6
theorem InD.of {x:Xb} (h:X3 x=0):InD x:=by
 obtain⟨h1,h2,h3,h4⟩:=Xam h;obtain⟨g1,g2,g3,g4,g5,g6⟩:=Xae h
 have hf:x.1=1→inR x.2.2.1 0 32=true∧(x.2.2.2.1.length:Int)=Xee x.2.2.1∧Xc2 [] x.2.2.2.1=false:=by
  intro e;have:=h4 e;unfold Xd3 at this
  cases a1:inR x.2.1 1 60 with
  |false=>rw[a1] at this;cases this
  |true=>
   cases a2:inR x.2.2.1 0 32 with
   |false=>rw[a1,a2] at this;cases this
   |true=>
    cases a3:((x.2.2.2.1.length:Int) != Xee x.2.2.1) with
    |true=>rw[a1,a2,a3] at this;cases this
    |false=>
     cases a4:(x.2.2.2.1.any fun b=>!inR b 0 19) with
     |true=>rw[a1,a2,a3,a4] at this;cases this
     |false=>
      cases a5:Xc2 [] x.2.2.2.1 with
      |true=>rw[a1,a2,a3,a4,a5] at this;cases this
      |false=>exact⟨rfl,by simpa using a3,rfl⟩
 refine⟨?_,⟨h1,h2⟩,fun e=>?_,g3,h3,g1,?_,fun e=>(hf e).2.1,g2⟩
 ·by_cases e:x.1=1
  ·exact(Xek _ _ (hf e).2.2).1
  ·rw[h3 e];exact List.nodup_nil
 ·obtain⟨a,b,c,d,es,⟨⟩⟩:=x
  have e':a=0:=e;subst e'
  have b1:b=0∧c=0:=g5 (by show(0:Int)≠1;decide)
  have b2:d=[]:=h3 (by show(0:Int)≠1;decide)
  have b3:es=[]:=g3 (by show(0:Int)≠2;decide)
  rw[b1.1,b1.2,b2,b3];rfl
 ·by_cases e:x.1=1
  ·exact Xby.1 (hf e).1
  ·rw[(g5 e).2];decide
structure Xga (l:List Xb):Prop where
 len:l.length≤10
 all:∀ j,InD (l.getD j Xa)
theorem Xga.of {l:List Xb} (h:Xt l=0):Xga l:=by
 refine⟨(Xu h).1,fun j=>?_⟩
 by_cases hj:j<l.length
 ·rw[getD_lt _ hj];exact InD.of ((Xu h).2 _ (List.getElem_mem hj))
 ·have:l.getD j Xa=Xa:=by simp only[List.getD,List.getElem?_eq_none (by omega:l.length≤j)];rfl
  rw[this]
  exact⟨List.nodup_nil,⟨by simp[Xa],fun b hb=>by cases hb⟩,fun _=>rfl,fun _=>rfl,fun _=>rfl,by decide,by decide,(fun e=>by cases e),by simp[Xa]⟩
theorem Xg7 {met:List Bool} {l:List Xb} {i:Nat} {b:Int} (h:b∈kbF met l i):b∈Xl l i:=by
 unfold kbF at h
 cases hm:met.getD i false with
 |false=>rw[hm] at h;cases h
 |true=>rw[hm] at h;exact Xb4 h
theorem Xai (met:List Bool) (l:List Xb) (i:Nat):(kbF met l i).length≤(Xl l i).length:=by
 unfold kbF
 cases met.getD i false with
 |false=>simp
 |true=>exact Xct _ _
theorem Xf5 (met:List Bool) (l:List Xb) (i:Nat):(Xl l i).take (kbF met l i).length=kbF met l i:=by
 unfold kbF
 cases met.getD i false with
 |false=>simp
 |true=>exact take_takeWhile _ _
theorem Xgf {met:List Bool} {l:List Xb} (h:Xga l):∀ i,(tkF met l i).length≤4*i
 |0=>by simp[tkF]
 |i+1=>by
  have h1:=Xgf (met:=met) h i;have h2:=Xai met l i;have h3:(Xl l i).length≤4:=(h.all i).bl.1;rw[Xcs,List.length_append];omega
theorem Xie {f:Fs_} (at_ v17 v21:Int) (l:List Xb) (bs:List Int) (hb:bs.length≤4) (hnd:bs.Nodup) (tk:List Int) (ht:tk.length≤100) (n:Nat) (hn:at_=(n:Int)) (met:List Bool) (T:List (List Xc)) (wr:Int) (K B:List Int) (hB:n<B.length) (hB0:B.getD n 0=0) :
  Xcp at_ l v17 v21 bs (bs.length:Int) f (0,tk,(met,T,wr,K,B,()))=some (tk++bs.takeWhile (fun b=>!tk.contains b),(met,T,wr,K,B.set n ((bs.takeWhile fun b=>!tk.contains b).length:Int),())):=by
 subst hn
 have hset:B.set n ((0:Nat):Int)=B:=by
  rw[show((0:Nat):Int)=B.getD n 0 from hB0.symm]
  refine List.ext_getElem (by simp) fun i h1 h2=>?_
  rw[List.getElem_set]
  split
  ·rename_i e;subst e;exact getD_lt _ h2
  ·rfl
 have h:=Yno (τ:=List Int) bs (f:=fun s=>Xcp.B (n:Int) l v17 v21 bs (bs.length:Int) f s.1 s.2.1 s.2.2) (fun i t=>((i:Int),tk++t,(met,T,wr,K,B.set n (t.length:Int),())))
  (fun i b t=>cond ((tk++t).contains b) (.inr (tk++t,(met,T,wr,K,B.set n (t.length:Int),()))) (.inl (t++[b])))
  (fun t=>(tk++t,(met,T,wr,K,B.set n (t.length:Int),()))) (fun i t=>t.length≤i) (fun i hi t ht2=>by
   have hc:Xds (tk++t) bs[i]=some ((tk++t).contains bs[i]):=Xhj _ _ (by simp;omega)
   have hb1:inB (n:Int) (B.set n (t.length:Int)).length=true:=Yxc (by simpa using hB)
   have hg:(B.set n (t.length:Int)).getD n 0=(t.length:Int):=Yvs _ _ hB
   simp only[Xcp.B,Yxe hi,Yxc hi,Ywx,toNat_cast,getD_lt _ hi,hc,Option.bind_some,hb1,hg,Ywe (by omega:i<4294967296),Ywe (by omega:t.length<4294967296),List.set_set]
   cases (tk++t).contains bs[i] with
   |true=>rfl
   |false=>
    simp only[Ywl,sel]
    rw[show decide ((tk++t++[bs[i]]).length≤2147483648)=true by simp;omega]
    simp[List.append_assoc])
  (fun i hi t t' ht2 e=>by
   cases hc:(tk++t).contains bs[i] with
   |true=>rw[hc] at e;cases e
   |false=>rw[hc] at e;cases e;simp;omega)
  (fun t ht2=>by simp only[Xcp.B,Yxg (Nat.le_refl _),Ywl]) [] (Nat.le_refl _) (s:=(0,tk,(met,T,wr,K,B,()))) (by simp only[List.append_nil,List.length_nil,hset];rfl)
 refine Eq.trans h ?_
 have key:∀ (bs:List Int) (i:Nat) (t:List Int),bs.Nodup→(∀ b∈bs,b∉t)→Yba (fun i b t=>cond ((tk++t).contains b) (.inr (tk++t,(met,T,wr,K,B.set n (t.length:Int),()))) (.inl (t++[b])))
  (fun t=>(tk++t,(met,T,wr,K,B.set n (t.length:Int),()))) i bs t=(tk++(t++bs.takeWhile (fun b=>!tk.contains b)),(met,T,wr,K,B.set n ((t++bs.takeWhile (fun b=>!tk.contains b)).length:Int),())):=by
  intro bs
  induction bs with
  |nil=>intro i t _ _;simp[Yba]
  |cons b bs ih=>
   intro i t h1 h2;rw[List.nodup_cons] at h1
   have hbt:(tk++t).contains b=tk.contains b:=by
    have:=h2 b List.mem_cons_self;rw[Bool.eq_iff_iff];simp[this]
   simp only[Yba,hbt];rw[List.takeWhile_cons]
   cases hc:tk.contains b with
   |true=>simp only[Ywx,Yw0,Bool.not_true,Bool.false_eq_true,if_false,List.append_nil]
   |false=>
    simp only[Ywl,sel,Bool.not_false,if_true]
    rw[ih (i+1) (t++[b]) h1.2 (fun x hx hm=>by
     rcases List.mem_append.1 hm with hm | hm
     ·exact h2 x (List.mem_cons_of_mem _ hx) hm
     ·simp only[List.mem_singleton] at hm;subst hm;exact h1.1 hx)]
    simp[List.append_assoc]
 rw[key bs 0 [] hnd (fun _ _ h=>by cases h)]
 simp
theorem Xhp {f:Fs_} (hi:Xga f.1) {met:List Bool} (hm:met.length=f.1.length) (T:List (List Xc)) (wr:Int) (K:List Int) :
  Xc3 f.1 (f.1.length:Int) f (0,[],(met,T,wr,K,List.replicate f.1.length 0,()))=some (met,T,wr,K,Xn (fun j _=>((kbF met f.1 j).length:Int)) Xa f.1,()):=by
 have hn:=hi.len
 have hrep:List.replicate f.1.length (0:Int)=upN (fun j _=>((kbF met f.1 j).length:Int)) (fun _ _=>0) Xa f.1 0:=by
  rw[Xa4]
  refine List.ext_getElem (by simp[Xv]) fun i h1 h2=>?_
  rw[Xaa];simp
 have h:=Ysw (f:=fun s=>Xc3.B f.1 (f.1.length:Int) f s.1 s.2.1 s.2.2) (fun i=>((i:Int),tkF met f.1 i,(met,T,wr,K,upN (fun j _=>((kbF met f.1 j).length:Int)) (fun _ _=>0) Xa f.1 i,()))) (n:=f.1.length)
  (r:=(met,T,wr,K,Xn (fun j _=>((kbF met f.1 j).length:Int)) Xa f.1,())) (fun i hi'=>by
   have hm1:inB (i:Int) met.length=true:=Yxc (by omega)
   have hup:∀ {v:Int},v=((kbF met f.1 i).length:Int)→(upN (fun j _=>((kbF met f.1 j).length:Int)) (fun _ _=>0) Xa f.1 i).set i v=upN (fun j _=>((kbF met f.1 j).length:Int)) (fun _ _=>0) Xa f.1 (i+1):=fun hv=>X9 hi' hv
   simp only[Xc3.B,Yxe hi',Yxc hi',hm1,Ywx,toNat_cast,Ywe (by omega:i<4294967296)]
   cases hmi:met.getD i false with
   |false=>
    have hk:kbF met f.1 i=[]:=by unfold kbF;rw[hmi];rfl
    simp only[Bool.not_false,Ywx]
    rw[Xcs,hk,List.append_nil,Xbs hi' (by simp[hk])]
   |true=>
    have hk:kbF met f.1 i=(Xl f.1 i).takeWhile fun b=>!(tkF met f.1 i).contains b:=by unfold kbF;rw[hmi];rfl
    simp only[Bool.not_true,Ywl,Option.bind_some];have ht:=Xgf (met:=met) hi i
    have e3:=Xie (f:=f) (i:Int) (f.1.length:Int) (i:Int) f.1 (Xl f.1 i) (hi.all i).bl.1 (hi.all i).nd (tkF met f.1 i) (by omega) i rfl met T wr K (upN (fun j _=>((kbF met f.1 j).length:Int)) (fun _ _=>0) Xa f.1 i) (by rw[Xx];exact hi') (Xab hi' 0)
    unfold Xl at e3 hk
    rw[e3,←hk,hup rfl,Xcs];rfl) (by
   simp only[Xc3.B,Yxg (Nat.le_refl _),Ywl,Xbz]) f.1.length 0 (by omega)
 rw[hrep];exact h
def Xj (g:Nat→Int):Nat→Int
 |0=>0
 |n+1=>Xj g n+g n
theorem X0 {g:Nat→Int} (h:∀ i,0≤g i∧g i≤4):∀ n,0≤Xj g n∧Xj g n≤4*n
 |0=>by simp[Xj]
 |n+1=>by have:=X0 h n;have:=h n;simp only[Xj];omega
structure Seen (l:List Xb) (met:List Bool) (T:List (List Xc)) (wr:Int) (K:List Int) (P:List Nat):Prop where
 I:Xg0 l [] met T wr K P
 D:Xga l
theorem Seen.mem {l:List Xb} {met:List Bool} {T:List (List Xc)} {wr:Int} {K:List Int} {P:List Nat} (h:Seen l met T wr K P) (i:Nat):i∈P↔met.getD i false=true∧(l.getD i Xa).1=2:=by
 have hk:Xm l (i:Int)=(l.getD i Xa).1:=by unfold Xm;rw[toNat_cast]
 constructor
 ·intro hi
  have:=h.I.qk i (by simpa using hi)
  exact⟨this.2.2,hk▸this.2.1⟩
 ·rintro⟨h1,h2⟩
  have:=h.I.al i h1 (by rw[hk];exact h2)
  simpa using this
theorem Seen.nz {l:List Xb} {met:List Bool} {T:List (List Xc)} {wr:Int} {K:List Int} {P:List Nat} (h:Seen l met T wr K P) {i:Nat} (hm:met.getD i false=true):(l.getD i Xa).1≠0:=by
 have:=h.I.nz i hm;unfold Xm at this;rwa [toNat_cast] at this
theorem Seen.tE {l:List Xb} {met:List Bool} {T:List (List Xc)} {wr:Int} {K:List Int} {P:List Nat} (h:Seen l met T wr K P) {i:Nat} (hi:¬ (met.getD i false=true∧(l.getD i Xa).1=2)):T.getD i []=[]:=h.I.te i (fun hp=>hi ((h.mem i).1 hp))
def Xz (met:List Bool) (T:List (List Xc)) (i:Nat) (x:Xb):Xb:=cond (met.getD i false) (cond (x.1 == 2) (Xcj x (T.getD i [])) x) Xa
def Xq (l:List Xb) (met:List Bool) (T:List (List Xc)) (K:List Int) (i:Nat) (x:Xb):Xb:=
 cond (met.getD i false) (cond (x.1 == 2) (Xcj x (T.getD i [])) (x.1,K.getD i 0,Xag (w64 (((kbF met l i).length:Int)*8)) x.2.2.1,kbF met l i,x.2.2.2.2)) Xa
def gL (l:List Xb) (met:List Bool) (i:Nat):Int:=cond (!(met.getD i false)) (cond ((l.getD i Xa).1 != 0) 1 0) 0
def gT (l:List Xb) (met:List Bool) (i:Nat):Int:=cond (met.getD i false) (cond ((l.getD i Xa).1 == 1) (((Xl l i).length:Int)-((kbF met l i).length:Int)) 0) 0
def gK (l:List Xb) (met:List Bool) (K:List Int) (i:Nat):Int:=cond (met.getD i false) (cond ((l.getD i Xa).1 == 1) (cond ((l.getD i Xa).2.1 != K.getD i 0) 1 0) 0) 0
theorem Xgt {l:List Xb} {met:List Bool} (i:Nat):0≤gL l met i∧gL l met i≤4:=by
 unfold gL
 cases met.getD i false<;>cases ((l.getD i Xa).1 != 0)<;>decide
theorem Xgp {l:List Xb} {met:List Bool} {K:List Int} (i:Nat):0≤gK l met K i∧gK l met K i≤4:=by
 unfold gK
 cases met.getD i false<;>cases ((l.getD i Xa).1 == 1)<;>cases ((l.getD i Xa).2.1 != K.getD i 0)<;>decide
theorem Xgu {l:List Xb} {met:List Bool} (h:Xga l) (i:Nat):0≤gT l met i∧gT l met i≤4:=by
 have h1:=Xai met l i;have h2:(Xl l i).length≤4:=(h.all i).bl.1;unfold gT
 cases met.getD i false with
 |false=>simp only[Ywl];omega
 |true=>
  cases ((l.getD i Xa).1 == 1) with
  |false=>simp only[Ywx,Ywl];omega
  |true=>simp only[Ywx];omega
theorem Xh6 {l:List Xb} {met:List Bool} {T:List (List Xc)} {wr:Int} {K:List Int} {P:List Nat} (h:Seen l met T wr K P) (Da:List (List Int)) :
  Xdp met 0 0 (0,0,(Xbq l P T,Da,()))=some (Xj (gL l met) l.length,(Xn (Xz met T) Xa l,Da,())):=by
 have hn:=h.D.len
 have h0:Xbq l P T=upN (Xz met T) (fun i x=>if i∈P then Xcj x (T.getD i []) else x) Xa l 0:=Xa4.symm
 have hs:=Ysw (f:=fun s=>Xdp.B met 0 0 s.1 s.2.1 s.2.2) (fun i=>(Xj (gL l met) i,(i:Int),(upN (Xz met T) (fun i x=>if i∈P then Xcj x (T.getD i []) else x) Xa l i,Da,()))) (n:=l.length)
  (r:=(Xj (gL l met) l.length,(Xn (Xz met T) Xa l,Da,()))) (fun i hi=>by
   have hm1:inB (i:Int) met.length=true:=Yxc (by rw[h.I.len];exact hi)
   have hb:=X0 (g:=gL l met) Xgt i
   have hO:(upN (Xz met T) (fun i x=>if i∈P then Xcj x (T.getD i []) else x) Xa l i).getD i Xa=if i∈P then Xcj (l.getD i Xa) (T.getD i []) else l.getD i Xa:=Xab hi _
   simp only[Xdp.B,Xx,Yxe hi,Yxc hi,hm1,Ywx,toNat_cast,Yvb,hO,Ywe (by omega:i<4294967296)]
   cases hm:met.getD i false with
   |true=>
    simp only[Bool.not_true,Ywl,Option.bind_some]
    rw[show Xj (gL l met) (i+1)=Xj (gL l met) i by simp only[Xj,gL,hm,Bool.not_true,Ywl,Int.add_zero],Xbs hi]
    unfold Xz;rw[hm]
    by_cases e:(l.getD i Xa).1=2
    ·rw[if_pos ((h.mem i).2 ⟨hm,e⟩),e];rfl
    ·rw[if_neg (fun hp=>e ((h.mem i).1 hp).2),show((l.getD i Xa).1 == 2)=false by simpa using e];rfl
   |false=>
    have hP:i∉P:=fun hp=>by have:=((h.mem i).1 hp).1;rw[hm] at this;cases this
    simp only[Bool.not_false,Ywx,if_neg hP,Option.bind_some]
    cases hk:((l.getD i Xa).1 != 0) with
    |true=>
     simp only[Ywx]
     rw[Yxo (by omega) (by omega),show Xj (gL l met) (i+1)=Xj (gL l met) i+1 by simp only[Xj,gL,hm,hk,Bool.not_false,Ywx]]
     rw[X9 hi (by unfold Xz;rw[hm];rfl)]
    |false=>
     have hz:l.getD i Xa=Xa:=(h.D.all i).fre (by simpa using hk)
     simp only[Ywl]
     rw[show Xj (gL l met) (i+1)=Xj (gL l met) i by simp only[Xj,gL,hm,hk,Bool.not_false,Ywx,Ywl];omega]
     rw[Xbs hi (by rw[if_neg hP,hz];unfold Xz;rw[hm];rfl)]) (by
   simp only[Xdp.B,Xx,Yxg (Nat.le_refl _),Ywl];rw[Xbz]) l.length 0 (by omega)
 rw[h0];exact hs
theorem Xha {l:List Xb} {met:List Bool} {T:List (List Xc)} {wr:Int} {K:List Int} {P:List Nat} (h:Seen l met T wr K P) (i:Nat):(Xq l met T K i (l.getD i Xa)).2.2.2.2.1=T.getD i []:=by
 unfold Xq
 cases hm:met.getD i false with
 |false=>rw[h.tE (fun hh=>by rw[hm] at hh;cases hh.1)];rfl
 |true=>
  by_cases e:(l.getD i Xa).1=2
  ·rw[e];rfl
  ·rw[show((l.getD i Xa).1 == 2)=false by simpa using e,h.tE (fun hh=>e hh.2)]
   exact(h.D.all i).ent e
theorem Xgv {l:List Xb} {met:List Bool} {T:List (List Xc)} {wr:Int} {K:List Int} {P:List Nat} (h:Seen l met T wr K P) (i:Nat):(Xz met T i (l.getD i Xa)).2.2.2.2.1=T.getD i []:=by
 unfold Xz
 cases hm:met.getD i false with
 |false=>rw[h.tE (fun hh=>by rw[hm] at hh;cases hh.1)];rfl
 |true=>
  by_cases e:(l.getD i Xa).1=2
  ·rw[e];rfl
  ·rw[show((l.getD i Xa).1 == 2)=false by simpa using e,h.tE (fun hh=>e hh.2)]
   exact(h.D.all i).ent e
theorem Xfb {l:List Xb} {met:List Bool} {T:List (List Xc)} {wr:Int} {K:List Int} {P:List Nat} (h:Seen l met T wr K P) (i:Nat):(Xq l met T K i (l.getD i Xa)).2.2.2.1=kbF met l i:=by
 unfold Xq
 cases hm:met.getD i false with
 |false=>simp only[Ywl,kbF,hm];rfl
 |true=>
  by_cases e:(l.getD i Xa).1=2
  ·have hb:Xl l i=[]:=(h.D.all i).dir (by rw[e];decide)
   have hk:kbF met l i=[]:=by have:=Xai met l i;rw[hb] at this;exact List.eq_nil_of_length_eq_zero (by simpa using this)
   rw[e,hk];exact hb
  ·rw[show((l.getD i Xa).1 == 2)=false by simpa using e];rfl
theorem Xg8 {L:List Xb} {T:List (List Xc)} (hl:L.length=T.length) (h:∀ j,j<L.length→(L.getD j Xa).2.2.2.2.1=T.getD j []) (a:Int):Xgb L a=((Xe9 T a:Nat):Int):=by
 have:L.map (fun x=>x.2.2.2.2.1)=T:=by
  refine List.ext_getElem (by simpa using hl) fun j h1 h2=>?_
  have hj:j<L.length:=by simpa using h1
  have:=h j hj;rw[getD_lt _ hj,getD_lt _ h2] at this
  simpa using this
 unfold Xgb Xgs Xe9;rw[←this,List.flatMap_map]
theorem Xfx {α:Type} (p:α→Bool):∀ (bs:List α) (i:Nat),Yba (τ:=Unit) (fun k b _=>cond (p b) (.inl ()) (.inr (k:Int))) (fun _=>((i+bs.length:Nat):Int)) i bs ()=((i+(bs.takeWhile p).length:Nat):Int)
 |[],i=>by simp[Yba]
 |b::bs,i=>by
  simp only[Yba];rw[List.takeWhile_cons]
  cases hp:p b with
  |true=>
   simp only[Ywx,sel,if_true];have:=Xfx p bs (i+1)
   rw[show i+(b::bs).length=i+1+bs.length by simp;omega,this]
   simp only[List.length_cons];congr 1;omega
  |false=>simp[sel]
theorem Xgy {α β:Type} {N O:Nat→α→β} {d:α} {l:List α} {i:Nat} (hi:i≤l.length):(upN N O d l i).take i=(List.range i).map fun j=>N j (l.getD j d):=by
 refine List.ext_getElem (by simp[Xx];omega) fun j h1 h2=>?_
 have hj:j<i:=by simpa using h2
 rw[List.getElem_take];unfold upN;rw[Xaa,if_pos hj];simp
theorem Xfq {l:List Xb} {met:List Bool} {T:List (List Xc)} {wr:Int} {K:List Int} {P:List Nat} (h:Seen l met T wr K P):∀ i,Xen ((List.range i).map fun j=>Xq l met T K j (l.getD j Xa))=tkF met l i
 |0=>rfl
 |i+1=>by
  rw[List.range_succ,List.map_append,Xcs,←Xfq h i];simp only[Xen,List.flatMap_append,List.map_cons,List.map_nil,List.flatMap_cons,List.flatMap_nil,List.append_nil,Xfb h]
theorem Xfz {l:List Xb} {met:List Bool} {T:List (List Xc)} {wr:Int} {K:List Int} {P:List Nat} (h:Seen l met T wr K P) {i:Nat} (hi:i≤l.length):Xe2 ((List.range i).map fun j=>Xq l met T K j (l.getD j Xa)):=by
 refine⟨by have:=h.D.len;simp;omega,fun x hx=>?_⟩
 obtain⟨j,hj,rfl⟩:=List.mem_map.1 hx;rw[Xfb h];have h1:=Xai met l j;have h2:=(h.D.all j).bl;unfold Xl at h1
 exact⟨by omega,fun b hb=>h2.2 b (Xg7 hb)⟩
abbrev Xw (l:List Xb) (met:List Bool) (T:List (List Xc)) (K:List Int) (i:Nat):List Xb:=upN (Xq l met T K) (Xz met T) Xa l i
theorem Xjj {l:List Xb} {met:List Bool} {T:List (List Xc)} {wr:Int} {K:List Int} {P:List Nat} (h:Seen l met T wr K P) (Da:List (List Int)) {i:Nat} (hi:i<l.length) (hm:met.getD i false=true) (hk:(l.getD i Xa).1=1) (a b c:Int) :
  Xcd a b c (i:Int) i (Xw l met T K i,Da,()) 0=some ((kbF met l i).length:Int):=by
 have hn:=h.D.len
 have hg:(Xw l met T K i).getD i Xa=l.getD i Xa:=by
  rw[Xab hi];unfold Xz;rw[hm,hk];rfl
 have hb4:=(h.D.all i).bl.1
 have hbl:(((((Xw l met T K i).getD i Xa).2).2).2).1=Xl l i:=by rw[hg];rfl
 have hs:=Yno (τ:=Unit) (Xl l i) (f:=fun s=>Xcd.B a b c (i:Int) i (Xw l met T K i,Da,()) s) (fun k _=>(k:Int)) (fun k b _=>cond (!(tkF met l i).contains b) (.inl ()) (.inr (k:Int))) (fun _=>((Xl l i).length:Int)) (fun _ _=>True)
  (fun k hk' _ _=>by
   have ht:(decide ((0:Int)≤(i:Int))&&decide ((i:Int)≤((Xw l met T K i).length:Int)))=true:=by rw[show(Xw l met T K i).length=l.length from Xx i];simp;omega
   simp only[Xcd.B,hbl,Option.bind_some,Yxe hk',Yxc hk',Ywx,toNat_cast,getD_lt _ hk',ht,List.drop_zero,Nat.sub_zero]
   rw[Xgy (by omega),Xjd _ (Xfz h (by omega)),Xfq h]
   simp only[Option.bind_some,Ywe (by have:(Xl l i).length≤4:=hb4;omega:k<4294967296)]
   by_cases hc:(Xl l i)[k]∈tkF met l i
   ·have h1:((((tkF met l i).count (Xl l i)[k]:Nat):Int) == 0)=false:=by
     have:=List.count_pos_iff.2 hc;simp;omega
    rw[h1,show(tkF met l i).contains (Xl l i)[k]=true by simpa using hc];rfl
   ·have h1:((((tkF met l i).count (Xl l i)[k]:Nat):Int) == 0)=true:=by
     have:=List.count_eq_zero.2 hc;simp[this]
    rw[h1,show(tkF met l i).contains (Xl l i)[k]=false by simpa using hc];rfl)
  (fun _ _ _ _ _ _=>trivial) (fun _ _=>by simp only[Xcd.B,hbl,Option.bind_some,Yxg (Nat.le_refl _),Ywl]) () trivial (s:=0) rfl
 have h2:Xcd a b c (i:Int) i (Xw l met T K i,Da,()) 0=_:=hs;rw[h2];have h3:=Xfx (fun b=>!(tkF met l i).contains b) (Xl l i) 0;simp only[Nat.zero_add] at h3;rw[h3];unfold kbF;rw[hm];rfl
theorem Xgk {l:List Xb} {met:List Bool} {T:List (List Xc)} {wr:Int} {K:List Int} {P:List Nat} (h:Seen l met T wr K P) {i:Nat} (hi:i<l.length) (y:Xb) (hy:y.2.2.2.2.1=T.getD i []):Xep ((Xw l met T K i).set i y) (i:Int)=some (K.getD i 0):=by
 have hlen:((Xw l met T K i).set i y).length=l.length:=by rw[List.length_set];exact Xx i
 have hent:∀ j,j<((Xw l met T K i).set i y).length→(((Xw l met T K i).set i y).getD j Xa).2.2.2.2.1=T.getD j []:=by
  intro j hj;rw[hlen] at hj
  by_cases e:i=j
  ·subst e;rw[Yvs _ _ (by rw[show(Xw l met T K i).length=l.length from Xx i];exact hi)];exact hy
  ·have:((Xw l met T K i).set i y).getD j Xa=(Xw l met T K i).getD j Xa:=by simp only[List.getD,List.getElem?_set,e,if_false]
   rw[this];unfold Xw upN;rw[Xa8 _ _ _ _ hj]
   split
   ·exact Xha h j
   ·exact Xgv h j
 rw[Xhu _ (fun x hx=>by
  obtain⟨j,hj,rfl⟩:=List.getElem_of_mem hx;have:=hent j hj;rw[getD_lt _ hj] at this
  rw[this];exact(h.I.tb j).1) (by rw[hlen];exact h.D.len),Xg8 (by rw[hlen,h.I.tl]) hent,h.I.kc]
theorem Xig {l:List Xb} {met:List Bool} {T:List (List Xc)} {wr:Int} {K:List Int} {P:List Nat} (h:Seen l met T wr K P) (Da:List (List Int)) (lo:Int) :
  Xc9 lo (0,0,0,(Xn (Xz met T) Xa l,Da,()))=some (Xj (gT l met) l.length,Xj (gK l met K) l.length,(Xn (Xq l met T K) Xa l,Da,())):=by
 have hn:=h.D.len;have h0:Xn (Xz met T) Xa l=Xw l met T K 0:=Xa4.symm
 have hs:=Ysw (f:=fun s=>Xc9.B lo s.1 s.2.1 s.2.2.1 s.2.2.2) (fun i=>(Xj (gT l met) i,Xj (gK l met K) i,(i:Int),(Xw l met T K i,Da,()))) (n:=l.length)
  (r:=(Xj (gT l met) l.length,Xj (gK l met K) l.length,(Xn (Xq l met T K) Xa l,Da,()))) (fun i hi=>by
   have hb1:=X0 (g:=gT l met) (Xgu h.D) i;have hb2:=X0 (g:=gK l met K) Xgp i;have hlen:(Xw l met T K i).length=l.length:=Xx i;have hO:(Xw l met T K i).getD i Xa=Xz met T i (l.getD i Xa):=Xab hi _
   simp only[Xc9.B,hlen,Yxe hi,Yxc hi,Ywx,toNat_cast,Ywe (by omega:i<4294967296)]
   cases hm:met.getD i false with
   |false=>
    have hz:(Xw l met T K i).getD i Xa=Xa:=by rw[hO];unfold Xz;rw[hm];rfl
    rw[hz];simp only[show((Xa.1:Int) != 1)=true from rfl,Ywx]
    rw[show Xj (gT l met) (i+1)=Xj (gT l met) i by simp only[Xj,gT,hm,Ywl,Int.add_zero],show Xj (gK l met K) (i+1)=Xj (gK l met K) i by simp only[Xj,gK,hm,Ywl,Int.add_zero]]
    rw[show Xw l met T K (i+1)=Xw l met T K i from(Xbs hi (by unfold Xz Xq;rw[hm];rfl)).symm]
   |true=>
    by_cases hk:(l.getD i Xa).1=1
    ·have hx:(Xw l met T K i).getD i Xa=l.getD i Xa:=by rw[hO];unfold Xz;rw[hm,hk];rfl
     have hk1:=Xai met l i;have hk4:(Xl l i).length≤4:=(h.D.all i).bl.1
     have hent0:(l.getD i Xa).2.2.2.2.1=T.getD i []:=by
      rw[h.tE (fun hh=>by rw[hk] at hh;exact absurd hh.2 (by decide))];exact(h.D.all i).ent (by rw[hk];decide)
     have hl2:=Xjj h Da hi hm hk lo (Xj (gT l met) i) (Xj (gK l met K) i);rw[hl2];generalize hX:l.getD i Xa=x at *
     have hbx:Xl l i=x.2.2.2.1:=by unfold Xl;rw[hX]
     have hc1:(decide ((0:Int)≤((kbF met l i).length:Int))&&decide (((kbF met l i).length:Int)≤(x.2.2.2.1.length:Int)))=true:=by rw[←hbx];simp;omega
     have htk:(x.2.2.2.1.drop 0).take (((kbF met l i).length:Int).toNat-0)=kbF met l i:=by
      rw[List.drop_zero,toNat_cast,Nat.sub_zero,←hbx];exact Xf5 met l i
     have hnb:(Nat.beq i i&&true)=true:=by rw[Nat.beq_refl];rfl
     have hgs:∀ (L:List Xb) (y:Xb),L.length=l.length→(L.set i y).getD i Xa=y:=fun L y hL=>Yvs _ _ (by omega)
     have hl1:((Xw l met T K i).set i (x.1,x.2.1,x.2.2.1,kbF met l i,x.2.2.2.2)).length=l.length:=by rw[List.length_set];exact hlen
     simp only[hx,hk,show((1:Int) != 1)=false from rfl,Ywl,Option.bind_some,hc1,htk,hnb,Ywx,hgs _ _ hlen,List.set_set,Xhi,hgs _ _ hl1];have hlk:=Xgk h hi (x.1,x.2.1,Xag x.2.2.1 (w64 (((kbF met l i).length:Int)*8)),kbF met l i,x.2.2.2.2) hent0
     have hsw:Xag x.2.2.1 (w64 (((kbF met l i).length:Int)*8))=Xag (w64 (((kbF met l i).length:Int)*8)) x.2.2.1:=by rw[←Xf6];rfl
     rw[hk] at hlk;rw[hlk];simp only[Option.bind_some]
     have hw1:w64 ((x.2.2.2.1.length:Int)-((kbF met l i).length:Int))=(x.2.2.2.1.length:Int)-((kbF met l i).length:Int):=Yrz (by rw[←hbx];omega) (by rw[←hbx];omega)
     have hgT:gT l met i=(x.2.2.2.1.length:Int)-((kbF met l i).length:Int):=by unfold gT;rw[hm,hX,hk,hbx];rfl
     have hw2:w64 (Xj (gT l met) i+((x.2.2.2.1.length:Int)-((kbF met l i).length:Int)))=Xj (gT l met) (i+1):=by
      rw[Yrz (by rw[←hbx];omega) (by rw[←hbx];omega)];simp only[Xj,hgT]
     have hfix:Xq l met T K i x=(1,K.getD i 0,Xag (w64 (((kbF met l i).length:Int)*8)) x.2.2.1,kbF met l i,x.2.2.2.2):=by
      unfold Xq;rw[hm,hk];rfl
     rw[hw1,hw2]
     cases hne:(x.2.1 != K.getD i 0) with
     |true=>
      have hgK:gK l met K i=1:=by unfold gK;rw[hm,hX,hk,hne];rfl
      simp only[Ywx]
      rw[Yxo (by omega) (by omega),show Xj (gK l met K) i+1=Xj (gK l met K) (i+1) by simp only[Xj,hgK]]
      rw[show(Xw l met T K i).set i (1,K.getD i 0,Xag x.2.2.1 (w64 (((kbF met l i).length:Int)*8)),kbF met l i,x.2.2.2.2)=Xw l met T K (i+1) from X9 hi (by rw[hX,hfix,hsw])]
     |false=>
      have hgK:gK l met K i=0:=by unfold gK;rw[hm,hX,hk,hne];rfl
      have hKe:x.2.1=K.getD i 0:=by simpa using hne
      simp only[Ywl]
      rw[show Xj (gK l met K) (i+1)=Xj (gK l met K) i by simp only[Xj,hgK,Int.add_zero]]
      rw[show(Xw l met T K i).set i (1,x.2.1,Xag x.2.2.1 (w64 (((kbF met l i).length:Int)*8)),kbF met l i,x.2.2.2.2)=Xw l met T K (i+1) from X9 hi (by rw[hX,hfix,hsw,hKe])]
    ·have hk2:(l.getD i Xa).1=2:=by have:=(h.D.all i).knd;have:=h.nz hm;omega
     have hx1:((Xw l met T K i).getD i Xa).1=2:=by rw[hO];unfold Xz;rw[hm,hk2];exact hk2
     rw[hx1];simp only[show((2:Int) != 1)=true from rfl,Ywx]
     rw[show Xj (gT l met) (i+1)=Xj (gT l met) i by simp only[Xj,gT,hm,hk2,show((2:Int) == 1)=false from rfl,Ywx,Ywl,Int.add_zero],show Xj (gK l met K) (i+1)=Xj (gK l met K) i by simp only[Xj,gK,hm,hk2,show((2:Int) == 1)=false from rfl,Ywx,Ywl,Int.add_zero]]
     rw[show Xw l met T K (i+1)=Xw l met T K i from(Xbs hi (by unfold Xz Xq;rw[hm,hk2];rfl)).symm]) (by
   simp only[Xc9.B,show(Xw l met T K l.length).length=l.length from Xx _,Yxg (Nat.le_refl _),Ywl];rw[show Xw l met T K l.length=_ from Xbz]) l.length 0 (by omega)
 rw[h0];exact hs
theorem Xjk {l:List Xb} {met:List Bool} {T:List (List Xc)} {wr:Int} {K:List Int} {P:List Nat} (f v3:Fs_) (h:Seen l met T wr K P) (Da:List (List Int)) :
  Xbb (f,met,T,wr,K,Xn (fun j _=>((kbF met l j).length:Int)) Xa l,()) (l.length:Int) v3 (0,(l,Da,()))=some (Xn (Xq l met T K) Xa l,Da,()):=by
 have hn:=h.D.len
 have h0:l=upN (Xq l met T K) (fun _ x=>x) Xa l 0:=by rw[Xa4,Xej]
 have hs:=Ysw (f:=fun s=>Xbb.B (f,met,T,wr,K,Xn (fun j _=>((kbF met l j).length:Int)) Xa l,()) (l.length:Int) v3 s.1 s.2) (fun i=>((i:Int),(upN (Xq l met T K) (fun _ x=>x) Xa l i,Da,()))) (n:=l.length)
  (r:=(Xn (Xq l met T K) Xa l,Da,())) (fun i hi=>by
   have hlen:(upN (Xq l met T K) (fun _ x=>x) Xa l i).length=l.length:=Xx i;have hO:(upN (Xq l met T K) (fun _ x=>x) Xa l i).getD i Xa=l.getD i Xa:=Xab hi _
   have hm1:inB (i:Int) met.length=true:=Yxc (by rw[h.I.len];exact hi)
   have hm2:inB (i:Int) T.length=true:=Yxc (by rw[h.I.tl];exact hi)
   have hm3:inB (i:Int) K.length=true:=Yxc (by rw[h.I.kl];exact hi)
   have hm4:inB (i:Int) (Xn (fun j _=>((kbF met l j).length:Int)) Xa l).length=true:=Yxc (by rw[Xv];exact hi)
   have hC:(Xn (fun j _=>((kbF met l j).length:Int)) Xa l).getD i 0=((kbF met l i).length:Int):=Xa8 _ _ _ _ hi _
   simp only[Xbb.B,hlen,Yxe hi,Yxc hi,hm1,hm2,hm3,hm4,hC,hO,Ywx,toNat_cast,Ywe (by omega:i<4294967296)]
   cases hm:met.getD i false with
   |false=>
    simp only[Bool.not_false,Ywx]
    rw[X9 hi (by unfold Xq;rw[hm];rfl)]
   |true=>
    simp only[Bool.not_true,Ywl]
    by_cases hk:(l.getD i Xa).1=2
    ·have hcl:Xeg (T.getD i [])=some (T.getD i []):=Xbv (by have:=(h.I.tb i).1;omega)
     rw[show((l.getD i Xa).1 == 2)=true by simpa using hk]
     simp only[Ywx,hcl,Option.bind_some]
     rw[X9 hi (by unfold Xq;rw[hm,show((l.getD i Xa).1 == 2)=true by simpa using hk];rfl)]
    ·rw[show((l.getD i Xa).1 == 2)=false by simpa using hk]
     have hk1:=Xai met l i;have hbl:(((((l.getD i Xa).2).2).2).1).length=(Xl l i).length:=rfl
     have hc1:(decide ((0:Int)≤((kbF met l i).length:Int))&&decide (((kbF met l i).length:Int)≤(((((l.getD i Xa).2).2).2).1.length:Int)))=true:=by rw[hbl];simp;omega
     have htk:(((((l.getD i Xa).2).2).2).1.drop 0).take ((kbF met l i).length-0)=kbF met l i:=by
      rw[List.drop_zero,Nat.sub_zero];exact Xf5 met l i
     have hnb:(Nat.beq i i&&true)=true:=by rw[Nat.beq_refl];rfl
     have hgs:∀ (L:List Xb) (y:Xb),L.length=l.length→(L.set i y).getD i Xa=y:=fun L y hL=>Yvs _ _ (by omega)
     have hl1:∀ y,((upN (Xq l met T K) (fun _ x=>x) Xa l i).set i y).length=l.length:=fun y=>by rw[List.length_set];exact hlen
     simp only[Ywl,hc1,htk,hnb,Ywx,Option.bind_some,hgs _ _ hlen,hgs _ _ (hl1 _),List.set_set]
     rw[X9 hi (by unfold Xq;rw[hm,show((l.getD i Xa).1 == 2)=false by simpa using hk];rfl)]) (by
   simp only[Xbb.B,Yxg (Nat.le_refl _),Ywl];rw[Xbz]) l.length 0 (by omega)
 rw[←h0] at hs;exact hs
theorem Xik {l:List Xb} {met:List Bool} {T:List (List Xc)} {wr:Int} {K:List Int} {P:List Nat} (f v4:Fs_) (h:Seen l met T wr K P) :
  Xay f l (l.length:Int) v4 (met,T,wr,K,Xn (fun j _=>((kbF met l j).length:Int)) Xa l,()) (0,[wr,0,0,0,0])=some [wr,Xj (gL l met) l.length,Xj (gT l met) l.length,Xj (gK l met K) l.length,0]:=by
 have hn:=h.D.len
 have hs:=Ysw (f:=fun s=>Xay.B f l (l.length:Int) v4 (met,T,wr,K,Xn (fun j _=>((kbF met l j).length:Int)) Xa l,()) s.1 s.2) (fun i=>((i:Int),[wr,Xj (gL l met) i,Xj (gT l met) i,Xj (gK l met K) i,0])) (n:=l.length)
  (r:=[wr,Xj (gL l met) l.length,Xj (gT l met) l.length,Xj (gK l met K) l.length,0]) (fun i hi=>by
   have hb0:=X0 (g:=gL l met) Xgt i;have hb1:=X0 (g:=gT l met) (Xgu h.D) i;have hb2:=X0 (g:=gK l met K) Xgp i
   have hm1:inB (i:Int) met.length=true:=Yxc (by rw[h.I.len];exact hi)
   have hm3:inB (i:Int) K.length=true:=Yxc (by rw[h.I.kl];exact hi)
   have hm4:inB (i:Int) (Xn (fun j _=>((kbF met l j).length:Int)) Xa l).length=true:=Yxc (by rw[Xv];exact hi)
   have hC:(Xn (fun j _=>((kbF met l j).length:Int)) Xa l).getD i 0=((kbF met l i).length:Int):=Xa8 _ _ _ _ hi _
   simp only[Xay.B,Yxe hi,Yxc hi,hm1,hm3,hm4,hC,Ywx,Yvb,toNat_cast,Ywe (by omega:i<4294967296),Option.bind_some]
   cases hm:met.getD i false with
   |false=>
    rw[show Xj (gT l met) (i+1)=Xj (gT l met) i by simp only[Xj,gT,hm,Ywl,Int.add_zero],show Xj (gK l met K) (i+1)=Xj (gK l met K) i by simp only[Xj,gK,hm,Ywl,Int.add_zero]]
    cases hk:((l.getD i Xa).1 != 0) with
    |true=>
     rw[show Xj (gL l met) (i+1)=w64 (Xj (gL l met) i+1) by rw[Yxo (by omega) (by omega)];simp only[Xj,gL,hm,hk,Bool.not_false,Ywx]]
     rfl
    |false=>
     have hk0:(l.getD i Xa).1=0:=by simpa using hk
     rw[show Xj (gL l met) (i+1)=Xj (gL l met) i by simp only[Xj,gL,hm,hk,Bool.not_false,Ywx,Ywl,Int.add_zero],hk0]
     rfl
   |true=>
    have hnz:=h.nz hm
    rw[show Xj (gL l met) (i+1)=Xj (gL l met) i by simp only[Xj,gL,hm,Bool.not_true,Ywl,Int.add_zero]]
    rw[show((l.getD i Xa).1 != 0)=true by simpa using hnz]
    by_cases hk:(l.getD i Xa).1=1
    ·have hk1:=Xai met l i
     have hk4:(Xl l i).length≤4:=(h.D.all i).bl.1
     have hgT:gT l met i=((Xl l i).length:Int)-((kbF met l i).length:Int):=by unfold gT;rw[hm,hk];rfl
     have hsz:Xeb (((((l.getD i Xa).2).2).2).1)=some ((Xl l i).length:Int):=rfl;rw[hk];simp only[Bool.not_true,Ywx,Ywl,show((1:Int) == 1)=true from rfl,hsz,Option.bind_some]
     rw[show w64 (((Xl l i).length:Int)-((kbF met l i).length:Int))=((Xl l i).length:Int)-((kbF met l i).length:Int) from Yrz (by omega) (by omega)]
     rw[show Xj (gT l met) (i+1)=w64 (Xj (gT l met) i+(((Xl l i).length:Int)-((kbF met l i).length:Int))) by rw[Yrz (by omega) (by omega)];simp only[Xj,hgT]]
     cases hne:((l.getD i Xa).2.1 != K.getD i 0) with
     |true=>
      rw[show Xj (gK l met K) (i+1)=w64 (Xj (gK l met K) i+1) by rw[Yxo (by omega) (by omega)];simp only[Xj,gK,hm,hk,hne,show((1:Int) == 1)=true from rfl,Ywx]]
      rfl
     |false=>
      rw[show Xj (gK l met K) (i+1)=Xj (gK l met K) i by simp only[Xj,gK,hm,hk,hne,show((1:Int) == 1)=true from rfl,Ywx,Ywl,Int.add_zero]]
      rfl
    ·have hk':((l.getD i Xa).1 == 1)=false:=by simpa using hk
     rw[show Xj (gT l met) (i+1)=Xj (gT l met) i by simp only[Xj,gT,hm,hk',Ywx,Ywl,Int.add_zero],show Xj (gK l met K) (i+1)=Xj (gK l met K) i by simp only[Xj,gK,hm,hk',Ywx,Ywl,Int.add_zero]]
     simp only[Bool.not_true,Ywx,Ywl,hk']) (by
   simp only[Xay.B,Yxg (Nat.le_refl _),Ywl]) l.length 0 (by omega)
 exact hs
theorem Xhc:∀ (k:Nat) (d:List Int) (n:Int),n.toNat≤d.length+k→n≤1000→d.length≤2000000000→Xaf d n=some (d++List.replicate (n.toNat-d.length) 0)
 |0,d,n,h,hn,hd=>by
  have hl:X8 n d=some d:=Y5 (by simp only[X8.B,Xal,Option.bind_some];rw[show decide ((d.length:Int)<n)=false by simp;omega];rfl)
  simp only[Xaf,hl,Option.bind_some]
  rw[show n.toNat-d.length=0 by omega];simp
 |k+1,d,n,h,hn,hd=>by
  by_cases hlt:(d.length:Int)<n
  ·have hs:X8 n d=X8 n (d++[0]):=Yar (by
    simp only[X8.B,Xal,Option.bind_some,decide_eq_true hlt,Ywx]
    rw[show decide ((d++([0]:List Int)).length≤2147483648)=true by simp;omega];rfl)
   have ih:=Xhc k (d++[0]) n (by simp;omega) hn (by simp;omega)
   simp only[Xaf] at ih ⊢;rw[hs,ih]
   congr 1
   rw[List.append_assoc,show n.toNat-d.length=(n.toNat-(d++[(0:Int)]).length)+1 by simp;omega,List.replicate_succ]
   simp
  ·have hl:X8 n d=some d:=Y5 (by simp only[X8.B,Xal,Option.bind_some];rw[decide_eq_false hlt];rfl)
   simp only[Xaf,hl,Option.bind_some]
   rw[show n.toNat-d.length=0 by omega];simp
def X7 (w:List Int) (j:Nat) (d:List Int):List Int:=(d++List.replicate ((w.getD j 0).toNat-d.length) 0).take (w.getD j 0).toNat
def gS (w:List Int) (D:List (List Int)) (j:Nat):Int:=cond (((D.getD j []).length:Int) != w.getD j 0) 1 0
theorem Xgo (w:List Int) (D:List (List Int)) (j:Nat):0≤gS w D j∧gS w D j≤4:=by
 unfold gS;cases (((D.getD j []).length:Int) != w.getD j 0)<;>decide
theorem Xhh {w:List Int} (R:List Xb) (a:Int) {i:Nat} (hi:i<w.length) (hw8:w.getD i 0≤8):∀ (k:Nat) (D:List (List Int)),i<D.length→(w.getD i 0).toNat≤(D.getD i []).length+k→(D.getD i []).length≤2000000000→
  Xbn a (i:Int) w (R,D,())=some (R,D.set i (D.getD i []++List.replicate ((w.getD i 0).toNat-(D.getD i []).length) 0),())
 |k,D,hD,hk,hl=>by
  have hset:D.set i (D.getD i [])=D:=by
   refine List.ext_getElem (by simp) fun j h1 h2=>?_
   rw[List.getElem_set]
   split
   ·rename_i e;subst e;exact getD_lt _ h2
   ·rfl
  by_cases hlt:((D.getD i []).length:Int)<w.getD i 0
  ·cases k with
   |zero=>omega
   |succ k=>
    have hs:Xbn a (i:Int) w (R,D,())=Xbn a (i:Int) w (R,D.set i (D.getD i []++[0]),()):=Yar (by
     simp only[Xbn.B,Yxc hD,Yxc hi,Ywx,toNat_cast,Option.bind_some,decide_eq_true hlt,Nat.beq_refl,Bool.and_self]
     rw[show decide ((D.getD i []++([0]:List Int)).length≤2147483648)=true by rw[List.length_append,List.length_singleton,decide_eq_true_eq];omega];rfl)
    have hg:(D.set i (D.getD i []++[0])).getD i []=D.getD i []++[0]:=Yvs _ _ hD
    have ih:=Xhh R a hi hw8 k (D.set i (D.getD i []++[0])) (by simpa using hD) (by rw[hg,List.length_append,List.length_singleton];omega) (by rw[hg,List.length_append,List.length_singleton];omega)
    rw[hs,ih,hg,List.set_set]
    congr 4
    rw[List.append_assoc,show(w.getD i 0).toNat-(D.getD i []).length=((w.getD i 0).toNat-(D.getD i []++[(0:Int)]).length)+1 by rw[List.length_append,List.length_singleton];omega,List.replicate_succ]
    simp
  ·have hd:Xbn a (i:Int) w (R,D,())=some (R,D,()):=Y5 (by
    simp only[Xbn.B,Yxc hD,Yxc hi,Ywx,toNat_cast,Option.bind_some,decide_eq_false hlt,Ywl])
   rw[hd,show(w.getD i 0).toNat-(D.getD i []).length=0 by omega,List.replicate_zero,List.append_nil,hset]
theorem Xi4 {w:List Int} (hw:w.length=20) (hb:∀ j,0≤w.getD j 0∧w.getD j 0≤8) (R:List Xb) (D:List (List Int)) (hD:D.length=20) (hl:∀ b∈D,b.length≤1100000000) :
  Xdi w (0,0,(R,D,()))=some (Xj (gS w D) 20,(R,Xn (X7 w) [] D,())):=by
 have h0:D=upN (X7 w) (fun _ x=>x) [] D 0:=by rw[Xa4,Xej]
 have hs:=Ysw (f:=fun s=>Xdi.B w s.1 s.2.1 s.2.2) (fun i=>(Xj (gS w D) i,(i:Int),(R,upN (X7 w) (fun _ x=>x) [] D i,()))) (n:=20)
  (r:=(Xj (gS w D) 20,(R,Xn (X7 w) [] D,()))) (fun i hi=>by
   have hi':i<D.length:=by omega
   have hlen:(upN (X7 w) (fun _ x=>x) [] D i).length=20:=by rw[Xx];exact hD
   have hO:(upN (X7 w) (fun _ x=>x) [] D i).getD i []=D.getD i []:=Xab hi' _;have hbb:=X0 (g:=gS w D) (Xgo w D) i;have hwi:=hb i
   have hdl:(D.getD i []).length≤1100000000:=by rw[getD_lt _ hi'];exact hl _ (List.getElem_mem hi')
   have h3:∀ a,Xbn a (i:Int) w (R,upN (X7 w) (fun _ x=>x) [] D i,())=_:=fun a=>Xhh R a (by omega) hwi.2 8 (upN (X7 w) (fun _ x=>x) [] D i) (by omega) (by rw[hO];omega) (by rw[hO];omega)
   have hg:∀ y,((upN (X7 w) (fun _ x=>x) [] D i).set i y).getD i []=y:=fun y=>Yvs _ _ (by omega)
   have hc:(decide ((0:Int)≤w.getD i 0)&&decide (w.getD i 0≤((D.getD i []++List.replicate ((w.getD i 0).toNat-(D.getD i []).length) 0).length:Int)))=true:=by
    rw[List.length_append,List.length_replicate,Bool.and_eq_true,decide_eq_true_eq,decide_eq_true_eq];omega
   have hin1:inB (i:Int) (upN (X7 w) (fun _ x=>x) [] D i).length=true:=Yxc (by omega)
   have hin2:inB (i:Int) w.length=true:=Yxc (by omega)
   simp only[Xdi.B,hlen,show decide ((i:Int)<((20:Nat):Int))=true by simp;omega,hin1,hin2,Yxc hi,hO,h3,Ywx,toNat_cast,List.length_set,Option.bind_some,hg,hc,Nat.beq_refl,Bool.and_self,List.drop_zero,Nat.sub_zero,List.set_set,Ywe (by omega:i<4294967296)]
   rw[show(upN (X7 w) (fun _ x=>x) [] D i).set i (List.take (w.getD i 0).toNat (D.getD i []++List.replicate ((w.getD i 0).toNat-(D.getD i []).length) 0))=upN (X7 w) (fun _ x=>x) [] D (i+1) from X9 hi' rfl]
   cases hne:(((D.getD i []).length:Int) != w.getD i 0) with
   |true=>
    rw[show Xj (gS w D) (i+1)=w64 (Xj (gS w D) i+1) by rw[Yxo (by omega) (by omega)];simp only[Xj,gS,hne,Ywx]]
    rfl
   |false=>
    rw[show Xj (gS w D) (i+1)=Xj (gS w D) i by simp only[Xj,gS,hne,Ywl,Int.add_zero]]
    rfl) (by
   have:upN (X7 w) (fun _ x=>x) [] D 20=Xn (X7 w) [] D:=by rw[←hD,Xbz]
   simp only[Xdi.B,this,Xv,hD];rfl) 20 0 (by omega)
 rw[←h0] at hs;exact hs
theorem Xjb {w:List Int} (hw:w.length=20) (hb:∀ j,0≤w.getD j 0∧w.getD j 0≤8) (R:List Xb) (v:Fs_) (D:List (List Int)) (hD:D.length=20) (hl:∀ b∈D,b.length≤1100000000) :
  Xaw w v (0,(R,D,()))=some (R,Xn (X7 w) [] D,()):=by
 have h0:D=upN (X7 w) (fun _ x=>x) [] D 0:=by rw[Xa4,Xej]
 have hs:=Ysw (f:=fun s=>Xaw.B w v s.1 s.2) (fun i=>((i:Int),(R,upN (X7 w) (fun _ x=>x) [] D i,()))) (n:=20)
  (r:=(R,Xn (X7 w) [] D,())) (fun i hi=>by
   have hi':i<D.length:=by omega
   have hlen:(upN (X7 w) (fun _ x=>x) [] D i).length=20:=by rw[Xx];exact hD
   have hO:(upN (X7 w) (fun _ x=>x) [] D i).getD i []=D.getD i []:=Xab hi' _;have hwi:=hb i
   have hdl:(D.getD i []).length≤1100000000:=by rw[getD_lt _ hi'];exact hl _ (List.getElem_mem hi')
   have hc:(decide ((0:Int)≤w.getD i 0)&&decide (w.getD i 0≤((D.getD i []++List.replicate ((w.getD i 0).toNat-(D.getD i []).length) 0).length:Int)))=true:=by
    rw[List.length_append,List.length_replicate,Bool.and_eq_true,decide_eq_true_eq,decide_eq_true_eq];omega
   have hlg:=Xhc 8 (D.getD i []) (w.getD i 0) (by omega) (by omega) (by omega)
   simp only[Xaw.B,hlen,show decide ((i:Int)<(20:Int))=true by simp;omega,Yxc hi,hO,hlg,Ywx,toNat_cast,Option.bind_some,hc,Nat.beq_refl,Bool.and_self,List.drop_zero,Nat.sub_zero,Ywe (by omega:i<4294967296)]
   rw[show(upN (X7 w) (fun _ x=>x) [] D i).set i (List.take (w.getD i 0).toNat (D.getD i []++List.replicate ((w.getD i 0).toNat-(D.getD i []).length) 0))=upN (X7 w) (fun _ x=>x) [] D (i+1) from X9 hi' rfl]) (by
   have:upN (X7 w) (fun _ x=>x) [] D 20=Xn (X7 w) [] D:=by rw[←hD,Xbz]
   simp only[Xaw.B,this];rfl) 20 0 (by omega)
 rw[←h0] at hs;exact hs
theorem Xiv {w:List Int} (hw:w.length=20) (f:Fs_) (hD:f.2.1.length=20) (a b c d:Int) :
  Xbl f w (0,[a,b,c,d,0])=some [a,b,c,d,Xj (gS w f.2.1) 20]:=by
 have hs:=Ysw (f:=fun s=>Xbl.B f w s.1 s.2) (fun i=>((i:Int),[a,b,c,d,Xj (gS w f.2.1) i])) (n:=20)
  (r:=[a,b,c,d,Xj (gS w f.2.1) 20]) (fun i hi=>by
   have hbb:=X0 (g:=gS w f.2.1) (Xgo w f.2.1) i
   simp only[Xbl.B,Xal,show decide ((i:Int)<(20:Int))=true by simp;omega,Yxc hi,Yxc (by omega:i<f.2.1.length),Ywx,toNat_cast,Option.bind_some,Ywe (by omega:i<4294967296)]
   cases hne:(((f.2.1.getD i []).length:Int) != w.getD i 0) with
   |true=>
    rw[show Xj (gS w f.2.1) (i+1)=w64 (Xj (gS w f.2.1) i+1) by rw[Yxo (by omega) (by omega)];simp only[Xj,gS,hne,Ywx]]
    rfl
   |false=>
    rw[show Xj (gS w f.2.1) (i+1)=Xj (gS w f.2.1) i by simp only[Xj,gS,hne,Ywl,Int.add_zero]]
    rfl) (by rfl) 20 0 (by omega)
 exact hs
theorem Xi2 (f:Fs_) (i:Int) (x:Nat) (hx:InD (f.1.getD x Xa)∨((f.1.getD x Xa).2.2.2.1.length≤4∧∀ b∈(f.1.getD x Xa).2.2.2.1,0≤b∧b≤19)) (w:List Int) (hw:w.length=20):Xcg i x f (0,w)=some (Xar (f.1.getD x Xa) 0 (f.1.getD x Xa).2.2.2.1 w):=by
 have hx:((f.1.getD x Xa).2.2.2.1.length≤4∧∀ b∈(f.1.getD x Xa).2.2.2.1,0≤b∧b≤19):=hx.elim (fun h=>h.bl) id
 have h:=Yno (τ:=List Int) (f.1.getD x Xa).2.2.2.1 (f:=fun s=>Xcg.B i x f s.1 s.2) (fun k w=>((k:Int),w)) (fun k b w=>.inl (w.set b.toNat (Xag 8 (w64 ((f.1.getD x Xa).2.2.1-w64 ((k:Int)*8)))))) id (fun k w=>w.length=20)
  (fun k hk w hw=>by
   have h2:=hx.2 _ (List.getElem_mem hk)
   simp only[Xcg.B,Yxe hk,Yxc hk,Ywx,toNat_cast,getD_lt _ hk,Xhi,Option.bind_some,Ywe (by omega:k<4294967296),sel]
   rw[show inB ((f.1.getD x Xa).2.2.2.1[k]) w.length=true from Yuq h2.1 (by omega)];rfl) (fun k hk w w' hw e=>by cases e;simpa using hw) (fun w hw=>by
   simp only[Xcg.B,Option.bind_some,Yxg (Nat.le_refl _),Ywl,id]) w hw (s:=(0,w)) rfl
 rw[Xcb] at h;exact h
theorem Xja (f:Fs_) (hok:Xe2 f.1):Xdt f (0,List.replicate 20 0)=some (Xb5 f.1):=by
 have hl:=hok.len
 have h:=Yno (τ:=List Int) f.1 (f:=fun s=>Xdt.B f s.1 s.2) (fun k w=>((k:Int),w)) (fun _ x w=>.inl (Xar x 0 x.2.2.2.1 w)) id (fun k w=>w.length=20)
  (fun k hk w hw=>by
   have h2:=hok.blk _ (List.getElem_mem hk);have hg:f.1.getD k Xa=f.1[k]:=getD_lt _ hk
   have e1:=Xi2 f (k:Int) k (.inr (by rw[hg];exact h2)) w hw
   rw[hg] at e1
   simp only[Xdt.B,Yxe hk,Yxc hk,Ywx,toNat_cast,e1,Option.bind_some,Ywe (by omega:k<4294967296),sel]) (fun k hk w w' hw e=>by cases e;rw[Xbu];exact hw) (fun w hw=>by
   simp only[Xdt.B,Yxg (Nat.le_refl _),Ywl,id]) (List.replicate 20 0) (by simp) (s:=(0,List.replicate 20 0)) rfl
 rw[Xca] at h;exact h
theorem Xgh (a b:Int):Xag a b≤a∧Xag a b≤b∧(Xag a b=a∨Xag a b=b):=by
 unfold Xag
 by_cases h:a<b
 ·rw[decide_eq_true h];exact⟨Int.le_refl _,Int.le_of_lt h,.inl rfl⟩
 ·rw[decide_eq_false h];exact⟨by simp only[Ywl];omega,Int.le_refl _,.inr rfl⟩
theorem Xer (x:Xb) (hs:x.2.2.1≤1000):∀ (bs:List Int) (k:Nat) (w:List Int),k+bs.length≤100→(∀ j:Nat,j<k+bs.length→0≤x.2.2.1-8*j)→(∀ j,0≤w.getD j 0∧w.getD j 0≤8)→∀ j,0≤(Xar x k bs w).getD j 0∧(Xar x k bs w).getD j 0≤8
 |[],k,w,_,_,hw,j=>hw j
 |b::bs,k,w,hl,hx,hw,j=>by
  simp only[List.length_cons] at hl hx;simp only[Xar]
  refine Xer x hs bs (k+1) _ (by omega) (fun j hj=>hx j (by omega)) (fun j=>?_) j
  have h1:=hx k (by omega)
  have e1:w64 ((k:Int)*8)=(k:Int)*8:=Yrz (by omega) (by omega)
  have e2:w64 (x.2.2.1-(k:Int)*8)=x.2.2.1-(k:Int)*8:=Yrz (by omega) (by omega)
  have hm:=Xgh 8 (x.2.2.1-(k:Int)*8);rw[e1,e2]
  by_cases e:b.toNat=j
  ·by_cases hlt:b.toNat<w.length
   ·subst e;rw[Yvs _ _ hlt];omega
   ·rw[List.set_eq_of_length_le (by omega)];exact hw j
  ·have:(w.set b.toNat (Xag 8 (x.2.2.1-(k:Int)*8))).getD j 0=w.getD j 0:=by simp only[List.getD,List.getElem?_set,e,if_false]
   rw[this];exact hw j
theorem Xet:∀ (l:List Xb) (w:List Int),(∀ x∈l,x.2.2.1≤1000∧x.2.2.2.1.length≤100∧∀ j:Nat,j<x.2.2.2.1.length→0≤x.2.2.1-8*j)→(∀ j,0≤w.getD j 0∧w.getD j 0≤8)→∀ j,0≤(Xdz l w).getD j 0∧(Xdz l w).getD j 0≤8
 |[],w,_,hw,j=>hw j
 |x::l,w,h,hw,j=>by
  obtain⟨h1,h2,h3⟩:=h x List.mem_cons_self
  exact Xet l _ (fun y hy=>h y (List.mem_cons_of_mem _ hy)) (Xer x h1 _ 0 w (by omega) (by simpa using h3) hw) j
theorem Xg9 {s:Int} (h:0≤s∧s≤32):8*Xee s≤s+7:=by
 unfold Xee
 rw[Yrz (show -9223372036854775808≤s+8 by omega) (by omega),Yrz (show -9223372036854775808≤s+8-1 by omega) (by omega)]
 have:(s+8-1).tdiv 8=(s+7) / 8:=by rw[Int.tdiv_eq_ediv_of_nonneg (by omega)];congr 1;omega
 rw[this,Yrz (by omega) (by omega)]
 omega
theorem Xfr {l:List Xb} {met:List Bool} {T:List (List Xc)} {wr:Int} {K:List Int} {P:List Nat} (h:Seen l met T wr K P):∀ j,0≤(Xb5 (Xn (Xq l met T K) Xa l)).getD j 0∧(Xb5 (Xn (Xq l met T K) Xa l)).getD j 0≤8:=by
 refine Xet _ _ (fun x hx=>?_) (fun j=>?_)
 ·obtain⟨i,hi,rfl⟩:=List.mem_map.1 hx
  rw[Xfb h];have hk1:=Xai met l i;have hD:=h.D.all i;have hk4:(Xl l i).length≤4:=hD.bl.1;have hz:=hD.sz
  by_cases hm:met.getD i false=true
  ·by_cases hk:(l.getD i Xa).1=2
   ·have hb:Xl l i=[]:=hD.dir (by rw[hk];decide)
    have:(Xq l met T K i (l.getD i Xa)).2.2.1=(l.getD i Xa).2.2.1:=by unfold Xq;rw[hm,hk];rfl
    rw[this];rw[hb] at hk1
    have hk0:kbF met l i=[]:=List.eq_nil_of_length_eq_zero (by simpa using hk1)
    rw[hk0]
    exact⟨by omega,by decide,fun j hj=>by simp at hj⟩
   ·have hk2:(l.getD i Xa).1=1:=by have:=hD.knd;have:=h.nz hm;omega
    have hfo:=hD.fil hk2;have hle:=Xg9 hz
    have hs:(Xq l met T K i (l.getD i Xa)).2.2.1=Xag (w64 (((kbF met l i).length:Int)*8)) (l.getD i Xa).2.2.1:=by unfold Xq;rw[hm,hk2];rfl
    have e1:w64 (((kbF met l i).length:Int)*8)=((kbF met l i).length:Int)*8:=Yrz (by omega) (by omega)
    rw[hs,e1];obtain⟨m1,m2,m3⟩:=Xgh (((kbF met l i).length:Int)*8) (l.getD i Xa).2.2.1;have hbl:((Xl l i).length:Int)=Xee (l.getD i Xa).2.2.1:=hfo
    refine⟨by omega,by omega,fun j hj=>?_⟩
    rcases m3 with m3 | m3<;>rw[m3]<;>omega
  ·have hm':met.getD i false=false:=by simpa using hm
   have hk0:kbF met l i=[]:=by unfold kbF;rw[hm'];rfl
   have:(Xq l met T K i (l.getD i Xa)).2.2.1=0:=by unfold Xq;rw[hm'];rfl
   rw[this,hk0]
   exact⟨by decide,by decide,fun j hj=>by simp at hj⟩
 ·simp only[List.getD,List.getElem?_replicate]
  split<;>decide
theorem Xi1 (f:Fs_) (hb:Bd Xi f):Xeu f=some (Xd0 f):=by
 simp only[Xeu,Xd0,Xh1 f.1 hb.1,Option.bind_some]
 cases hi:(Xt f.1 != 0) with
 |true=>simp only[Ywx]
 |false=>
  simp only[Ywl]
  have e1:cond (!((f.1.length:Int) == 0)) (inB 0 f.1.length) true=true:=by
   cases hl:((f.1.length:Int) == 0) with
   |true=>rfl
   |false=>exact Yxc (i:=0) (by
     have:(f.1.length:Int)≠0:=by simpa using hl
     omega)
  rw[e1];simp only[Ywx,show(0:Int).toNat=0 from rfl,Yvd]
theorem Xhn (f:Fs_) (hl1:f.1.length≤10) (hs:∀ x∈f.1,Xb9 x) (hl2:f.2.1.length=20) (hd:∀ b∈f.2.1,b.length≤1100000000):Xb8 f=some f:=by
 obtain⟨bs,ps,⟨⟩⟩:=f;replace hl1:bs.length≤10:=hl1;replace hl2:ps.length=20:=hl2
 have h0:Xc5 (bs,ps,()) ([],[],()) (0,([],[],()))=some (bs.foldl (fun(t:Fs_) x=>(t.1++[x],t.2)) ([],[],())):=
  Yij bs (f:=fun s=>Xc5.B (bs,ps,()) ([],[],()) s.1 s.2) _ (fun t=>t) (fun i t=>t.1.length≤i) (fun i hi t ht=>by
   have hw:=Xh7 (hs _ (List.getElem_mem hi))
   constructor
   ·simp only[Xc5.B,Yxe hi,Yxc hi,Ywx,toNat_cast,getD_lt _ hi,hw,Option.bind_some,Ywe (by omega:i<4294967296)]
    rw[show decide ((t.1++[(bs[i].1,bs[i].2.1,bs[i].2.2.1,bs[i].2.2.2.1,bs[i].2.2.2.2.1,bs[i].2.2.2.2.2)]).length≤2147483648)=true by simp;omega];rfl
   ·simp;omega) (fun t ht=>by simp only[Xc5.B,Yxg (Nat.le_refl _),Ywl]) _ (Nat.le_refl _)
 have h1:Xcy (bs,ps,()) ([],[],()) (0,(bs,[],()))=some (ps.foldl (fun(t:Fs_) x=>(t.1,t.2.1++[x],t.2.2)) (bs,[],())):=
  Yij ps (f:=fun s=>Xcy.B (bs,ps,()) ([],[],()) s.1 s.2) _ (fun t=>t) (fun i t=>t.2.1.length≤i) (fun i hi t ht=>by
   have hw:ps[i].length≤1100000000:=hd _ (List.getElem_mem hi)
   constructor
   ·simp only[Xcy.B,Yxe hi,Yxc hi,Ywx,toNat_cast,getD_lt _ hi,List.nil_append,decide_eq_true (show ps[i].length≤2147483648 by omega),Option.bind_some,Ywe (by omega:i<4294967296)]
    rw[show decide ((t.2.1++[ps[i]]).length≤2147483648)=true by simp;omega];rfl
   ·simp;omega) (fun t ht=>by simp only[Xcy.B,Yxg (Nat.le_refl _),Ywl]) _ (Nat.le_refl _)
 rw[Xhd] at h0;rw[Xhk] at h1;simp only[List.nil_append] at h0 h1;simp only[Xb8,h0,Option.bind_some,h1]
structure Xbf (f:Fs_) (met:List Bool) (T:List (List Xc)) (wr:Int) (K:List Int) (P:List Nat):Prop where
 S:Seen f.1 met T wr K P
 sm:∀ j,Xb9 (f.1.getD j Xa)
 d:f.2.1.length=20
 dl:∀ b∈f.2.1,b.length≤1100000000
 spec:Xce f=some ((Xbq f.1 P T,f.2.1,()),met,wr)
 impl:Xbe f=some (f,met,T,wr,K,Xn (fun j _=>((kbF met f.1 j).length:Int)) Xa f.1,())
theorem looked (f:Fs_) (h:Xd0 f=0) (hd:∀ b∈f.2.1,b.length≤1100000000):∃ met T wr K P,Xbf f met T wr K P:=by
 obtain⟨r1,r2,r3,r4⟩:=Xgx h;have hD:=Xga.of r1;have hn:=hD.len
 have hsm:∀ j,Xb9 (f.1.getD j Xa):=by
  intro j
  by_cases hj:j<f.1.length
  ·rw[getD_lt _ hj];exact Xb9.of ((Xu r1).2 _ (List.getElem_mem hj))
  ·have:f.1.getD j Xa=Xa:=by simp only[List.getD,List.getElem?_eq_none (by omega:f.1.length≤j)];rfl
   rw[this];exact⟨by simp[Xa],by simp[Xa],fun e he=>by cases he⟩
 have hent:∀ j,(Xy f.1 j).length≤6∧∀ e∈Xy f.1 j,0≤e.2.1∧e.2.1≤9:=by
  intro j
  by_cases hj:j<f.1.length
  ·unfold Xy;rw[getD_lt _ hj];exact(Xgr.of r1).ent _ (List.getElem_mem hj)
  ·have:f.1.getD j Xa=Xa:=by simp only[List.getD,List.getElem?_eq_none (by omega:f.1.length≤j)];rfl
   unfold Xy;rw[this];exact⟨by simp[Xa],fun e he=>by cases he⟩
 have h2:Xm f.1 0=2:=r3
 have hon:∀ j,on ((List.replicate f.1.length false).set 0 true) j↔j=0:=by
  intro j;rw[Xc8]
  constructor
  ·rintro(hj | ⟨rfl,_⟩)
   ·unfold on at hj
    simp only[List.getD,List.getElem?_replicate] at hj
    split at hj<;>cases hj
   ·rfl
  ·rintro rfl;exact .inr ⟨rfl,by simpa using r2⟩
 have hT0:∀ j,(List.replicate f.1.length ([]:List Xc)).getD j []=[]:=by
  intro j;simp only[List.getD,List.getElem?_replicate];split<;>rfl
 have hK0:∀ j,(List.replicate f.1.length (0:Int)).getD j 0=0:=by
  intro j;simp only[List.getD,List.getElem?_replicate];split<;>rfl
 have hc0:∀ n j,Xe9 (List.replicate n ([]:List Xc)) j=0:=by
  intro n j;simp[Xe9,List.flatMap_replicate]
 have I0:Xg0 f.1 [0] ((List.replicate f.1.length false).set 0 true) (List.replicate f.1.length []) 0 (List.replicate f.1.length 0) []:=by
  refine⟨by simp,by simp,by simp,(hon 0).2 rfl,by simp,fun a ha=>?_,fun j hj=>?_,fun j hj hk=>?_,fun j hj=>?_,fun j _=>hT0 j,fun j=>?_,fun j=>?_,fun j=>?_,by decide,by simp⟩
  ·simp only[List.mem_singleton] at ha;subst ha;exact⟨by decide,by omega⟩
  ·simp at hj;subst hj;exact⟨r2,h2,(hon 0).2 rfl⟩
  ·rw[(hon j).1 hj];simp
  ·rw[(hon j).1 hj];rw[show((0:Nat):Int)=0 from rfl,h2];decide
  ·rw[hT0];exact⟨by simp,fun e he=>by cases he⟩
  ·rw[hK0,hc0];rfl
  ·rw[hK0];simp
 obtain⟨met,T,wr,K,P,J,j1,j2⟩:=Xf3 f hn h2 hent ([],[],()) (List.replicate f.1.length 0) f.2.1 11 _ _ _ _ _ _ I0 (by simp;omega)
 have S:Seen f.1 met T wr K P:=⟨J,hD⟩;refine⟨met,T,wr,K,P,S,hsm,r4,hd,?_,?_⟩
 ·have hcp:=Xhn f hn (fun x hx=>by obtain⟨j,hj,rfl⟩:=List.getElem_of_mem hx;have:=hsm j;rwa [getD_lt _ hj] at this) r4 hd
  have ho:Xbq f.1 [] (List.replicate f.1.length [])=f.1:=by
   unfold Xbq;refine Eq.trans (X4 fun i _=>?_) (Xej Xa f.1);simp
  rw[ho] at j2
  have hc1:(decide ((0:Int)≤(f.1.length:Int))&&(decide ((f.1.length:Int)≤(f.1.length:Int))&&decide ((f.1.length:Int)≤2147483648)))=true:=by simp;omega
  simp only[Xce,hcp,Option.bind_some,hc1,Ywx,toNat_cast,List.length_replicate,Yxc (i:=0) r2,show inB 0 f.1.length=true from Yxc (i:=0) r2];rw[show(0:Int).toNat=0 from rfl,show Xdo f ([],[],()) (0,(f.1,f.2.1,f.2.2),(List.replicate f.1.length false).set 0 true,[0])=_ from j2];rfl
 ·have hc1:(decide ((0:Int)≤(f.1.length:Int))&&(decide ((f.1.length:Int)≤(f.1.length:Int))&&decide ((f.1.length:Int)≤2147483648)))=true:=by simp;omega
  simp only[Xbe,hc1,Ywx,Option.bind_some,toNat_cast,List.length_replicate,show inB 0 f.1.length=true from Yxc (i:=0) r2];rw[show(0:Int).toNat=0 from rfl,j1];simp only[Option.bind_some];rw[Xhp hD J.len];rfl
def Xgg (f:Fs_) (met:List Bool) (T:List (List Xc)) (K:List Int):Fs_:=
 (Xn (Xq f.1 met T K) Xa f.1,Xn (X7 (Xb5 (Xn (Xq f.1 met T K) Xa f.1))) [] f.2.1,())
def Xf9 (f:Fs_) (met:List Bool) (T:List (List Xc)) (wr:Int) (K:List Int):List Int:=
 [wr,Xj (gL f.1 met) f.1.length,Xj (gT f.1 met) f.1.length,Xj (gK f.1 met K) f.1.length,Xj (gS (Xb5 (Xn (Xq f.1 met T K) Xa f.1)) f.2.1) 20]
theorem Xbf.wok {f:Fs_} {met:List Bool} {T:List (List Xc)} {wr:Int} {K:List Int} {P:List Nat} (h:Xbf f met T wr K P):Xe2 (Xn (Xq f.1 met T K) Xa f.1):=Xfz h.S (Nat.le_refl _)
theorem Xbf.mends {f:Fs_} {met:List Bool} {T:List (List Xc)} {wr:Int} {K:List Int} {P:List Nat} (h:Xbf f met T wr K P):Xfg f=some (Xgg f met T K,Xf9 f met T wr K):=by
 have hb:=Xfr h.S;have hwl:=Xc0 (Xn (Xq f.1 met T K) Xa f.1)
 have e0:Xbp ((Xbq f.1 P T,f.2.1,()).1,(Xbq f.1 P T,f.2.1,()).2.1,(Xbq f.1 P T,f.2.1,()).2.2) met=some (Xj (gL f.1 met) f.1.length,Xj (gT f.1 met) f.1.length,Xj (gK f.1 met K) f.1.length,(Xn (Xq f.1 met T K) Xa f.1,f.2.1,())):=by
  simp only[Xbp,Xh6 h.S,Option.bind_some,Xig h.S]
 have e1:Xbg (Xn (Xq f.1 met T K) Xa f.1,f.2.1,())=some (Xj (gS (Xb5 (Xn (Xq f.1 met T K) Xa f.1)) f.2.1) 20,(Xgg f met T K)):=by
  simp only[Xbg];rw[show(decide ((0:Int)≤(20:Int))&&(decide ((20:Int)≤(20:Int))&&decide ((20:Int)≤2147483648)))=true from rfl,show(20:Int).toNat=20 from rfl];rw[Xja (Xn (Xq f.1 met T K) Xa f.1,f.2.1,()) h.wok];simp only[Ywx,Option.bind_some,Xi4 hwl hb _ f.2.1 h.d h.dl];rfl
 simp only[Xfg,h.spec,Option.bind_some];rw[e0];simp only[Option.bind_some,e1];rfl
theorem Xbf.Xg3 {f:Fs_} {met:List Bool} {T:List (List Xc)} {wr:Int} {K:List Int} {P:List Nat} (h:Xbf f met T wr K P) (hb:Bd Xi f):Xac (f,met,T,wr,K,Xn (fun j _=>((kbF met f.1 j).length:Int)) Xa f.1,())=some (Xgg f met T K):=by
 have hbd:=Xfr h.S;have hwl:=Xc0 (Xn (Xq f.1 met T K) Xa f.1);simp only[Xac,Xjc f hb,Option.bind_some];rw[show(f.1,f.2.1,f.2.2)=(f.1,f.2.1,()) from rfl,Xjk f ([],[],()) h.S f.2.1];simp only[Option.bind_some,Xhf _ h.wok,Xjb hwl hbd _ _ f.2.1 h.d h.dl];rfl
theorem Xbf.Xgm {f:Fs_} {met:List Bool} {T:List (List Xc)} {wr:Int} {K:List Int} {P:List Nat} (h:Xbf f met T wr K P) (hb:Bd Xi f):Xad f=some (Xf9 f met T wr K):=by
 have hwl:=Xc0 (Xn (Xq f.1 met T K) Xa f.1);simp only[Xad,h.impl,Option.bind_some,Xik f f h.S,h.Xg3 hb];rw[show(Xgg f met T K).1=Xn (Xq f.1 met T K) Xa f.1 from rfl,Xhf _ h.wok];simp only[Option.bind_some,Xiv hwl f h.d];rfl
theorem Xgc {f:Fs_} (hw:wt Xi f≤1048576):∀ b∈f.2.1,b.length≤1100000000:=by
 intro b hb;have h1:wt Xi f=wt (.sl Xd) f.1+(wt (.sl (.sl (.int .u8))) f.2.1+0):=rfl;have h2:wt (.sl (.sl (.int .u8))) f.2.1=(f.2.1.map (wt (.sl (.int .u8)))).sum+1:=rfl;have h3:=Yil (wt (.sl (.int .u8))) hb;have h4:wt (.sl (.int .u8)) b=(b.map (wt (.int .u8))).sum+1:=rfl;have h5:=Ylh (wt (.int .u8)) (fun x=>Nat.le_refl 1) b;omega
theorem FindingsOf.main (f:Fs_) (hf:Fit Xi f) (hw:wt Xi f≤1048576):∃ r,Xeo f=some r∧Xbt f=some r∧wt (.pair (.int .i64) (.pair (.sl (.int .i64)) .unit)) r≤2147483648:=by
 have hb:Bd Xi f:=Yps (by decide) (by omega)
 simp only[Xeo,Xbt,Xi1 f hb,Xht f hb,Option.bind_some]
 cases h:(Xd0 f != 0) with
 |true=>exact⟨_,rfl,rfl,by simp[wt]⟩
 |false=>
  obtain⟨met,T,wr,K,P,L⟩:=looked f (by simpa using h) (Xgc hw)
  simp only[Ywl,L.mends,Option.bind_some,L.Xgm hb]
  exact⟨_,rfl,rfl,by simp[wt,Xf9]⟩
theorem FindingsOf.law (x:PT.Els (shs [Xi])) (hf:Yo1 [Xi] x) (hw:Yo5 [Xi] x≤1048576):Xd2 x.1=some true:=by
 simp only[Yo5] at hw;have hf0:Fit Xi x.1:=hf.1
 have hw0:wt Xi x.1≤1048576:=by omega
 clear hw hf;generalize x.1=a0 at hf0 hw0 ⊢;obtain⟨r,hr1,hr2,hr3⟩:=FindingsOf.main a0 hf0 hw0;obtain⟨r_0,r_1,⟨⟩⟩:=r;replace hr3:wt Xk (r_0,r_1,())≤2147483648:=hr3;replace hr1:Xeo a0=some (r_0,r_1,()):=hr1;replace hr2:Xbt a0=some (r_0,r_1,()):=hr2;have er:=Xi5 (r_0,r_1,()) hr3
 obtain⟨kr,y0,l1,l2,hm,hh⟩:=Xi9 r_0 r_1 1 (by omega) (by omega) hr3
 have to0:=Xi0 a0 (by omega)
 have eq0:=Xh4 a0 (by omega)
 obtain⟨k0,z0_0,z0_1,l0,u0,m0⟩:=Xh3 a0.1 a0.2.1 1 (by omega) (by show _+((wt Xi a0:Nat):Int)≤_;omega) (by show wt Xi a0≤_;omega)
 have u0:k0≤1+((wt Xi a0:Nat):Int):=u0
 try simp only[Yxp] at m0
 have hsz:∀ g:Option Bool,g=some true→∀ b:Bool,cond b (some true) g=some true:=fun g h b=>by cases b<;>first | rfl | exact h
 simp only[Xd2]
 repeat' (first | with_reducible refine hsz _ ?_ _ | (rw[Option.bind_some]) | (obtain⟨q,hq⟩:=Xhr a0 _ (by omega);rw[hq,Option.bind_some];clear hq))
 simp only[er,hm,hh,to0,eq0,m0,hr1,hr2,Yxp,Option.bind_some,Bool.not_true,Ywl,Ywx,Yvr,Yu9,Yvf,Ywn (by omega:0≤kr),Ywn (by omega:0≤k0)]
end Mf
