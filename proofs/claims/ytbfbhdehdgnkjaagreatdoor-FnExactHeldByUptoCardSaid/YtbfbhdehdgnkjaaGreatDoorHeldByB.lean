import Derived.Test.YtbfbhdehdgnkjaaGreatDoorHeldByA
set_option linter.unusedVariables false
set_option linter.unusedSimpArgs false
noncomputable section
namespace Mf
open Go
set_option maxRecDepth 100000
theorem Xiq (a:(List Int)) (n:Int) (hw:wt (.sl (.int .i64)) a≤2147483648):∃ r,Zq0 a n=some r:=by
 simp only[Zq0]
 repeat' (first | with_reducible exact Yuv _ | with_reducible refine Yut (Yuv _) fun _=>?_ | with_reducible apply Yuu)
theorem Xir (a:Xf) (n:Int) (hw:wt Xm a≤2147483648):∃ r,Zq1 a n=some r:=by
 simp only[Zq1]
 repeat' (first | with_reducible exact Yuv _ | with_reducible refine Yut (Yuv _) fun _=>?_ | with_reducible apply Yuu)
theorem Xis (a:(List Xf)) (n:Int) (hw:wt (.sl Xm) a≤2147483648):∃ r,Zq3 a n=some r:=by
 have hw2:=hw;simp only[wA] at hw2
 have hl:a.length≤2147483648:=by have:=Yk1 (wt Xm) (fun x=>by simp only[wA];omega) a;omega
 have lp:∀ k,∃ r,Zq2 a (k,0)=some r:=fun k=>by
  refine Yr6 (f:=fun s=>Zq2.B a s.1 s.2) (fun(i:Nat) (k:Int)=>(k,(i:Int))) a.length (fun i k hi=>?_) (fun k=>?_) a.length 0 k (by omega)
  ·have hm:=Yr8 (wt Xm) a i hi
   have hb:inB (i:Int) a.length=true:=Ytf (by omega) (by omega)
   simp only[Zq2.B,Yva hi,hb,Yus,toNat_cast,getD_lt _ hi,Yup (by omega:i<4294967296)]
   repeat' (first | with_reducible exact Yu2 _ | (with_reducible refine .inl ⟨_,rfl,?_⟩;exact⟨_,rfl⟩) | with_reducible refine Yua (Xir _ _ (by first | omega | (simp only[wA] at hm ⊢;omega))) fun _=>?_ | with_reducible refine Yua (Yuv _) fun _=>?_ | with_reducible apply Yub)
  ·refine⟨.inr k,?_⟩;simp only[Zq2.B,Yu5 (jB _),Yur]
 simp only[Zq3]
 repeat' (first | with_reducible exact Yuv _ | with_reducible refine Yut (lp _) fun o=>?_ | with_reducible refine Yut (Yuv _) fun _=>?_ | with_reducible apply Yuu | (cases o<;>exact⟨_,rfl⟩))
theorem Xit (a:Xa) (n:Int) (hw:wt Xb a≤2147483648):∃ r,Zq4 a n=some r:=by
 simp only[Zq4]
 repeat' (first | with_reducible exact Yuv _ | with_reducible refine Yut (Xiq _ _ (by first | omega | (simp only[wA] at hw ⊢;omega))) fun _=>?_ | with_reducible refine Yut (Xis _ _ (by first | omega | (simp only[wA] at hw ⊢;omega))) fun _=>?_ | with_reducible refine Yut (Yuv _) fun _=>?_ | with_reducible apply Yuu)
theorem Xiu (a:(List Xa)) (n:Int) (hw:wt (.sl Xb) a≤2147483648):∃ r,Zq6 a n=some r:=by
 have hw2:=hw;simp only[wA] at hw2
 have hl:a.length≤2147483648:=by have:=Yk1 (wt Xb) (fun x=>by simp only[wA];omega) a;omega
 have lp:∀ k,∃ r,Zq5 a (k,0)=some r:=fun k=>by
  refine Yr6 (f:=fun s=>Zq5.B a s.1 s.2) (fun(i:Nat) (k:Int)=>(k,(i:Int))) a.length (fun i k hi=>?_) (fun k=>?_) a.length 0 k (by omega)
  ·have hm:=Yr8 (wt Xb) a i hi
   have hb:inB (i:Int) a.length=true:=Ytf (by omega) (by omega)
   simp only[Zq5.B,Yva hi,hb,Yus,toNat_cast,getD_lt _ hi,Yup (by omega:i<4294967296)]
   repeat' (first | with_reducible exact Yu2 _ | (with_reducible refine .inl ⟨_,rfl,?_⟩;exact⟨_,rfl⟩) | with_reducible refine Yua (Xit _ _ (by first | omega | (simp only[wA] at hm ⊢;omega))) fun _=>?_ | with_reducible refine Yua (Yuv _) fun _=>?_ | with_reducible apply Yub)
  ·refine⟨.inr k,?_⟩;simp only[Zq5.B,Yu5 (jB _),Yur]
 simp only[Zq6]
 repeat' (first | with_reducible exact Yuv _ | with_reducible refine Yut (lp _) fun o=>?_ | with_reducible refine Yut (Yuv _) fun _=>?_ | with_reducible apply Yuu | (cases o<;>exact⟨_,rfl⟩))
theorem Xiv (a:(List Int)) (n:Int) (hw:wt (.sl (.int .u8)) a≤2147483648):∃ r,Zq7 a n=some r:=by
 simp only[Zq7]
 repeat' (first | with_reducible exact Yuv _ | with_reducible refine Yut (Yuv _) fun _=>?_ | with_reducible apply Yuu)
theorem Xiw (a:(List (List Int))) (n:Int) (hw:wt (.sl (.sl (.int .u8))) a≤2147483648):∃ r,Zq9 a n=some r:=by
 have hw2:=hw;simp only[wA] at hw2
 have hl:a.length≤2147483648:=by have:=Yk1 (wt (.sl (.int .u8))) (fun x=>by simp only[wA];omega) a;omega
 have lp:∀ k,∃ r,Zq8 a (k,0)=some r:=fun k=>by
  refine Yr6 (f:=fun s=>Zq8.B a s.1 s.2) (fun(i:Nat) (k:Int)=>(k,(i:Int))) a.length (fun i k hi=>?_) (fun k=>?_) a.length 0 k (by omega)
  ·have hm:=Yr8 (wt (.sl (.int .u8))) a i hi
   have hb:inB (i:Int) a.length=true:=Ytf (by omega) (by omega)
   simp only[Zq8.B,Yva hi,hb,Yus,toNat_cast,getD_lt _ hi,Yup (by omega:i<4294967296)]
   repeat' (first | with_reducible exact Yu2 _ | (with_reducible refine .inl ⟨_,rfl,?_⟩;exact⟨_,rfl⟩) | with_reducible refine Yua (Xiv _ _ (by first | omega | (simp only[wA] at hm ⊢;omega))) fun _=>?_ | with_reducible refine Yua (Yuv _) fun _=>?_ | with_reducible apply Yub)
  ·refine⟨.inr k,?_⟩;simp only[Zq8.B,Yu5 (jB _),Yur]
 simp only[Zq9]
 repeat' (first | with_reducible exact Yuv _ | with_reducible refine Yut (lp _) fun o=>?_ | with_reducible refine Yut (Yuv _) fun _=>?_ | with_reducible apply Yuu | (cases o<;>exact⟨_,rfl⟩))
theorem Xix (a:Fs_) (n:Int) (hw:wt Xp a≤2147483648):∃ r,Xgi a n=some r:=by
 simp only[Xgi]
 repeat' (first | with_reducible exact Yuv _ | with_reducible refine Yut (Xiu _ _ (by first | omega | (simp only[wA] at hw ⊢;omega))) fun _=>?_ | with_reducible refine Yut (Xiw _ _ (by first | omega | (simp only[wA] at hw ⊢;omega))) fun _=>?_ | with_reducible refine Yut (Yuv _) fun _=>?_ | with_reducible apply Yuu)
theorem Xiy (a:(List Int)) (hw:wt (.sl (.int .i64)) a≤2147483648):Xgj a=some a:=by
 have hw2:=hw;simp only[wA] at hw2
 have hl:a.length≤2147483648:=by have:=Yk1 (wt (.int .i64)) (fun x=>by simp only[wA];omega) a;omega
 have lp:Xdz a (0,List.replicate (a.length:Int).toNat 0)=some a:=by
  refine Yuo a (fun s=>Xdz.B a s.1 s.2) 0 (fun i hi out ho=>?_) (fun out ho=>?_)
  ·have hm:=Yr8 (wt (.int .i64)) a i hi
   have hb:inB (i:Int) a.length=true:=Ytf (by omega) (by omega)
   have hc:inB (i:Int) out.length=true:=Ytf (by omega) (by omega)
   simp only[Xdz.B,Yva hi,hb,hc,Yus,toNat_cast,getD_lt _ hi,jA,Yvj,Yup (by omega:i<4294967296)]
  ·simp only[Xdz.B];rw[show decide ((a.length:Int)<(a.length:Int))=false by simp];rfl
 simp only[Xgj]
 rw[show(decide ((0:Int)≤(a.length:Int))&&(decide ((a.length:Int)≤(a.length:Int))&&decide ((a.length:Int)≤2147483648)))=true by simp;omega]
 simp only[Yus,jA,lp]
theorem Xiz (a:Xf) (hw:wt Xm a≤2147483648):Xgk a=some a:=by
 obtain⟨x0,x1,⟨⟩⟩:=a;simp only[wA] at hw;simp only[Xgk,jA,Yvj]
theorem Xi0 (a:(List Xf)) (hw:wt (.sl Xm) a≤2147483648):Xd1 a=some a:=by
 have hw2:=hw;simp only[wA] at hw2
 have hl:a.length≤2147483648:=by have:=Yk1 (wt Xm) (fun x=>by simp only[wA];omega) a;omega
 have lp:Xd0 a (0,List.replicate (a.length:Int).toNat Xo)=some a:=by
  refine Yuo a (fun s=>Xd0.B a s.1 s.2) Xo (fun i hi out ho=>?_) (fun out ho=>?_)
  ·have hm:=Yr8 (wt Xm) a i hi
   have hb:inB (i:Int) a.length=true:=Ytf (by omega) (by omega)
   have hc:inB (i:Int) out.length=true:=Ytf (by omega) (by omega)
   have h0:=Xiz a[i] (by omega)
   simp only[Xd0.B,Yva hi,hb,hc,Yus,toNat_cast,getD_lt _ hi,h0,jA,Yvj,Yup (by omega:i<4294967296)]
  ·simp only[Xd0.B];rw[show decide ((a.length:Int)<(a.length:Int))=false by simp];rfl
 simp only[Xd1]
 rw[show(decide ((0:Int)≤(a.length:Int))&&(decide ((a.length:Int)≤(a.length:Int))&&decide ((a.length:Int)≤2147483648)))=true by simp;omega]
 simp only[Yus,jA,lp]
theorem Xi1 (a:Xa) (hw:wt Xb a≤2147483648):Xgl a=some a:=by
 obtain⟨x0,x1,x2,x3,x4,⟨⟩⟩:=a;simp only[wA] at hw
 have h_x3_0:=Xiy x3 (by simp only[wA];omega)
 have h_x4_1:=Xi0 x4 (by simp only[wA];omega)
 simp only[Xgl,h_x3_0,h_x4_1,jA,Yvj]
theorem Xi2 (a:(List Xa)) (hw:wt (.sl Xb) a≤2147483648):Xd3 a=some a:=by
 have hw2:=hw;simp only[wA] at hw2
 have hl:a.length≤2147483648:=by have:=Yk1 (wt Xb) (fun x=>by simp only[wA];omega) a;omega
 have lp:Xd2 a (0,List.replicate (a.length:Int).toNat Xc)=some a:=by
  refine Yuo a (fun s=>Xd2.B a s.1 s.2) Xc (fun i hi out ho=>?_) (fun out ho=>?_)
  ·have hm:=Yr8 (wt Xb) a i hi
   have hb:inB (i:Int) a.length=true:=Ytf (by omega) (by omega)
   have hc:inB (i:Int) out.length=true:=Ytf (by omega) (by omega)
   have h0:=Xi1 a[i] (by omega)
   simp only[Xd2.B,Yva hi,hb,hc,Yus,toNat_cast,getD_lt _ hi,h0,jA,Yvj,Yup (by omega:i<4294967296)]
  ·simp only[Xd2.B];rw[show decide ((a.length:Int)<(a.length:Int))=false by simp];rfl
 simp only[Xd3]
 rw[show(decide ((0:Int)≤(a.length:Int))&&(decide ((a.length:Int)≤(a.length:Int))&&decide ((a.length:Int)≤2147483648)))=true by simp;omega]
 simp only[Yus,jA,lp]
theorem Xi3 (a:(List Int)) (hw:wt (.sl (.int .u8)) a≤2147483648):Xgm a=some a:=by
 have hw2:=hw;simp only[wA] at hw2
 have hl:a.length≤2147483648:=by have:=Yk1 (wt (.int .u8)) (fun x=>by simp only[wA];omega) a;omega
 have lp:Xd4 a (0,List.replicate (a.length:Int).toNat 0)=some a:=by
  refine Yuo a (fun s=>Xd4.B a s.1 s.2) 0 (fun i hi out ho=>?_) (fun out ho=>?_)
  ·have hm:=Yr8 (wt (.int .u8)) a i hi
   have hb:inB (i:Int) a.length=true:=Ytf (by omega) (by omega)
   have hc:inB (i:Int) out.length=true:=Ytf (by omega) (by omega)
   simp only[Xd4.B,Yva hi,hb,hc,Yus,toNat_cast,getD_lt _ hi,jA,Yvj,Yup (by omega:i<4294967296)]
  ·simp only[Xd4.B];rw[show decide ((a.length:Int)<(a.length:Int))=false by simp];rfl
 simp only[Xgm]
 rw[show(decide ((0:Int)≤(a.length:Int))&&(decide ((a.length:Int)≤(a.length:Int))&&decide ((a.length:Int)≤2147483648)))=true by simp;omega]
 simp only[Yus,jA,lp]
theorem Xi4 (a:(List (List Int))) (hw:wt (.sl (.sl (.int .u8))) a≤2147483648):Xd6 a=some a:=by
 have hw2:=hw;simp only[wA] at hw2
 have hl:a.length≤2147483648:=by have:=Yk1 (wt (.sl (.int .u8))) (fun x=>by simp only[wA];omega) a;omega
 have lp:Xd5 a (0,List.replicate (a.length:Int).toNat ([]:List Int))=some a:=by
  refine Yuo a (fun s=>Xd5.B a s.1 s.2) [] (fun i hi out ho=>?_) (fun out ho=>?_)
  ·have hm:=Yr8 (wt (.sl (.int .u8))) a i hi
   have hb:inB (i:Int) a.length=true:=Ytf (by omega) (by omega)
   have hc:inB (i:Int) out.length=true:=Ytf (by omega) (by omega)
   have h0:=Xi3 a[i] (by omega)
   simp only[Xd5.B,Yva hi,hb,hc,Yus,toNat_cast,getD_lt _ hi,h0,jA,Yvj,Yup (by omega:i<4294967296)]
  ·simp only[Xd5.B];rw[show decide ((a.length:Int)<(a.length:Int))=false by simp];rfl
 simp only[Xd6]
 rw[show(decide ((0:Int)≤(a.length:Int))&&(decide ((a.length:Int)≤(a.length:Int))&&decide ((a.length:Int)≤2147483648)))=true by simp;omega]
 simp only[Yus,jA,lp]
theorem Xi5 (a:Fs_) (hw:wt Xp a≤2147483648):Xfr a=some a:=by
 obtain⟨x0,x1,⟨⟩⟩:=a;simp only[wA] at hw
 have h_x0_0:=Xi2 x0 (by simp only[wA];omega)
 have h_x1_1:=Xi4 x1 (by simp only[wA];omega)
 simp only[Xfr,h_x0_0,h_x1_1,jA,Yvj]
theorem Xi6 (a:Xj) (hw:wt Xn a≤2147483648):Xdg a a=some true:=by
 obtain⟨x0,x1,⟨⟩⟩:=a;simp only[wA] at hw;simp only[Xdg,jA,jK,Yt3,Ytw,Ytv,Yur,Yus]
theorem Xi7 (a:(List Int)) (hw:wt (.sl (.int .i64)) a≤2147483648):Xdh a a=some true:=by
 have hw2:=hw;simp only[wA] at hw2
 have hl:a.length≤2147483648:=by have:=Yk1 (wt (.int .i64)) (fun x=>by simp only[wA];omega) a;omega
 have lp:Xbh a a 0=some (.inr ()):=by
  refine Yt9 (n:=a.length) (fun s=>Xbh.B a a s) (fun i hi=>?_) ?_
  ·have hm:=Yr8 (wt (.int .i64)) a i hi
   have hb:inB (i:Int) a.length=true:=Ytf (by omega) (by omega)
   simp only[Xbh.B,Yva hi,hb,Yus,Yur,toNat_cast,getD_lt _ hi,jA,jK,Yt3,Ytw,Ytv,Yup (by omega:i<4294967296)]
  ·simp only[Xbh.B,Yu5 (jB _),Yur]
 simp only[Xdh,Yt3,Yur,lp,jA,sel]
theorem Xi8 (a:Xf) (hw:wt Xm a≤2147483648):Xdi a a=some true:=by
 obtain⟨x0,x1,⟨⟩⟩:=a;simp only[wA] at hw;simp only[Xdi,jA,jK,Yt3,Ytw,Ytv,Yur,Yus]
theorem Xi9 (a:(List Xf)) (hw:wt (.sl Xm) a≤2147483648):Xbj a a=some true:=by
 have hw2:=hw;simp only[wA] at hw2
 have hl:a.length≤2147483648:=by have:=Yk1 (wt Xm) (fun x=>by simp only[wA];omega) a;omega
 have lp:Xbi a a 0=some (.inr ()):=by
  refine Yt9 (n:=a.length) (fun s=>Xbi.B a a s) (fun i hi=>?_) ?_
  ·have hm:=Yr8 (wt Xm) a i hi
   have hb:inB (i:Int) a.length=true:=Ytf (by omega) (by omega)
   have h0:=Xi8 a[i] (by omega)
   simp only[Xbi.B,Yva hi,hb,Yus,Yur,toNat_cast,getD_lt _ hi,h0,jA,jK,Yt3,Ytw,Ytv,Yup (by omega:i<4294967296)]
  ·simp only[Xbi.B,Yu5 (jB _),Yur]
 simp only[Xbj,Yt3,Yur,lp,jA,sel]
theorem Xja (a:Xa) (hw:wt Xb a≤2147483648):Xdj a a=some true:=by
 obtain⟨x0,x1,x2,x3,x4,⟨⟩⟩:=a;simp only[wA] at hw
 have h_x3_0:=Xi7 x3 (by simp only[wA];omega)
 have h_x4_1:=Xi9 x4 (by simp only[wA];omega)
 simp only[Xdj,h_x3_0,h_x4_1,jA,jK,Yt3,Ytw,Ytv,Yur,Yus]
theorem Xjb (a:(List Xa)) (hw:wt (.sl Xb) a≤2147483648):Xbl a a=some true:=by
 have hw2:=hw;simp only[wA] at hw2
 have hl:a.length≤2147483648:=by have:=Yk1 (wt Xb) (fun x=>by simp only[wA];omega) a;omega
 have lp:Xbk a a 0=some (.inr ()):=by
  refine Yt9 (n:=a.length) (fun s=>Xbk.B a a s) (fun i hi=>?_) ?_
  ·have hm:=Yr8 (wt Xb) a i hi
   have hb:inB (i:Int) a.length=true:=Ytf (by omega) (by omega)
   have h0:=Xja a[i] (by omega)
   simp only[Xbk.B,Yva hi,hb,Yus,Yur,toNat_cast,getD_lt _ hi,h0,jA,jK,Yt3,Ytw,Ytv,Yup (by omega:i<4294967296)]
  ·simp only[Xbk.B,Yu5 (jB _),Yur]
 simp only[Xbl,Yt3,Yur,lp,jA,sel]
theorem Xjc (a:(List Int)) (hw:wt (.sl (.int .u8)) a≤2147483648):Xdk a a=some true:=by
 have hw2:=hw;simp only[wA] at hw2
 have hl:a.length≤2147483648:=by have:=Yk1 (wt (.int .u8)) (fun x=>by simp only[wA];omega) a;omega
 have lp:Xbm a a 0=some (.inr ()):=by
  refine Yt9 (n:=a.length) (fun s=>Xbm.B a a s) (fun i hi=>?_) ?_
  ·have hm:=Yr8 (wt (.int .u8)) a i hi
   have hb:inB (i:Int) a.length=true:=Ytf (by omega) (by omega)
   simp only[Xbm.B,Yva hi,hb,Yus,Yur,toNat_cast,getD_lt _ hi,jA,jK,Yt3,Ytw,Ytv,Yup (by omega:i<4294967296)]
  ·simp only[Xbm.B,Yu5 (jB _),Yur]
 simp only[Xdk,Yt3,Yur,lp,jA,sel]
theorem Xjd (a:(List (List Int))) (hw:wt (.sl (.sl (.int .u8))) a≤2147483648):Xbo a a=some true:=by
 have hw2:=hw;simp only[wA] at hw2
 have hl:a.length≤2147483648:=by have:=Yk1 (wt (.sl (.int .u8))) (fun x=>by simp only[wA];omega) a;omega
 have lp:Xbn a a 0=some (.inr ()):=by
  refine Yt9 (n:=a.length) (fun s=>Xbn.B a a s) (fun i hi=>?_) ?_
  ·have hm:=Yr8 (wt (.sl (.int .u8))) a i hi
   have hb:inB (i:Int) a.length=true:=Ytf (by omega) (by omega)
   have h0:=Xjc a[i] (by omega)
   simp only[Xbn.B,Yva hi,hb,Yus,Yur,toNat_cast,getD_lt _ hi,h0,jA,jK,Yt3,Ytw,Ytv,Yup (by omega:i<4294967296)]
  ·simp only[Xbn.B,Yu5 (jB _),Yur]
 simp only[Xbo,Yt3,Yur,lp,jA,sel]
theorem Xje (a:Fs_) (hw:wt Xp a≤2147483648):Xdl a a=some true:=by
 obtain⟨x0,x1,⟨⟩⟩:=a;simp only[wA] at hw
 have h_x0_0:=Xjb x0 (by simp only[wA];omega)
 have h_x1_1:=Xjd x1 (by simp only[wA];omega)
 simp only[Xdl,h_x0_0,h_x1_1,jA,jK,Yt3,Ytw,Ytv,Yur,Yus]
def inR (v lo hi:Int):Bool:=cond (decide (v≥lo)) (decide (v≤hi)) false
theorem Xfo {v lo hi:Int}:inR v lo hi=true↔lo≤v∧v≤hi:=by
 unfold inR;by_cases h:v≥lo<;>simp[h]<;>omega
theorem Xf7 (v lo hi:Int):Xan v lo hi=some (inR v lo hi):=rfl
theorem Xf8 (v lo hi:Int):Xao v lo hi=some (inR v lo hi):=rfl
theorem Xg1 {α:Type} (p:α→Bool) (l:List α):((some (match Yni p 0 l with | some j=>.inl (j:Int) | none=>.inr ():Int⊕Unit)).bind fun o=>sel o (fun b=>some b) (fun c=>some (-1))).bind (fun r=>some (decide (r≥0)))=some (l.any p):=by
 cases h:Yni p 0 l with
 |none=>rw[Yo9.1 h];rfl
 |some j=>
  have:l.any p=true:=by
   cases ha:l.any p with
   |true=>rfl
   |false=>rw[Yo9.2 ha] at h;cases h
  rw[this];simp[sel]
theorem Xck (n:Int) (g:Option Int):((some (cond (n != 0) (.inl n) (.inr ()):Int⊕Unit)).bind fun o=>sel o (fun b=>some b) (fun _=>g))=cond (n != 0) (some n) g:=by
 cases (n != 0)<;>rfl
theorem Xbv (n:Int):cond (n != 0) (some n) (some 0)=some n:=by
 cases h:(n != 0)
 ·have:n=0:=by simpa using h
  rw[this];rfl
 ·rfl
theorem Xhx {α:Type} {xs:List α} (h:xs.length≤2147483648):Yp9 xs=some xs:=by
 unfold Yp9;rw[show decide (xs.length≤2147483648)=true by simp;omega];rfl
theorem Xhz {n:Nat} (h:n≤2147483648):decide (n≤2147483648)=true:=by simp;omega
def Xf5 (b:UInt8):Bool:=cond (decide ((b.toNat:Int)<97)) true (decide ((b.toNat:Int)>122))
def Xu (s:List UInt8):Int:=cond (s.any Xf5) 5 (cond (s == []) 5 (cond (decide ((s.length:Int)>4)) 2 0))
theorem Xjf (s:List UInt8) (hl:s.length≤2147483648):Xgn s=some (Xu s):=by
 have h:Xe7 s 0=_:=Yue s Xf5 (5:Int) (fun i hi=>by
  simp only[Xe7.B,Yva hi,Yu7 hi,Yus,toNat_cast,getD_lt _ hi,jA,Yup (by omega:i<4294967296),Xf5,Ytx]) (by
  simp only[Xe7.B,Yu5 (jB _),Yur])
 simp only[Xgn,h,jA,Xu];cases s.any Xf5
 ·simp only[Yur,Yuy,Ytz]
 ·rfl
theorem Xij (s:List UInt8) (hl:s.length≤2147483648):Xfm s=some (Xu s):=by
 have h:Xfl s (s.length:Int) 0=_:=Yue s Xf5 (5:Int) (fun i hi=>by
  simp only[Xfl.B,Yva hi,Yu7 hi,Yus,toNat_cast,getD_lt _ hi,jA,Yup (by omega:i<4294967296),Xf5,Ytx]) (by
  simp only[Xfl.B,Yu5 (jB _),Yur])
 simp only[Xfm,h,jA,Xu]
 cases s with
 |nil=>rfl
 |cons b s=>
  rw[show((b::s:List UInt8) == [])=false from rfl];simp only[Yur];cases (b::s).any Xf5
  ·simp only[Yur,Yuy,Ytz]
  ·rfl
theorem Xbr {s:List UInt8} (h:Xu s=0):s≠[]∧s.length≤4∧s.any Xf5=false:=by
 unfold Xu at h
 cases h1:s.any Xf5 with
 |true=>rw[h1] at h;cases h
 |false=>
  rw[h1] at h
  cases h2:(s == []) with
  |true=>rw[h2] at h;cases h
  |false=>
   rw[h2] at h
   cases h3:decide ((s.length:Int)>4) with
   |true=>rw[h3] at h;cases h
   |false=>exact⟨(by intro e;subst e;cases h2),(by simp at h3;omega),rfl⟩
def Xg0:List Int→List Int→Bool
 |_,[]=>false
 |a,x::l=>a.contains x || Xg0 (a++[x]) l
theorem Xaz {α:Type} (p:α→Bool) (l:List α) {o:Option (Int⊕Unit)} (h:o=some (match Yni p 0 l with | some j=>.inl (j:Int) | none=>.inr ())):(o.bind fun o=>sel o (fun b=>some b) (fun c=>some (-1))).bind (fun r=>some (decide (r≥0)))=some (l.any p):=by
 rw[h];exact Xg1 p l
theorem Xh3 (l:List Int) (v:Int) (hl:l.length≤2147483648):Xcw l v=some (l.contains v):=by
 have h:Xfk l v (l.length:Int) 0=_:=Yuf l (fun x=>v == x) (fun i hi=>by
  simp only[Xfk.B,Yva hi,Yu7 hi,Yus,toNat_cast,getD_lt _ hi,jA,Yup (by omega:i<4294967296)]) (by
  simp only[Xfk.B,Yu5 (jB _),Yur]) 0 (kE _)
 simp only[Xcw,Xg9];rw[Xaz _ _ h,List.any_beq,List.drop_zero]
theorem Xik (l:List Int) (v:Int) (hl:l.length≤2147483648):Xdr l v=some (l.contains v):=by
 have h:Xfc l v 0=_:=Yue l (fun x=>x == v) true (fun i hi=>by
  simp only[Xfc.B,Yva hi,Yu7 hi,Yus,toNat_cast,getD_lt _ hi,jA,Yup (by omega:i<4294967296)]) (by
  simp only[Xfc.B,Yu5 (jB _),Yur])
 simp only[Xdr,h,jA];rw[←List.any_beq,show(fun x:Int=>x == v)=fun x=>v == x from funext fun x=>Bool.beq_comm]
 cases l.any fun x=>v == x<;>rfl
def Xh0 (n:Int):Int:=w64 ((w64 ((w64 (n+8))-1)).tdiv 8)
def Xfv (x:Xa):Int:=cond (!inR x.2.1 1 60) 3 (cond (!inR x.2.2.1 0 32) 3 (cond ((x.2.2.2.1.length:Int) != Xh0 x.2.2.1) 1 (cond (x.2.2.2.1.any fun b=>!inR b 0 19) 3 (cond (Xg0 [] x.2.2.2.1) 7 0))))
theorem Xjg (x:Xa) (hl:x.2.2.2.1.length≤2147483648) (n:Nat) (hn:n<x.2.2.2.1.length):Xdm x (n:Int) 0=some (cond ((x.2.2.2.1.take n).contains x.2.2.2.1[n]) (.inl 7) (.inr ())):=by
 have h:Xdm x (n:Int) 0=_:=Yue (x.2.2.2.1.take n) (fun y=>y == x.2.2.2.1[n]) (7:Int) (fun i hi=>by
  have hi':i<n:=by simp at hi;omega
  simp only[Xdm.B,Yva hi',Yu7 (by omega:i<x.2.2.2.1.length),Yu7 hn,Yus,toNat_cast,getD_lt _ (by omega:i<x.2.2.2.1.length),getD_lt _ hn,jA,Yup (by omega:i<4294967296),List.getElem_take]) (by
  have:(x.2.2.2.1.take n).length=n:=by simp;omega
  rw[this]
  simp only[Xdm.B,Yu5 (jB _),Yur])
 rw[h,←List.any_beq,show(fun y:Int=>y == x.2.2.2.1[n])=fun y=>x.2.2.2.1[n] == y from funext fun y=>Bool.beq_comm]
theorem Xes (l:List Int):∀ (k n:Nat),n+k=l.length→Ybs (τ:=Unit) (fun i y _=>cond ((l.take i).contains y) (.inr (.inl 7)) (.inl ())) (fun _=>(.inr ():Int⊕Unit)) n (l.drop n) ()=cond (Xg0 (l.take n) (l.drop n)) (.inl 7) (.inr ())
 |0,n,h=>by
  have:n=l.length:=by omega
  subst this
  simp[Ybs,Xg0]
 |k+1,n,h=>by
  have hn:n<l.length:=by omega
  rw[kZ hn];simp only[Ybs,Xg0]
  have e:l.take n++[l[n]]=l.take (n+1):=by simp
  rw[e];cases (l.take n).contains l[n]
  ·simp only[Yur,Yux,Bool.false_or];exact Xes l k (n+1) (by omega)
  ·rfl
theorem Xjh (x:Xa) (hl:x.2.2.2.1.length≤2147483648):Xcb x=some (Xfv x):=by
 have h0:Xe6 x 0=_:=Yue x.2.2.2.1 (fun b=>!inR b 0 19) (3:Int) (fun i hi=>by
  simp only[Xe6.B,Yva hi,Yu7 hi,Yus,toNat_cast,getD_lt _ hi,Xf7,jA,Yup (by omega:i<4294967296)]) (by
  simp only[Xe6.B,Yu5 (jB _),Yur])
 have h1:Xd7 x 0=some (cond (Xg0 [] x.2.2.2.1) (.inl 7) (.inr ())):=by
  have:=Yii (τ:=Unit) x.2.2.2.1 (f:=fun s=>Xd7.B x s) (fun i _=>(i:Int)) (fun i y _=>cond ((x.2.2.2.1.take i).contains y) (.inr (.inl 7)) (.inl ())) (fun _=>(.inr ():Int⊕Unit)) (fun i hi t=>by
   simp only[Xd7.B,Yva hi,Yus,Xjg x hl i hi,jA,Yup (by omega:i<4294967296)]
   cases (x.2.2.2.1.take i).contains x.2.2.2.1[i]<;>rfl) (fun t=>by
   simp only[Xd7.B,Yu5 (jB _),Yur]) () (s:=0) rfl
  refine Eq.trans this ?_
  congr 1
  exact Xes x.2.2.2.1 x.2.2.2.1.length 0 (by omega)
 have h8:(!((8:Int) == 0))=true:=rfl;simp only[Xcb,Xg3,Xg4,Xf7,jA,h8,Yus,h0,h1,Xfv,Xh0,Ytz];cases inR x.2.1 1 60
 ·rfl
 ·cases inR x.2.2.1 0 32
  ·rfl
  ·simp only[jK,Yur]
   cases ((x.2.2.2.1.length:Int) != w64 ((w64 ((w64 (x.2.2.1+8))-1)).tdiv 8))
   ·simp only[Yur]
    cases x.2.2.2.1.any fun b=>!inR b 0 19
    ·simp only[Yur,Yuy]
     cases Xg0 [] x.2.2.2.1<;>rfl
    ·rfl
   ·rfl
theorem Xji (x:Xa) (hl:x.2.2.2.1.length≤2147483648):Xen x=some (Xfv x):=by
 have h0:Xgv x.2.2.2.1 ()=some (x.2.2.2.1.any fun b=>!inR b 0 19):=by
  have h:Xfi x.2.2.2.1 () (x.2.2.2.1.length:Int) 0=_:=Yuf x.2.2.2.1 (fun b=>!inR b 0 19) (fun i hi=>by
   simp only[Xfi.B,Yva hi,Yu7 hi,Yus,toNat_cast,getD_lt _ hi,Xg8,Xf8,jA,Yup (by omega:i<4294967296)]) (by
   simp only[Xfi.B,Yu5 (jB _),Yur]) 0 (kE _)
  simp only[Xgv,Xfj];exact Xaz _ _ h
 have h1:Xem x x.2.2.2.1 (x.2.2.2.1.length:Int) 0=some (cond (Xg0 [] x.2.2.2.1) (.inl 7) (.inr ())):=by
  have:=Yii (τ:=Unit) x.2.2.2.1 (f:=fun s=>Xem.B x x.2.2.2.1 (x.2.2.2.1.length:Int) s) (fun i _=>(i:Int)) (fun i y _=>cond ((x.2.2.2.1.take i).contains y) (.inr (.inl 7)) (.inl ())) (fun _=>(.inr ():Int⊕Unit)) (fun i hi t=>by
   have e1:(decide ((0:Int)≤(i:Int))&&decide ((i:Int)≤(x.2.2.2.1.length:Int)))=true:=by simp;omega
   have e2:=Xh3 (x.2.2.2.1.take i) x.2.2.2.1[i] (by simp;omega)
   simp only[Xem.B,Yva hi,Yu7 hi,Yus,toNat_cast,getD_lt _ hi,e1,List.drop_zero,e2,jA,Yup (by omega:i<4294967296)]
   cases (x.2.2.2.1.take i).contains x.2.2.2.1[i]<;>rfl) (fun t=>by
   simp only[Xem.B,Yu5 (jB _),Yur]) () (s:=0) rfl
  refine Eq.trans this ?_
  congr 1
  exact Xes x.2.2.2.1 x.2.2.2.1.length 0 (by omega)
 have h8:(!((8:Int) == 0))=true:=rfl;simp only[Xen,Xg7,Xg6,Xf8,jA,h8,Yus,h0,h1,Xfv,Xh0,Ytz];cases inR x.2.1 1 60
 ·rfl
 ·cases inR x.2.2.1 0 32
  ·rfl
  ·simp only[jK,Yur]
   cases ((x.2.2.2.1.length:Int) != w64 ((w64 ((w64 (x.2.2.1+8))-1)).tdiv 8))
   ·simp only[Yur]
    cases x.2.2.2.1.any fun b=>!inR b 0 19
    ·simp only[Yur]
     cases Xg0 [] x.2.2.2.1<;>rfl
    ·rfl
   ·rfl
def Xcy (prev:Option (List UInt8)) (e:Xf):Int:=
 cond (Xu e.1 != 0) (Xu e.1) (cond (!inR e.2.1 0 9) 3 (match prev with | none=>0 | some p=>cond (leB p e.1) 0 1))
def Xbp:Option (List UInt8)→List Xf→Int
 |_,[]=>0
 |p,e::l=>cond (Xcy p e != 0) (Xcy p e) (Xbp (some e.1) l)
def Xgz (x:Xa):Int:=cond (decide ((x.2.2.2.2.1.length:Int)>6)) 2 (Xbp none x.2.2.2.2.1)
theorem Xht:∀ (a b:List UInt8),(leB a b || a == b) = !leB b a
 |[],[]=>rfl
 |[],_::_=>rfl
 |_::_,[]=>by simp[leB]
 |x::a,y::b=>by
  have ih:=Xht a b;simp only[leB]
  by_cases e:x=y
  ·subst e
   have h:¬ x<x:=UInt8.lt_irrefl x;simp only[h,decide_false,Bool.false_or,beq_self_eq_true,Bool.true_and]
   rw[←ih,show(x::a == x::b)=(a == b) by simp]
  ·have e':¬ y=x:=fun h=>e h.symm
   rw[show(x == y)=false by simp[e],show(y == x)=false by simp[e'],show(x::a == y::b)=false by simp[e]]
   simp only[Bool.false_and,Bool.or_false]
   by_cases h1:x<y
   ·have:¬ y<x:=fun h=>absurd (UInt8.lt_trans h1 h) (UInt8.lt_irrefl x)
    simp[h1,this]
   ·have:y<x:=by
     rw[UInt8.lt_iff_toNat_lt] at *;have:x.toNat≠y.toNat:=fun h=>e (UInt8.toNat_inj.1 h);omega
    simp[h1,this]
def Xbs (l:List Xf):Nat→Option (List UInt8)
 |0=>none
 |j+1=>(l[j]?).map (·.1)
theorem Xet (l:List Xf):∀ (k n:Nat),n+k=l.length→Ybs (τ:=Unit) (fun i e _=>cond (Xcy (Xbs l i) e != 0) (.inr (.inl (Xcy (Xbs l i) e))) (.inl ())) (fun _=>(.inr ():Int⊕Unit)) n (l.drop n) () =
  cond (Xbp (Xbs l n) (l.drop n) != 0) (.inl (Xbp (Xbs l n) (l.drop n))) (.inr ())
 |0,n,h=>by
  have:n=l.length:=by omega
  subst this
  simp[Ybs,Xbp]
 |k+1,n,h=>by
  have hn:n<l.length:=by omega
  have hp:Xbs l (n+1)=some l[n].1:=by simp[Xbs,hn]
  have ih:=Xet l k (n+1) (by omega)
  rw[hp] at ih;rw[kZ hn];simp only[Ybs,Xbp];generalize Xbs l n=p;cases hc:(Xcy p l[n] != 0)
  ·simp only[Yur,Yux];exact ih
  ·simp only[Yus,Yuy,hc]
theorem Xjj (x:Xa) (hb:Bd Xb x):Xd9 x=some (Xgz x):=by
 simp only[Xd9,Xgz]
 cases hd:decide ((x.2.2.2.2.1.length:Int)>6) with
 |true=>rfl
 |false=>
  have hl:x.2.2.2.2.1.length≤6:=by simp at hd;omega
  have h:Xd8 x 0=some (cond (Xbp none x.2.2.2.2.1 != 0) (.inl (Xbp none x.2.2.2.2.1)) (.inr ())):=by
   have:=Yii (τ:=Unit) x.2.2.2.2.1 (f:=fun s=>Xd8.B x s) (fun i _=>(i:Int)) (fun i e _=>cond (Xcy (Xbs x.2.2.2.2.1 i) e != 0) (.inr (.inl (Xcy (Xbs x.2.2.2.2.1 i) e))) (.inl ())) (fun _=>(.inr ():Int⊕Unit)) (fun i hi t=>by
    have hn:(x.2.2.2.2.1[i]).1.length≤2147483648:=(hb.2.2.2.2.1.2 _ (jE hi)).1
    simp only[Xd8.B,Yva hi,Yu7 hi,Yus,toNat_cast,getD_lt _ hi,Xf7,Xjf _ hn,jA,Yup (by omega:i<4294967296)]
    simp only[Xcy];cases hc:(Xu (x.2.2.2.2.1[i]).1 != 0)
    ·simp only[Yur]
     cases inR (x.2.2.2.2.1[i]).2.1 0 9
     ·rfl
     ·simp only[jK,Yur]
      cases i with
      |zero=>rfl
      |succ j=>
       have hj:j<x.2.2.2.2.1.length:=by omega
       have hw:w64 (((j+1:Nat):Int)-1)=(j:Int):=by rw[Ytt (by omega) (by omega)];omega
       rw[show decide (((j+1:Nat):Int)>0)=true by simp]
       simp only[Yus,hw,Yu7 hj,toNat_cast,getD_lt _ hj,Xbs,kV hj,jT,Xht]
       cases leB (x.2.2.2.2.1[j]).1 (x.2.2.2.2.1[j+1]).1<;>rfl
    ·simp only[Yus,hc];rfl) (fun t=>by
    simp only[Xd8.B,Yu5 (jB _),Yur]) () (s:=0) rfl
   refine Eq.trans this ?_
   congr 1
   exact Xet x.2.2.2.2.1 x.2.2.2.2.1.length 0 (by omega)
  rw[h,Yur,Yur,Xck,Xbv]
theorem Xjk (x:Xa) (hb:Bd Xb x):Xep x=some (Xgz x):=by
 simp only[Xep,Xgz]
 cases hd:decide ((x.2.2.2.2.1.length:Int)>6) with
 |true=>rfl
 |false=>
  have hl:x.2.2.2.2.1.length≤6:=by simp at hd;omega
  have h:Xeo x x.2.2.2.2.1 (x.2.2.2.2.1.length:Int) 0=some (cond (Xbp none x.2.2.2.2.1 != 0) (.inl (Xbp none x.2.2.2.2.1)) (.inr ())):=by
   have:=Yii (τ:=Unit) x.2.2.2.2.1 (f:=fun s=>Xeo.B x x.2.2.2.2.1 (x.2.2.2.2.1.length:Int) s) (fun i _=>(i:Int)) (fun i e _=>cond (Xcy (Xbs x.2.2.2.2.1 i) e != 0) (.inr (.inl (Xcy (Xbs x.2.2.2.2.1 i) e))) (.inl ())) (fun _=>(.inr ():Int⊕Unit)) (fun i hi t=>by
    have hn:(x.2.2.2.2.1[i]).1.length≤2147483648:=(hb.2.2.2.2.1.2 _ (jE hi)).1
    simp only[Xeo.B,Yva hi,Yu7 hi,Yus,toNat_cast,getD_lt _ hi,Xf8,Xij _ hn,jA,Yup (by omega:i<4294967296)]
    simp only[Xcy];cases hc:(Xu (x.2.2.2.2.1[i]).1 != 0)
    ·simp only[Yur]
     cases inR (x.2.2.2.2.1[i]).2.1 0 9
     ·rfl
     ·simp only[jK,Yur]
      cases i with
      |zero=>rfl
      |succ j=>
       have hj:j<x.2.2.2.2.1.length:=by omega
       have hw:w64 (((j+1:Nat):Int)-1)=(j:Int):=by rw[Ytt (by omega) (by omega)];omega
       rw[show decide (((j+1:Nat):Int)>0)=true by simp]
       simp only[Yus,hw,Yu7 hj,toNat_cast,getD_lt _ hj,Xbs,kV hj,jT]
       cases leB (x.2.2.2.2.1[j]).1 (x.2.2.2.2.1[j+1]).1<;>rfl
    ·simp only[Yus,hc];rfl) (fun t=>by
    simp only[Xeo.B,Yu5 (jB _),Yur]) () (s:=0) rfl
   refine Eq.trans this ?_
   congr 1
   exact Xet x.2.2.2.2.1 x.2.2.2.2.1.length 0 (by omega)
  rw[h,Yur,Yur,Xck,Xbv]
def Xal (x:Xa):Int:=
 cond (!inR x.1 0 2) 1 (cond (cond (cond (x.1 != 1) (cond (cond (x.2.1 != 0) true (x.2.2.1 != 0)) true (decide ((x.2.2.2.1.length:Int)>0))) false) true (cond (x.1 != 2) (decide ((x.2.2.2.2.1.length:Int)>0)) false)) 1
  (cond (x.1 == 1) (Xfv x) (cond (x.1 == 2) (Xgz x) 0)))
theorem Xjl (x:Xa) (hb:Bd Xb x):Xgo x=some (Xal x):=by
 simp only[Xgo,Xal,Xf7,Xjh x hb.2.2.2.1.1,Xjj x hb,jA];simp only[Ytz]
theorem Xhu (n:Nat):decide ((n:Int)>0) = !((n:Int) == 0):=by
 rw[Bool.eq_iff_iff];simp only[jI,Bool.not_eq_true',beq_eq_false_iff_ne,ne_eq];omega
theorem not_bne (a b:Int):(a == b) = !(a != b):=(Bool.not_not _).symm
theorem Xjm (x:Xa) (hb:Bd Xb x):Xgw x=some (Xal x):=by
 simp only[Xgw,Xal,Xf8,Xji x hb.2.2.2.1.1,Xjk x hb,jA];cases inR x.1 0 2
 ·rfl
 ·simp only[jK,Yur]
  have e1:(cond (cond (x.2.1 == 0) (x.2.2.1 == 0) false) ((x.2.2.2.1.length:Int) == 0) false) = !(cond (cond (x.2.1 != 0) true (x.2.2.1 != 0)) true (decide ((x.2.2.2.1.length:Int)>0))):=by
   rw[show(x.2.1 != 0) = !(x.2.1 == 0) from rfl,show(x.2.2.1 != 0) = !(x.2.2.1 == 0) from rfl,Xhu]
   cases (x.2.1 == 0)<;>cases (x.2.2.1 == 0)<;>cases ((x.2.2.2.1.length:Int) == 0)<;>rfl
  have e2:(!((x.2.2.2.2.1.length:Int) == 0))=decide ((x.2.2.2.2.1.length:Int)>0):=(Xhu _).symm;rw[e1,e2,Bool.not_not]
  cases (cond (cond (x.2.1 != 0) true (x.2.2.1 != 0)) true (decide ((x.2.2.2.1.length:Int)>0)))<;>cases h1:(x.1 != 1)<;>cases h2:(x.1 != 2)<;>cases hd:decide ((x.2.2.2.2.1.length:Int)>0)<;>simp only[Yus,Yur]
  all_goals (rw[not_bne x.1 1,not_bne x.1 2,h1,h2])
  all_goals simp only[jK,kQ,Yus,Yur]
  all_goals first | rfl | skip
  all_goals (
   have hz:x.2.2.2.2.1=[]:=by simp at hd;exact hd
   have:Xgz x=0:=by simp[Xgz,hz,Xbp]
   rw[this])
def Xx (l:List Xa):Int:=cond (decide ((l.length:Int)>10)) 2 (Yf8 Xal l)
theorem Xjn (l:List Xa) (hb:Bd (.sl Xb) l):Xea l=some (Xx l):=by
 simp only[Xea,Xx]
 cases hd:decide ((l.length:Int)>10) with
 |true=>rfl
 |false=>
  have hl:l.length≤10:=by simp at hd;omega
  have h:Xe8 l 0=_:=Yth l Xal (fun i hi=>by
   simp only[Xe8.B,Yva hi,Yu7 hi,Yus,toNat_cast,getD_lt _ hi,Xjl _ (hb.2 _ (jE hi)),jA,Yup (by omega:i<4294967296)]) (by
   simp only[Xe8.B,Yu5 (jB _),Yur])
  rw[h,Yur,Yur,Xck,Xbv]
theorem Xjo (l:List Xa) (hb:Bd (.sl Xb) l):Xeq l=some (Xx l):=by
 simp only[Xeq,Xx]
 cases hd:decide ((l.length:Int)>10) with
 |true=>rfl
 |false=>
  have hl:l.length≤10:=by simp at hd;omega
  have h:Xfn l (l.length:Int) 0=_:=Yth l Xal (fun i hi=>by
   simp only[Xfn.B,Yva hi,Yu7 hi,Yus,toNat_cast,getD_lt _ hi,Xjm _ (hb.2 _ (jE hi)),jA,Yup (by omega:i<4294967296)]) (by
   simp only[Xfn.B,Yu5 (jB _),Yur])
  rw[h,Yur,Yur,Xck,Xbv]
def X6 (l:List Xa):List Int:=l.flatMap fun x=>x.2.2.2.1
theorem Xe4 {x:Xa} (h:Xal x=0):x.2.2.2.1.length≤4∧(∀ b∈x.2.2.2.1,0≤b∧b≤19)∧(x.1≠1→x.2.2.2.1=[])∧(x.1=1→Xfv x=0):=by
 unfold Xal at h
 cases h1:inR x.1 0 2 with
 |false=>rw[h1] at h;cases h
 |true=>
  rw[h1] at h;simp only[jK,Yur] at h
  by_cases e:x.1=1
  ·rw[show(x.1 != 1)=false by simp[e]] at h
   cases h2:cond (cond false (cond (cond (x.2.1 != 0) true (x.2.2.1 != 0)) true (decide ((x.2.2.2.1.length:Int)>0))) false) true (cond (x.1 != 2) (decide ((x.2.2.2.2.1.length:Int)>0)) false) with
   |true=>rw[h2] at h;cases h
   |false=>
    rw[h2,show(x.1 == 1)=true by simp[e]] at h
    simp only[Yur,Yus] at h;have hf:=h;unfold Xfv at h
    cases h3:inR x.2.1 1 60 with
    |false=>rw[h3] at h;cases h
    |true=>
     rw[h3] at h
     cases h4:inR x.2.2.1 0 32 with
     |false=>rw[h4] at h;cases h
     |true=>
      rw[h4] at h;simp only[jK,Yur] at h
      cases h5:((x.2.2.2.1.length:Int) != Xh0 x.2.2.1) with
      |true=>rw[h5] at h;cases h
      |false=>
       rw[h5] at h;simp only[Yur] at h
       cases h6:(x.2.2.2.1.any fun b=>!inR b 0 19) with
       |true=>rw[h6] at h;cases h
       |false=>
        refine⟨?_,fun b hb=>?_,fun h=>absurd e h,fun _=>hf⟩
        ·have hs:=Xfo.1 h4
         have:(x.2.2.2.1.length:Int)=Xh0 x.2.2.1:=by simpa using h5
         unfold Xh0 at this
         rw[Ytt (x:=x.2.2.1+8) (by omega) (by omega),Ytt (x:=x.2.2.1+8-1) (by omega) (by omega),Int.tdiv_eq_ediv_of_nonneg (by omega),Ytt (by omega) (by omega)] at this
         omega
        ·have:=List.any_eq_false.1 h6 b hb
         exact Xfo.1 (by simpa using this)
  ·rw[show(x.1 != 1)=true by simp[e]] at h
   cases h2:decide ((x.2.2.2.1.length:Int)>0) with
   |true=>
    rw[h2] at h;simp only[Yus,Ytx] at h
    cases h
   |false=>
    have hz:x.2.2.2.1=[]:=by simp at h2;exact h2
    exact⟨by simp[hz],by simp[hz],fun _=>hz,fun h=>absurd h e⟩
theorem Xe3 {α:Type} {c:α→Int}:∀ {l:List α},Yf8 c l=0↔∀ x∈l,c x=0
 |[]=>by simp[Yf8]
 |x::l=>by
  simp only[Yf8,List.mem_cons,forall_eq_or_imp];cases h:(c x != 0)
  ·have:c x=0:=by simpa using h
   simp only[Yur,this,true_and];exact Xe3
  ·have:c x≠0:=by simpa using h
   simp only[Yus];exact⟨fun e=>absurd e this,fun e=>absurd e.1 this⟩
theorem X0 {l:List Xa} (h:Xx l=0):l.length≤10∧∀ x∈l,Xal x=0:=by
 unfold Xx at h
 cases h1:decide ((l.length:Int)>10) with
 |true=>rw[h1] at h;cases h
 |false=>rw[h1] at h;exact⟨by simp at h1;omega,Xe3.1 h⟩
structure Xb7 (l:List Xa):Prop where
 len:l.length≤10
 blk:∀ x∈l,x.2.2.2.1.length≤4∧∀ b∈x.2.2.2.1,0≤b∧b≤19
theorem Xb7.of {l:List Xa} (h:Xx l=0):Xb7 l:=
 ⟨(X0 h).1,fun x hx=>⟨(Xe4 ((X0 h).2 x hx)).1,(Xe4 ((X0 h).2 x hx)).2.1⟩⟩
theorem Xhb:∀ {l:List Xa},(∀ x∈l,x.2.2.2.1.length≤4)→(X6 l).length≤4*l.length
 |[],h=>by simp[X6]
 |x::l,h=>by
  have h1:=h x (jF ..);have:=Xhb (l:=l) fun y hy=>h y (jG _ hy);simp only[X6,List.flatMap_cons,jP,jH] at *;omega
theorem Xb7.all {l:List Xa} (h:Xb7 l):(X6 l).length≤40∧∀ b∈X6 l,0≤b∧b≤19:=by
 refine⟨by have:=Xhb (l:=l) fun x hx=>(h.blk x hx).1;have:=h.len;omega,fun b hb=>?_⟩
 obtain⟨x,hx,hb⟩:=List.mem_flatMap.1 hb;exact(h.blk x hx).2 b hb
theorem Xjp (l:List Xa) (at_:Int) (i:Nat) (hi:i<l.length) (n:Nat) (hb:l[i].2.2.2.1.length≤4) (hn:n≤1000):Xdn l at_ (i:Int) ((n:Int),0)=some (((n+l[i].2.2.2.1.count at_:Nat):Int)):=by
 have h:=Yl9 (τ:=Nat) l[i].2.2.2.1 (f:=fun s=>Xdn.B l at_ (i:Int) s.1 s.2) (fun k m=>((m:Int),(k:Int))) (fun _ y m=>.inl (m+(if y == at_ then 1 else 0))) (fun m=>((m:Nat):Int)) (fun k m=>m≤n+k)
  (fun k hk m hm=>by
   simp only[Xdn.B,Yu7 hi,Yus,toNat_cast,getD_lt _ hi,jA,Yva hk,Yu7 hk,getD_lt _ hk,Yup (by omega:k<4294967296),Yup (by omega:m<4294967296),sel]
   cases h:(l[i].2.2.2.1[k] == at_)<;>simp[h])
  (fun k hk m m' hm e=>by cases e;split<;>omega)
  (fun m hm=>by
   simp only[Xdn.B,Yu7 hi,Yus,toNat_cast,getD_lt _ hi,jA,Yu5 (jB _),Yur]) n (by omega) (s:=((n:Int),0)) rfl
 refine Eq.trans h ?_;rw[Yh5]
 congr 2
 have:∀ (l:List Int) (m:Nat),l.foldl (fun t y=>t+(if y == at_ then 1 else 0)) m=m+l.count at_:=by
  intro l
  induction l with
  |nil=>intro m;simp
  |cons y l ih=>intro m;rw[kI,ih,List.count_cons];omega
 exact this _ _
theorem Xjq (l:List Xa) (hok:Xb7 l) (at_:Int):Xgp l at_=some ((((X6 l).count at_:Nat):Int)):=by
 have h:=Yl9 (τ:=Nat) l (f:=fun s=>Xeb.B l at_ s.1 s.2) (fun k m=>((m:Int),(k:Int))) (fun _ x m=>.inl (m+x.2.2.2.1.count at_)) (fun m=>((m:Nat):Int)) (fun k m=>m≤4*k)
  (fun k hk m hm=>by
   have hl:=hok.len
   simp only[Xeb.B,Yva hk,Yus,Xjp l at_ k hk m (hok.blk _ (jE hk)).1 (by omega),jA,Yup (by omega:k<4294967296),sel])
  (fun k hk m m' hm e=>by cases e;have:=(hok.blk _ (jE hk)).1;have:=List.count_le_length (a:=at_) (l:=l[k].2.2.2.1);omega)
  (fun m hm=>by simp only[Xeb.B,Yu5 (jB _),Yur]) 0 (by omega) (s:=(0,0)) rfl
 have h':Xeb l at_ (0,0)=_:=h;simp only[Xgp,h',jA];rw[Yh5]
 have:∀ (l:List Xa) (m:Nat),l.foldl (fun t x=>t+x.2.2.2.1.count at_) m=m+(X6 l).count at_:=by
  intro l
  induction l with
  |nil=>intro m;simp[X6]
  |cons y l ih=>intro m;rw[kI,ih];simp only[X6,List.flatMap_cons,List.count_append];omega
 rw[this,jJ]
def r20:List Int:=(List.range 20).map Int.ofNat
theorem Xhv:r20.length=20:=by simp[r20]
theorem Xig (k:Nat) (h:k<r20.length):r20[k]=(k:Int):=by simp[r20]
theorem Xih (a:Int):a∈r20↔0≤a∧a≤19:=by
 simp only[r20,kS,List.mem_range]
 constructor
 ·rintro⟨k,h1,rfl⟩;simp;omega
 ·intro h;exact⟨a.toNat,by omega,by simp;omega⟩
def Xku (l:List Xa):List Int:=r20.filter fun b=>(X6 l).contains b
def Xdw (l:List Xa):Bool:=decide (X6 l).Nodup
theorem Xjr (l:List Xa) (hok:Xb7 l):Xec l=some (Xku l,Xdw l):=by
 have h:=Yl9 (τ:=Bool×List Int) r20 (f:=fun s=>Xe9.B l s.1 s.2.1 s.2.2) (fun k t=>(t.1,((k:Int),t.2))) (fun _ b t=>.inl (t.1&&decide ((X6 l).count b≤1),cond ((X6 l).contains b) (t.2++[b]) t.2)) (fun t=>t) (fun k t=>t.2.length≤k)
  (fun k hk t ht=>by
   have hk':k<20:=by rw[Xhv] at hk;exact hk
   rw[Xig k hk]
   have h20:decide ((k:Int)<20)=true:=by simp;omega
   simp only[Xe9.B,h20,Yus,Xjq l hok,jA,Yup (by omega:k<4294967296),sel]
   have e1:decide ((((X6 l).count (k:Int):Nat):Int)>0)=(X6 l).contains (k:Int):=by
    rw[Bool.eq_iff_iff];simp only[jI,List.contains_iff_mem,←List.count_pos_iff];omega
   have e2:cond t.1 (decide ((((X6 l).count (k:Int):Nat):Int)≤1)) false=(t.1&&decide ((X6 l).count (k:Int)≤1)):=by
    cases t.1
    ·rfl
    ·simp only[Yus,Bool.true_and];rw[Bool.eq_iff_iff];simp;omega
   rw[e1,e2,Xhz (by simp;omega)]
   cases (X6 l).contains (k:Int)<;>rfl)
  (fun k hk t t' ht e=>by cases e;simp only;cases (X6 l).contains _<;>simp<;>omega)
  (fun t ht=>by
   rw[Xhv];rfl) (true,[]) (by simp) (s:=(true,0,[])) rfl
 have h':Xe9 l (true,0,[])=_:=h;simp only[Xec,h',jA];rw[Yh5]
 have hf:∀ (m:List Int) (t:Bool×List Int),m.foldl (fun t b=>(t.1&&decide ((X6 l).count b≤1),cond ((X6 l).contains b) (t.2++[b]) t.2)) t=(t.1&&m.all fun b=>decide ((X6 l).count b≤1),t.2++m.filter fun b=>(X6 l).contains b):=by
  intro m
  induction m with
  |nil=>intro t;simp
  |cons b m ih=>
   intro t;rw[kI,ih,List.all_cons,List.filter_cons]
   cases (X6 l).contains b<;>simp[Bool.and_assoc]
 rw[hf];simp only[Bool.true_and,jO]
 congr 2
 rw[Bool.eq_iff_iff];simp only[Xdw,List.all_eq_true,jI,List.nodup_iff_count]
 constructor
 ·intro h a
  by_cases ha:a∈X6 l
  ·have:=hok.all.2 a ha
   exact h a ((Xih a).2 this)
  ·rw[List.count_eq_zero.2 ha];omega
 ·intro h a _;exact h a
theorem Xfu (s0:List Int) (k0:Nat) (h0:0<k0) (h1:k0<s0.length) (hl:s0.length≤2147483648):∀ (m j k:Nat) (s:List Int),j+m=s0.length-k0→0<j→s.length=s0.length→k<k0+j→∃ (k':Nat) (s':List Int),Xam k0 (s0.length-k0) ((k:Int),(j:Int),s)=some ((k':Int),s')∧s'.length=s0.length∧k'<s0.length
 |0,j,k,s,hj,h2,h3,h4=>by
  refine⟨k,s,Ya2 ?_,h3,by omega⟩
  simp only[Xam.B,show decide ((j:Int)<((s0.length-k0:Nat):Int))=false by simp;omega,Yur]
 |m+1,j,k,s,hj,h2,h3,h4=>by
  have hw:w64 ((j:Int)-1)=((j-1:Nat):Int):=by rw[Ytt (by omega) (by omega)];omega
  have hst:∃ k' s',Xam.B k0 (s0.length-k0) (k:Int) (j:Int) s=some (.inl ((k':Nat),((j+1:Nat):Int),s'))∧s'.length=s0.length∧k'<k0+(j+1):=by
   simp only[Xam.B,show decide ((j:Int)<((s0.length-k0:Nat):Int))=true by simp;omega,Yu7 (by omega:j<s0.length-k0),hw,Yu7 (by omega:j-1<s0.length-k0),Yu7 (by omega:k<s.length),Yus,jA,toNat_cast,Yup (by omega:j<4294967296),Yup (by omega:k<4294967296)]
   cases (s.getD (k0+j) 0 != s.getD (k0+(j-1)) 0)
   ·exact⟨k,s,rfl,h3,by omega⟩
   ·exact⟨k+1,_,rfl,by simpa using h3,by omega⟩
  obtain⟨k1,s1,e1,e2,e3⟩:=hst
  obtain⟨k',s',q1,q2,q3⟩:=Xfu s0 k0 h0 h1 hl m (j+1) k1 s1 (by omega) (by omega) e2 (by omega)
  refine⟨k',s',?_,q2,q3⟩;unfold Xam;rw[Ych (s':=((k1:Int),((j+1:Nat):Int),s1)) e1];exact q1
theorem Xft (s:List Int) (hl:s.length≤2147483648):∀ (m n:Nat),n+m=s.length→0<n→
  (X9 s (n:Int)=some (.inr ())∧∀ i,n≤i→(h:i<s.length)→s[i]≠s[i-1])∨(∃ (k:Nat) (s':List Int),X9 s (n:Int)=some (.inl (0,k-0,s'))∧s'.length=s.length∧k<s.length∧∃ i,n≤i∧∃ h:i<s.length,s[i]=s[i-1])
 |0,n,hn,h0=>by
  have:n=s.length:=by omega
  subst this
  refine .inl ⟨Ya2 ?_,fun i h1 h2=>by omega⟩
  simp only[X9.B,Yu5 (jB _),Yur]
 |m+1,n,hn,h0=>by
  have hlt:n<s.length:=by omega
  have hw:w64 ((n:Int)-1)=((n-1:Nat):Int):=by rw[Ytt (by omega) (by omega)];omega
  by_cases he:s[n]=s[n-1]
  ·refine .inr ?_
   obtain⟨k',s',q1,q2,q3⟩:=Xfu s n h0 hlt hl (s.length-n-1) 1 n s (by omega) (by omega) rfl (by omega)
   refine⟨k',splice s' k' (List.replicate (s'.length-k') 0),Ya2 ?_,by simp[splice];omega,q3,n,jB _,hlt,he⟩
   have q1':Xam n (s.length-n) ((n:Int),1,s)=some ((k':Int),s'):=q1
   simp only[X9.B,Yva hlt,Yu7 hlt,hw,Yu7 (by omega:n-1<s.length),Yus,jA,toNat_cast,getD_lt _ hlt,getD_lt _ (by omega:n-1<s.length),he,beq_self_eq_true,q1']
   rw[show(decide ((0:Int)≤(n:Int))&&decide ((n:Int)≤(s.length:Int)))=true by simp;omega,show(decide ((0:Int)≤(k':Int))&&decide ((k':Int)≤(s'.length:Int)))=true by simp;omega,
    show(decide ((0:Int)≤(k':Int))&&decide ((k':Int)≤((splice s' k' (List.replicate (s'.length-k') 0)).length:Int)))=true by simp[splice];omega]
   rfl
  ·have hst:X9.B s (n:Int)=some (.inl ((n+1:Nat):Int)):=by
    simp only[X9.B,Yva hlt,Yu7 hlt,hw,Yu7 (by omega:n-1<s.length),Yus,jA,toNat_cast,getD_lt _ hlt,getD_lt _ (by omega:n-1<s.length),Yup (by omega:n<4294967296)]
    rw[show(s[n] == s[n-1])=false by simp[he]]
    rfl
   unfold X9;rw[Ych (f:=fun s_1=>X9.B s s_1) hst]
   rcases Xft s hl m (n+1) (by omega) (by omega) with ⟨q1,q2⟩ | ⟨k,s',q1,q2,q3,i,q4,q5,q6⟩
   ·refine .inl ⟨q1,fun i h1 h2=>?_⟩
    by_cases e:i=n
    ·subst e;exact he
    ·exact q2 i (by omega) h2
   ·exact .inr ⟨k,s',q1,q2,q3,i,by omega,q5,q6⟩
theorem Xhp (s:List Int) (hl:s.length≤2147483648) (hs:s.Pairwise fun a b=>a≤b):∃ r,Xc4 s=some r∧((r.length:Int) == (s.length:Int))=decide s.Nodup:=by
 simp only[Xc4]
 by_cases h2:s.length<2
 ·rw[show decide ((s.length:Int)<2)=true by simp;omega]
  refine⟨s,rfl,?_⟩
  have:s.Nodup:=by
   match s,h2 with
   |[],_=>simp
   |[x],_=>simp
  simp[this]
 ·rw[show decide ((s.length:Int)<2)=false by simp;omega]
  simp only[Yur]
  have hle:∀ i j,(hij:i≤j)→(hj:j<s.length)→s[i]≤s[j]:=by
   intro i j hij hj;rcases Nat.lt_or_eq_of_le hij with h | h
   ·exact List.pairwise_iff_getElem.1 hs i j _ hj h
   ·subst h;exact Int.le_refl _
  rcases Xft s hl (s.length-1) 1 (by omega) (by omega) with ⟨q1,q2⟩ | ⟨k,s',q1,q2,q3,i,q4,q5,q6⟩
  ·have q1':X9 s 1=some (.inr ()):=q1
   rw[q1'];refine⟨s,rfl,?_⟩
   have:s.Nodup:=by
    rw[List.Nodup,List.pairwise_iff_getElem];intro i j hi hj hij he
    have h1:=hle i (j-1) (by omega) (by omega)
    have h2:=hle (j-1) j (by omega) hj
    exact q2 j (by omega) hj (by omega)
   simp[this]
  ·have q1':X9 s 1=some (.inl (0,k-0,s')):=q1
   rw[q1'];refine⟨_,rfl,?_⟩
   have:¬ s.Nodup:=by
    intro hn
    exact List.pairwise_iff_getElem.1 hn (i-1) i (by omega) q5 (by omega) q6.symm
   simp only[this,decide_false]
   have hlen:((List.drop 0 s').take (k-0)).length=k:=by simp;omega
   rw[hlen];simp;omega
def Xdy (l:List Int):List Int:=l.mergeSort fun x y=>decide (x≤y)
theorem Xg2 (l:List Int):(Xdy l).Pairwise fun a b=>a≤b:=by
 have:=List.pairwise_mergeSort (le:=fun x y:Int=>decide (x≤y)) (fun a b c h1 h2=>by simp at *;omega) (fun a b=>by simp;omega) l
 simpa [Xdy] using this
theorem Xf2 (l:List Int):(Xdy l).Perm l:=List.mergeSort_perm _ _
theorem Xgd (l:List Int):(Xdy l).length=l.length:=(Xf2 l).length_eq
theorem Xid {l:List Int} (h:l.length≤2147483648):Ys1 l=some (Xdy l):=by
 unfold Ys1 Xdy;rw[Xhz h];rfl
theorem Xjs (l:List Xa) (hok:Xb7 l):Xa3 l=some (Xdy (X6 l),Xdw l):=by
 have hall:=hok.all
 have h:Xa2 l (l.length:Int) (0,[])=some (l.foldl (fun t x=>t++x.2.2.2.1) []):=
  Yno l (f:=fun s=>Xa2.B l (l.length:Int) s.1 s.2) (fun t x=>t++x.2.2.2.1) id (fun i t=>t.length≤4*i) (fun i hi t ht=>by
   have h4:=(hok.blk _ (jE hi)).1;have hl:=hok.len
   refine⟨?_,by simp;omega⟩
   simp only[Xa2.B,Yva hi,Yu7 hi,Yus,toNat_cast,getD_lt _ hi,jA,Yup (by omega:i<4294967296)]
   rw[Xhz (by simp;omega)];rfl) (fun t ht=>by
   simp only[Xa2.B,Yu5 (jB _),Yur,id]) [] (by simp)
 have h2:∀ (l:List Xa) (t:List Int),l.foldl (fun t x=>t++x.2.2.2.1) t=t++X6 l:=by
  intro l
  induction l with
  |nil=>intro t;simp[X6]
  |cons x l ih=>intro t;rw[kI,ih];simp[X6]
 rw[h2,jO] at h
 obtain⟨r,hr1,hr2⟩:=Xhp (Xdy (X6 l)) (by rw[Xgd];omega) (Xg2 _)
 simp only[Xa3,h,jA,Xey,Xid (by omega:(X6 l).length≤2147483648),Xez,Xhx (by rw[Xgd];omega:(Xdy (X6 l)).length≤2147483648),hr1,hr2]
 congr 2
 rw[Bool.eq_iff_iff];simp only[Xdw,jI];exact(Xf2 _).nodup_iff
theorem Xhf:∀ {p:Option (List UInt8)} {l:List Xf},Xbp p l=0→∀ e∈l,Xu e.1=0∧0≤e.2.1∧e.2.1≤9
 |p,[],h,e,he=>by cases he
 |p,x::l,h,e,he=>by
  simp only[Xbp] at h
  cases hc:(Xcy p x != 0) with
  |true=>
   rw[hc] at h
   have:Xcy p x≠0:=by simpa using hc
   exact absurd h this
  |false=>
   rw[hc] at h;rcases List.mem_cons.1 he with rfl | he
   ·have h0:Xcy p e=0:=by simpa using hc
    unfold Xcy at h0
    cases h1:(Xu e.1 != 0) with
    |true=>rw[h1] at h0;exact absurd h0 (by simpa using h1)
    |false=>
     rw[h1] at h0
     cases h2:inR e.2.1 0 9 with
     |false=>rw[h2] at h0;cases h0
     |true=>exact⟨by simpa using h1,Xfo.1 h2⟩
   ·exact Xhf h e he
theorem Xac {x:Xa} (h:Xal x=0):(0≤x.1∧x.1≤2)∧x.2.2.2.2.1.length≤6∧(x.1≠2→x.2.2.2.2.1=[])∧(x.1=2→Xgz x=0)∧(x.1≠1→x.2.1=0∧x.2.2.1=0)∧∀ e∈x.2.2.2.2.1,Xu e.1=0∧0≤e.2.1∧e.2.1≤9:=by
 unfold Xal at h
 cases h1:inR x.1 0 2 with
 |false=>rw[h1] at h;cases h
 |true=>
  rw[h1] at h;simp only[jK,Yur] at h;have hk:=Xfo.1 h1
  have hz:x.1≠1→x.2.1=0∧x.2.2.1=0:=by
   intro e
   rw[show(x.1 != 1)=true by simp[e]] at h
   cases h2:(x.2.1 != 0) with
   |true=>rw[h2] at h;cases h
   |false=>
    cases h3:(x.2.2.1 != 0) with
    |true=>rw[h2,h3] at h;cases h
    |false=>exact⟨by simpa using h2,by simpa using h3⟩
  cases h2:cond (cond (x.1 != 1) (cond (cond (x.2.1 != 0) true (x.2.2.1 != 0)) true (decide ((x.2.2.2.1.length:Int)>0))) false) true (cond (x.1 != 2) (decide ((x.2.2.2.2.1.length:Int)>0)) false) with
  |true=>rw[h2] at h;cases h
  |false=>
   rw[h2] at h
   by_cases e:x.1=2
   ·rw[show(x.1 == 1)=false by simp[e],show(x.1 == 2)=true by simp[e]] at h
    simp only[Yur,Yus] at h;have hd:=h;unfold Xgz at h
    cases h3:decide ((x.2.2.2.2.1.length:Int)>6) with
    |true=>rw[h3] at h;cases h
    |false=>
     rw[h3] at h
     exact⟨hk,by simp at h3;omega,fun hh=>absurd e hh,fun _=>hd,hz,Xhf h⟩
   ·rw[show(x.1 != 2)=true by simp[e]] at h2
    have:x.2.2.2.2.1=[]:=by
     cases h3:decide ((x.2.2.2.2.1.length:Int)>0) with
     |true=>
      rw[h3] at h2;exfalso
      revert h2
      generalize cond (x.1 != 1) (cond (cond (x.2.1 != 0) true (x.2.2.1 != 0)) true (decide ((x.2.2.2.1.length:Int)>0))) false=b
      cases b<;>intro h2<;>cases h2
     |false=>simp at h3;exact h3
    exact⟨hk,by simp[this],fun _=>this,fun hh=>absurd hh e,hz,by simp[this]⟩
def X4 (l:List Xa) (e:Xf):Bool:=cond (decide (e.2.1≥(l.length:Int))) true ((l.getD e.2.1.toNat Xc).1 == 0)
def Xcg (f:Fs_):Int:=cond (Xx f.1 != 0) (Xx f.1) (cond (cond (cond ((f.1.length:Int) == 0) true ((f.1.getD 0 Xc).1 != 2)) true ((f.2.1.length:Int) != 20)) 1 0)
def Xbt (f:Fs_):Int:=cond (Xcg f != 0) (Xcg f)
 (cond (f.2.1.any fun b=>decide ((b.length:Int)>8)) 2 (cond (!Xdw f.1) 7 (cond (f.1.any fun x=>x.2.2.2.2.1.any (X4 f.1)) 4 0)))
structure Xco (l:List Xa):Prop where
 ent:∀ x∈l,x.2.2.2.2.1.length≤6∧∀ e∈x.2.2.2.2.1,0≤e.2.1∧e.2.1≤9
theorem Xco.of {l:List Xa} (h:Xx l=0):Xco l:=
 ⟨fun x hx=>⟨(Xac ((X0 h).2 x hx)).2.1,fun e he=>((Xac ((X0 h).2 x hx)).2.2.2.2.2 e he).2⟩⟩
theorem Xjt (f:Fs_) (hok:Xb7 f.1) (hen:Xco f.1) (n:Nat) (hn:n<f.1.length):Xdo f (n:Int) 0=some (cond (f.1[n].2.2.2.2.1.any (X4 f.1)) (.inl 4) (.inr ())):=
 Yue f.1[n].2.2.2.2.1 (f:=fun s=>Xdo.B f (n:Int) s) (X4 f.1) (4:Int) (fun i hi=>by
  have hx:=hen.ent _ (jE hn);have he:=hx.2 _ (jE hi)
  simp only[Xdo.B,Yu7 hn,Yus,toNat_cast,getD_lt _ hn,jA,Yva hi,Yu7 hi,getD_lt _ hi,Yup (by omega:i<4294967296),X4]
  by_cases hh:(f.1[n].2.2.2.2.1[i]).2.1≥(f.1.length:Int)
  ·rw[show decide ((f.1[n].2.2.2.2.1[i]).2.1≥(f.1.length:Int))=true by simp[hh]];rfl
  ·rw[show decide ((f.1[n].2.2.2.2.1[i]).2.1≥(f.1.length:Int))=false by simp;omega,show inB (f.1[n].2.2.2.2.1[i]).2.1 f.1.length=true from Ytf he.1 (by omega)]
   rfl) (by
  simp only[Xdo.B,Yu7 hn,Yus,toNat_cast,getD_lt _ hn,jA,Yu5 (jB _),Yur])
theorem Xju (f:Fs_) (hb:Bd Xp f):Xcc f=some (Xbt f):=by
 simp only[Xcc,Xbt,Xcg,Xjn f.1 hb.1,jA]
 cases hi:(Xx f.1 != 0) with
 |true=>simp only[Yus,hi]
 |false=>
  have h0:Xx f.1=0:=by simpa using hi
  have hok:=Xb7.of h0;have hen:=Xco.of h0;simp only[Yur]
  have e1:cond (!((f.1.length:Int) == 0)) (inB 0 f.1.length) true=true:=by
   cases hl:((f.1.length:Int) == 0) with
   |true=>rfl
   |false=>exact Yu7 (i:=0) (by
     have:(f.1.length:Int)≠0:=by simpa using hl
     omega)
  rw[e1];simp only[Yus,show(0:Int).toNat=0 from rfl]
  cases hr:cond (cond ((f.1.length:Int) == 0) true ((f.1.getD 0 Xc).1 != 2)) true ((f.2.1.length:Int) != 20) with
  |true=>rfl
  |false=>
   have hd:f.2.1.length=20:=by
    cases h20:((f.2.1.length:Int) != 20) with
    |false=>have:(f.2.1.length:Int)=20:=by simpa using h20
            omega
    |true=>rw[h20] at hr;cases hh:(cond ((f.1.length:Int) == 0) true ((f.1.getD 0 Xc).1 != 2))<;>rw[hh] at hr<;>cases hr
   have h1:Xfa f 0=_:=Yue f.2.1 (fun b=>decide ((b.length:Int)>8)) (2:Int) (fun i hi=>by
    simp only[Xfa.B,Yva hi,Yu7 hi,Yus,toNat_cast,getD_lt _ hi,jA,Yup (by omega:i<4294967296)]) (by
    simp only[Xfa.B,Yu5 (jB _),Yur])
   have h2:Xfb f 0=_:=Yue f.1 (fun x=>x.2.2.2.2.1.any (X4 f.1)) (4:Int) (fun i hi=>by
    have hl:=hok.len
    simp only[Xfb.B,Yva hi,Yus,Xjt f hok hen i hi,jA,Yup (by omega:i<4294967296)]
    cases (f.1[i].2.2.2.2.1.any (X4 f.1))<;>rfl) (by
    simp only[Xfb.B,Yu5 (jB _),Yur])
   simp only[Yur,h1,h2,jA,Xjr f.1 hok];cases f.2.1.any fun b=>decide ((b.length:Int)>8)
   ·simp only[Yur,Yuy]
    cases Xdw f.1
    ·rfl
    ·simp only[jK,Yur]
     cases f.1.any fun x=>x.2.2.2.2.1.any (X4 f.1)<;>rfl
   ·rfl
theorem Xjv (f:Fs_) (hb:Bd Xp f):Xgx f=some (Xcg f):=by
 simp only[Xgx,Xcg,Xjo f.1 hb.1,jA]
 cases hi:(Xx f.1 != 0) with
 |true=>simp only[Yus]
 |false=>
  simp only[Yur]
  have e1:cond (!((f.1.length:Int) == 0)) (inB 0 f.1.length) true=true:=by
   cases hl:((f.1.length:Int) == 0) with
   |true=>rfl
   |false=>exact Yu7 (i:=0) (by
     have:(f.1.length:Int)≠0:=by simpa using hl
     omega)
  rw[e1];simp only[Yus,show(0:Int).toNat=0 from rfl,Ytz]
theorem Xhj {f:Fs_} (h:Xcg f=0):Xx f.1=0∧0<f.1.length∧(f.1.getD 0 Xc).1=2∧f.2.1.length=20:=by
 unfold Xcg at h
 cases hi:(Xx f.1 != 0) with
 |true=>rw[hi] at h;exact absurd h (by simpa using hi)
 |false=>
  rw[hi] at h
  refine⟨by simpa using hi,?_⟩
  cases h1:((f.1.length:Int) == 0) with
  |true=>rw[h1] at h;cases h
  |false=>
   rw[h1] at h
   cases h2:((f.1.getD 0 Xc).1 != 2) with
   |true=>rw[h2] at h;cases h
   |false=>
    rw[h2] at h
    cases h3:((f.2.1.length:Int) != 20) with
    |true=>rw[h3] at h;cases h
    |false=>
     have a1:(f.1.length:Int)≠0:=by simpa using h1
     have a3:(f.2.1.length:Int)=20:=by simpa using h3
     exact⟨by omega,by simpa using h2,by omega⟩
theorem Xjw (f:Fs_) (hok:Xb7 f.1) (hen:Xco f.1) (v2 v3:Int) (x:Xa) (hx:x∈f.1):Xat f f.1 v2 v3 x.2.2.2.2.1 (x.2.2.2.2.1.length:Int) 0=some (cond (x.2.2.2.2.1.any (X4 f.1)) (.inl 4) (.inr ())):=
 Yue x.2.2.2.2.1 (f:=fun s=>Xat.B f f.1 v2 v3 x.2.2.2.2.1 (x.2.2.2.2.1.length:Int) s) (X4 f.1) (4:Int) (fun i hi=>by
  have hx:=hen.ent _ hx;have he:=hx.2 _ (jE hi)
  simp only[Xat.B,Xb0,Yus,toNat_cast,jA,Yva hi,Yu7 hi,getD_lt _ hi,Yup (by omega:i<4294967296),X4]
  by_cases hh:(x.2.2.2.2.1[i]).2.1≥(f.1.length:Int)
  ·rw[show decide ((x.2.2.2.2.1[i]).2.1≥(f.1.length:Int))=true by simp[hh]];rfl
  ·rw[show decide ((x.2.2.2.2.1[i]).2.1≥(f.1.length:Int))=false by simp;omega,show inB (x.2.2.2.2.1[i]).2.1 f.1.length=true from Ytf he.1 (by omega)]
   rfl) (by
  simp only[Xat.B,Yu5 (jB _),Yur])
theorem Xjx (f:Fs_) (hb:Bd Xp f):Xap f=some (Xbt f):=by
 simp only[Xap,Xbt,Xjv f hb,jA]
 cases hi:(Xcg f != 0) with
 |true=>simp only[Yus]
 |false=>
  have h0:Xcg f=0:=by simpa using hi
  obtain⟨g1,g2,g3,g4⟩:=Xhj h0;have hok:=Xb7.of g1;have hen:=Xco.of g1
  have h1:Xc3 f.2.1 ()=some (f.2.1.any fun b=>decide ((b.length:Int)>8)):=by
   have h:Xby f.2.1 () (f.2.1.length:Int) 0=_:=Yuf f.2.1 (fun b=>decide ((b.length:Int)>8)) (fun i hi=>by
    simp only[Xby.B,Yva hi,Yu7 hi,Yus,toNat_cast,getD_lt _ hi,Xha,jA,Yup (by omega:i<4294967296)]) (by
    simp only[Xby.B,Yu5 (jB _),Yur]) 0 (kE _)
   simp only[Xc3,Xbz];rw[Xaz _ _ h,List.drop_zero]
  have h2:Xb1 f f.1 (f.1.length:Int) 0=_:=Yue f.1 (fun x=>x.2.2.2.2.1.any (X4 f.1)) (4:Int) (fun i hi=>by
   have hl:=hok.len
   simp only[Xb1.B,Yva hi,Yu7 hi,Yus,toNat_cast,getD_lt _ hi,jA,Xjw f hok hen _ _ _ (jE hi),Yup (by omega:i<4294967296)]
   cases (f.1[i].2.2.2.2.1.any (X4 f.1))<;>rfl) (by
   simp only[Xb1.B,Yu5 (jB _),Yur])
  simp only[Yur,h1,h2,jA,Xjs f.1 hok];cases f.2.1.any fun b=>decide ((b.length:Int)>8)
  ·simp only[Yur]
   cases Xdw f.1
   ·rfl
   ·simp only[jK,Yur]
    cases f.1.any fun x=>x.2.2.2.2.1.any (X4 f.1)<;>rfl
  ·rfl
structure Xaa (f:Fs_):Prop where
 inod:Xx f.1=0
 pos:0<f.1.length
 root:(f.1.getD 0 Xc).1=2
 dat:f.2.1.length=20
 dl:∀ b∈f.2.1,b.length≤8
 once:Xdw f.1=true
 ent:∀ x∈f.1,∀ e∈x.2.2.2.2.1,0≤e.2.1∧e.2.1<(f.1.length:Int)∧(f.1.getD e.2.1.toNat Xc).1≠0
theorem Xaa.of {f:Fs_} (h:Xbt f=0):Xaa f:=by
 unfold Xbt at h
 cases hi:(Xcg f != 0) with
 |true=>rw[hi] at h;exact absurd h (by simpa using hi)
 |false=>
  rw[hi] at h
  obtain⟨g1,g2,g3,g4⟩:=Xhj (by simpa using hi:Xcg f=0)
  cases h1:(f.2.1.any fun b=>decide ((b.length:Int)>8)) with
  |true=>rw[h1] at h;cases h
  |false=>
   rw[h1] at h
   cases h2:Xdw f.1 with
   |false=>rw[h2] at h;cases h
   |true=>
    rw[h2] at h
    cases h3:(f.1.any fun x=>x.2.2.2.2.1.any (X4 f.1)) with
    |true=>rw[h3] at h;cases h
    |false=>
     refine⟨g1,g2,g3,g4,fun b hb=>?_,h2,fun x hx e he=>?_⟩
     ·have:=List.any_eq_false.1 h1 b hb
      simp at this;omega
     ·have hh:=List.any_eq_false.1 h3 x hx
      have hh2:(x.2.2.2.2.1.any (X4 f.1))=false:=by simpa using hh
      have hb:=List.any_eq_false.1 hh2 e he
      have hb2:X4 f.1 e=false:=by simpa using hb
      have h0:=((Xco.of g1).ent x hx).2 e he;unfold X4 at hb2
      cases h4:decide (e.2.1≥(f.1.length:Int)) with
      |true=>rw[h4] at hb2;cases hb2
      |false=>
       rw[h4] at hb2
       exact⟨h0.1,by simp at h4;omega,by simpa using hb2⟩
abbrev Xw (l:List Xa) (a:Nat):List Xf:=(l.getD a Xc).2.2.2.2.1
inductive Reach (l:List Xa) (s:Nat):Nat→Prop
 |refl:Reach l s s
 |step {a b:Nat}:Reach l s a→(∃ e∈Xw l a,e.2.1=(b:Int))→Reach l s b
def Xb8 (l:List Xa):Prop:=∀ x∈l,x.2.2.2.2.1.length≤6∧∀ e∈x.2.2.2.2.1,0≤e.2.1∧e.2.1<(l.length:Int)
theorem Xaa.Xim {f:Fs_} (h:Xaa f):Xb8 f.1:=fun x hx=>⟨((Xco.of h.inod).ent x hx).1,fun e he=>⟨(h.ent x hx e he).1,(h.ent x hx e he).2.1⟩⟩
theorem Xar {l:List Xa} (h:Xb8 l) {a:Nat} {e:Xf} (he:e∈Xw l a):0≤e.2.1∧e.2.1<(l.length:Int):=by
 unfold Xw at he
 by_cases ha:a<l.length
 ·rw[getD_lt _ ha] at he;exact(h _ (jE ha)).2 e he
 ·rw[kT,List.getElem?_eq_none (by omega)] at he;cases he
theorem Reach.lt {l:List Xa} (h:Xb8 l) {s a:Nat} (hs:s<l.length) (hr:Reach l s a):a<l.length:=by
 induction hr with
 |refl=>exact hs
 |step _ he _=>obtain⟨e,he,h2⟩:=he;have:=Xar h he;omega
abbrev on (b:List Bool) (i:Nat):Prop:=b.getD i false=true
theorem Xbx {b:List Bool} {i j:Nat}:on (b.set i true) j↔on b j∨(i=j∧i<b.length):=by
 unfold on;rw[kT,kT,List.getElem?_set]
 by_cases e:i=j
 ·subst e
  by_cases h:i<b.length
  ·simp[h]
  ·simp[h]
 ·simp[e]
theorem Xic {b:List Bool} {i:Nat} (h:on b i):i<b.length:=by
 unfold on at h
 by_cases hh:i<b.length
 ·exact hh
 ·rw[kT,List.getElem?_eq_none (by omega)] at h;cases h
theorem Xip {b:List Bool} {i:Nat} (h:on b i):b.set i true=b:=by
 have hl:=Xic h;unfold on at h;rw[getD_lt _ hl] at h
 conv=>lhs;rw[←h]
 exact List.set_getElem_self hl
def Xb6 (b:List Bool) (es:List Xf):List Bool:=es.foldl (fun b e=>b.set e.2.1.toNat true) b
theorem Xcj:∀ (es:List Xf) (b:List Bool),(Xb6 b es).length=b.length
 |[],b=>rfl
 |e::es,b=>by simp only[Xb6,kI];exact(Xcj es _).trans (by simp)
theorem Xcf:∀ (es:List Xf) (b:List Bool) (j:Nat),on (Xb6 b es) j↔on b j∨(j<b.length∧∃ e∈es,e.2.1.toNat=j)
 |[],b,j=>by simp[Xb6]
 |e::es,b,j=>by
  have ih:=Xcf es (b.set e.2.1.toNat true) j;have:on (Xb6 b (e::es)) j↔on (Xb6 (b.set e.2.1.toNat true) es) j:=Iff.rfl;rw[this,ih,Xbx,kC]
  constructor
  ·rintro((h | ⟨h1,h2⟩) | ⟨h1,e',h2,h3⟩)
   ·exact .inl h
   ·exact .inr ⟨by omega,e,jF ..,h1⟩
   ·exact .inr ⟨h1,e',jG _ h2,h3⟩
  ·rintro(h | ⟨h1,e',h2,h3⟩)
   ·exact .inl (.inl h)
   ·rcases List.mem_cons.1 h2 with rfl | h2
    ·exact .inl (.inr ⟨h3,by omega⟩)
    ·exact .inr ⟨h1,e',h2,h3⟩
theorem Xfy:∀ (es:List Xf) (b:List Bool),(∀ e∈es,on b e.2.1.toNat)→Xb6 b es=b
 |[],b,h=>rfl
 |e::es,b,h=>by
  simp only[Xb6,kI];rw[Xip (h e (jF ..))];exact Xfy es b fun x hx=>h x (jG _ hx)
def X8 (l:List Xa):List Nat→List Bool→List Bool
 |[],b=>b
 |i::is,b=>X8 l is (cond (b.getD i false) (Xb6 b (Xw l i)) b)
def Xci (l:List Xa) (b:List Bool):Prop:=∀ i,on b i→∀ e∈Xw l i,on b e.2.1.toNat
def Xb9 (l:List Xa) (s:Nat) (b:List Bool):Prop:=∀ j,on b j→Reach l s j
theorem Xc0 (l:List Xa):∀ (is:List Nat) (b:List Bool),(X8 l is b).length=b.length
 |[],b=>rfl
 |i::is,b=>by simp only[X8];rw[Xc0 l is];cases b.getD i false<;>simp[Xcj]
theorem Xay (l:List Xa):∀ (is:List Nat) (b:List Bool) (j:Nat),on b j→on (X8 l is b) j
 |[],b,j,h=>h
 |i::is,b,j,h=>by
  refine Xay l is _ j ?_;cases b.getD i false
  ·exact h
  ·exact(Xcf _ _ _).2 (.inl h)
theorem Xdx {l:List Xa} (hl:Xb8 l) {s:Nat}:∀ (is:List Nat) (b:List Bool),Xb9 l s b→Xb9 l s (X8 l is b)
 |[],b,h=>h
 |i::is,b,h=>by
  refine Xdx hl is _ ?_;cases hi:b.getD i false
  ·exact h
  ·intro j hj
   rcases(Xcf _ _ _).1 hj with hj | ⟨_,e,he,h2⟩
   ·exact h j hj
   ·have:=Xar hl he
    exact .step (h i hi) ⟨e,he,by omega⟩
theorem Xe5 {l:List Xa}:∀ (is:List Nat) (b:List Bool) (i:Nat),i∈is→on b i→∀ e∈Xw l i,e.2.1.toNat<b.length→on (X8 l is b) e.2.1.toNat
 |k::is,b,i,hi,hb,e,he,hlt=>by
  rcases List.mem_cons.1 hi with rfl | hi
  ·refine Xay l is _ _ ?_
   rw[hb];exact(Xcf _ _ _).2 (.inr ⟨hlt,e,he,rfl⟩)
  ·refine Xe5 is _ i hi ?_ e he ?_
   ·cases b.getD k false
    ·exact hb
    ·exact(Xcf _ _ _).2 (.inl hb)
   ·cases b.getD k false
    ·exact hlt
    ·simpa [Xcj] using hlt
theorem Xaf {l:List Xa}:∀ (is:List Nat) (b:List Bool),Xci l b→X8 l is b=b
 |[],b,h=>rfl
 |i::is,b,h=>by
  simp only[X8];cases hi:b.getD i false
  ·exact Xaf is b h
  ·simp only[Yus]
   rw[Xfy _ _ (h i hi)];exact Xaf is b h
theorem Xh7:∀ (b c:List Bool),b.length=c.length→(∀ j,on b j→on c j)→b.count true≤c.count true
 |[],[],_,_=>jB _
 |x::b,y::c,hl,h=>by
  have ih:=Xh7 b c (by simpa using hl) fun j hj=>h (j+1) hj
  have h0:=h 0;simp only[List.count_cons]
  cases x<;>cases y<;>simp[on] at h0 ⊢<;>omega
theorem cnt_lt:∀ (b c:List Bool),b.length=c.length→(∀ j,on b j→on c j)→(∃ j,on c j∧¬ on b j)→b.count true<c.count true
 |[],[],_,_,⟨j,h,_⟩=>by have:=Xic h;simp at this
 |x::b,y::c,hl,h,⟨j,h1,h2⟩=>by
  have h0:=h 0;simp only[List.count_cons]
  cases j with
  |zero=>
   have ih:=Xh7 b c (by simpa using hl) fun j hj=>h (j+1) hj
   cases x<;>cases y<;>simp[on] at h1 h2 h0 ⊢<;>omega
  |succ j=>
   have ih:=cnt_lt b c (by simpa using hl) (fun j hj=>h (j+1) hj) ⟨j,h1,h2⟩
   cases x<;>cases y<;>simp[on] at h0 ⊢<;>omega
def X3 (l:List Xa):Nat→List Bool→List Bool
 |0,b=>b
 |n+1,b=>X3 l n (X8 l (List.range l.length) b)
theorem Xcq {l:List Xa} (hl:Xb8 l):∀ (n:Nat) (b:List Bool),b.length=l.length→l.length≤n+b.count true→Xci l (X3 l n b)∧(X3 l n b).length=l.length∧(∀ j,on b j→on (X3 l n b) j)∧∀ s,Xb9 l s b→Xb9 l s (X3 l n b)
 |0,b,hb,hn=>by
  refine⟨fun i hi e he=>?_,hb,fun _ h=>h,fun _ h=>h⟩
  have hall:b.count true=b.length:=by have:=List.count_le_length (a:=true) (l:=b);omega
  have hlt:=(Xar hl he)
  have:b.getD e.2.1.toNat false=b[e.2.1.toNat]'(by omega):=getD_lt _ _
  show b.getD e.2.1.toNat false=true;rw[this]
  exact(List.count_eq_length.1 hall _ (jE _)).symm
 |n+1,b,hb,hn=>by
  simp only[X3];have hlen:=Xc0 l (List.range l.length) b
  by_cases hc:Xci l b
  ·rw[Xaf _ _ hc]
   have:∀ n,X3 l n b=b:=by
    intro n
    induction n with
    |zero=>rfl
    |succ n ih=>simp only[X3];rw[Xaf _ _ hc];exact ih
   rw[this];exact⟨hc,hb,fun _ h=>h,fun _ h=>h⟩
  ·obtain⟨i,h1,e,h2,h3⟩:∃ i,on b i∧∃ e∈Xw l i,¬ on b e.2.1.toNat:=by
    unfold Xci at hc;simp only[Classical.not_forall] at hc;obtain⟨i,h1,e,h2,h3⟩:=hc;exact⟨i,h1,e,h2,h3⟩
   have hlt:=Xar hl h2;have hi:=Xic h1
   have hs:=cnt_lt b _ hlen.symm (Xay l _ b) ⟨_,Xe5 (List.range l.length) b i (List.mem_range.2 (by omega)) h1 e h2 (by omega),h3⟩
   obtain⟨q1,q2,q3,q4⟩:=Xcq hl n _ (by omega) (by omega:l.length≤n+(X8 l (List.range l.length) b).count true)
   exact⟨q1,q2,fun j hj=>q3 j (Xay l _ b j hj),fun s hs=>q4 s (Xdx hl _ _ hs)⟩
open Classical in
noncomputable def Xz (l:List Xa) (s:Nat):List Int:=((List.range l.length).filter fun i=>decide (Reach l s i)).map Int.ofNat
theorem Xio {l:List Xa} (hl:Xb8 l) {s:Nat} (hs:s<l.length) {a:Nat}:(a:Int)∈Xz l s↔Reach l s a:=by
 unfold Xz;simp only[kS,List.mem_filter,List.mem_range,jI]
 constructor
 ·rintro⟨i,⟨_,h⟩,e⟩
  have:i=a:=Int.ofNat.inj e;subst this;exact h
 ·intro h;exact⟨a,⟨h.lt hl hs,h⟩,rfl⟩
theorem Xin {l:List Xa} {s:Nat} {v:Int} (h:v∈Xz l s):0≤v∧v<(l.length:Int):=by
 unfold Xz at h;simp only[kS,List.mem_filter,List.mem_range] at h;obtain⟨i,⟨h1,_⟩,rfl⟩:=h;simp;omega
theorem Xf0 (l:List Xa) (s:Nat):(Xz l s).length≤l.length:=by
 unfold Xz;rw[kP]
 exact jU (List.length_filter_le _ _) (by simp)
open Classical in
theorem Xf1 {l:List Xa} {s:Nat} {b:List Bool} (hb:b.length=l.length) (hc:Xci l b) (hs:Xb9 l s b) (h0:on b s):((List.range b.length).filter fun i=>b.getD i false).map Int.ofNat=Xz l s:=by
 unfold Xz;rw[hb]
 congr 1
 refine List.filter_congr fun i hi=>?_;clear hi;rw[Bool.eq_iff_iff,jI]
 constructor
 ·exact hs i
 ·intro h
  induction h with
  |refl=>exact h0
  |step _ he ih=>obtain⟨e,he,h2⟩:=he;have:=hc _ ih e he;rw[h2] at this;exact this
theorem Xib (b:List Bool) {f:Int×List Int→Option ((Int×List Int)⊕List Int)} (hl:b.length≤1000)
  (hs:∀ (i:Nat) (h:i<b.length) (t:List Int),t.length≤i→f ((i:Int),t)=cond b[i] (some (.inl (((i+1:Nat):Int),t++[(i:Int)]))) (some (.inl (((i+1:Nat):Int),t)))) (he:∀ t,f ((b.length:Int),t)=some (.inr t)) :
  Yap f (0,[])=some (((List.range b.length).filter fun i=>b.getD i false).map Int.ofNat):=by
 have h:=Yl9 (τ:=List Int) b (f:=f) (fun i t=>((i:Int),t)) (fun i x t=>.inl (cond x (t++[(i:Int)]) t)) id (fun i t=>t.length≤i)
  (fun i hi t ht=>by rw[hs i hi t ht];cases b[i]<;>rfl) (fun i hi t t' ht e=>by cases e;cases b[i]<;>simp<;>omega) (fun t ht=>he t) [] (by simp) (s:=(0,[])) rfl
 rw[h]
 congr 1
 clear h hs he hl
 have:∀ (m:List Bool) (n:Nat) (t:List Int),Ybs (fun i x t=>.inl (cond x (t++[(i:Int)]) t)) id n m t=t++((List.range' n m.length).filter fun i=>m.getD (i-n) false).map Int.ofNat:=by
  intro m
  induction m with
  |nil=>intro n t;simp[Ybs]
  |cons x m ih=>
   intro n t;simp only[Ybs,Yux];rw[ih,jH,List.range'_succ,List.filter_cons]
   have e:(List.range' (n+1) m.length).filter (fun i=>(x::m).getD (i-n) false)=(List.range' (n+1) m.length).filter (fun i=>m.getD (i-(n+1)) false):=by
    refine List.filter_congr fun i hi=>?_;have:=(List.mem_range'_1.1 hi).1
    rw[show i-n=(i-(n+1))+1 by omega];rfl
   rw[e]
   cases x<;>simp
 rw[this b 0 [],jO,List.range_eq_range'];rfl
theorem Xjy (f:Fs_) (hl:Xb8 f.1) (hn:f.1.length≤10) (rd:Int) (i:Nat) (hi:i<f.1.length) (b:List Bool) (hb:b.length=f.1.length):Xcn f rd (i:Int) (0,b)=some (cond (b.getD i false) (Xb6 b (Xw f.1 i)) b):=by
 have hx:=hl _ (jE hi)
 have he:Xw f.1 i=f.1[i].2.2.2.2.1:=by unfold Xw;rw[getD_lt _ hi]
 cases h0:b.getD i false with
 |false=>
  refine Ya2 ?_
  simp only[Xcn.B,Yu7 (by omega:i<b.length),Yus,toNat_cast,h0,Yur,jA]
 |true=>
  rw[he]
  have h:=Yno f.1[i].2.2.2.2.1 (f:=fun s=>Xcn.B f rd (i:Int) s.1 s.2) (fun(b:List Bool) e=>b.set e.2.1.toNat true) id (fun k c=>c.length=f.1.length∧on c i) (fun k hk c hc=>by
   have hek:=hx.2 _ (jE hk)
   refine⟨?_,by simpa using hc.1,Xbx.2 (.inl hc.2)⟩
   have h1:c.getD i false=true:=hc.2
   simp only[Xcn.B,Yu7 (by omega:i<c.length),Yus,toNat_cast,h1,Yu7 hi,getD_lt _ hi,Yva hk,jA,Yu7 hk,getD_lt _ hk,Yup (by omega:k<4294967296)]
   rw[show inB (f.1[i].2.2.2.2.1[k]).2.1 c.length=true from Ytf hek.1 (by omega)];rfl) (fun c hc=>by
   have h1:c.getD i false=true:=hc.2
   simp only[Xcn.B,Yu7 (by omega:i<c.length),Yus,toNat_cast,h1,Yu7 hi,getD_lt _ hi,Yu5 (jB _),jA,Yur,id]) b ⟨hb,h0⟩
  exact h
theorem Xjz (f:Fs_) (hl:Xb8 f.1) (hn:f.1.length≤10) (rd:Int) (b:List Bool) (hb:b.length=f.1.length):Xdp f rd (0,b)=some (X8 f.1 (List.range f.1.length) b):=by
 have h:=Yl9 (τ:=List Bool) f.1 (f:=fun s=>Xdp.B f rd s.1 s.2) (fun i b=>((i:Int),b)) (fun i x b=>.inl (cond (b.getD i false) (Xb6 b (Xw f.1 i)) b)) id (fun i b=>b.length=f.1.length)
  (fun i hi c hc=>by
   simp only[Xdp.B,Yva hi,Yus,Xjy f hl hn rd i hi c hc,jA,Yup (by omega:i<4294967296),sel]) (fun i hi c c' hc e=>by cases e;cases c.getD i false<;>simp[Xcj,hc]) (fun c hc=>by
   simp only[Xdp.B,Yu5 (jB _),Yur,id]) b hb (s:=(0,b)) rfl
 refine Eq.trans h ?_
 congr 1
 have:∀ (m:List Xa) (n:Nat) (b:List Bool),Ybs (fun i (x:Xa) b=>.inl (cond (b.getD i false) (Xb6 b (Xw f.1 i)) b)) id n m b=X8 f.1 (List.range' n m.length) b:=by
  intro m
  induction m with
  |nil=>intro n b;rfl
  |cons x m ih=>intro n b;simp only[Ybs,Yux,jH,List.range'_succ,X8];exact ih _ _
 rw[this,List.range_eq_range']
theorem Xj0 (f:Fs_) (hl:Xb8 f.1) (hn:f.1.length≤10) (h0:0<f.1.length):Xgq f=some (Xz f.1 0):=by
 have hz:(List.replicate f.1.length false).length=f.1.length:=by simp
 let b0:=(List.replicate f.1.length false).set 0 true
 have hb0:b0.length=f.1.length:=by simp[b0]
 have hon:on b0 0:=Xbx.2 (.inr ⟨rfl,by omega⟩)
 have hcnt:1≤b0.count true:=by
  have:true∈b0:=by
   have h1:b0[0]'(by omega)=true:=by rw[←getD_lt false (by omega:0<b0.length)];exact hon
   rw[←h1];exact jE _
  exact List.count_pos_iff.2 this
 have hsnd:Xb9 f.1 0 b0:=by
  intro j hj;rcases Xbx.1 hj with h | ⟨rfl,_⟩
  ·unfold on at h;rw[kT,List.getElem?_replicate] at h;split at h<;>simp at h
  ·exact .refl
 obtain⟨q1,q2,q3,q4⟩:=Xcq hl f.1.length b0 hb0 (by omega)
 have h1:Xed f (0,b0)=some (X3 f.1 f.1.length b0):=by
  have h:=Yl9 (τ:=List Bool) f.1 (f:=fun s=>Xed.B f s.1 s.2) (fun i b=>((i:Int),b)) (fun i x b=>.inl (X8 f.1 (List.range f.1.length) b)) id (fun i b=>b.length=f.1.length)
   (fun i hi c hc=>by
    simp only[Xed.B,Yva hi,Yus,Xjz f hl hn i c hc,jA,Yup (by omega:i<4294967296),sel]) (fun i hi c c' hc e=>by cases e;rw[Xc0,hc]) (fun c hc=>by
    simp only[Xed.B,Yu5 (jB _),Yur,id]) b0 hb0 (s:=(0,b0)) rfl
  refine Eq.trans h ?_
  congr 1
  have:∀ (m:List Xa) (n:Nat) (b:List Bool),Ybs (fun i (x:Xa) b=>.inl (X8 f.1 (List.range f.1.length) b)) id n m b=X3 f.1 m.length b:=by
   intro m
   induction m with
   |nil=>intro n b;rfl
   |cons x m ih=>intro n b;simp only[Ybs,Yux,jH,X3];exact ih _ _
  exact this _ _ _
 have h3:Xee (X3 f.1 f.1.length b0) (0,[])=some (Xz f.1 0):=by
  have h:=Xib (X3 f.1 f.1.length b0) (f:=fun s=>Xee.B (X3 f.1 f.1.length b0) s.1 s.2) (by omega) (fun i hi t ht=>by
   simp only[Xee.B,Yva hi,Yu7 hi,Yus,toNat_cast,getD_lt _ hi,Yup (by omega:i<4294967296)]
   rw[Xhz (by simp;omega)];rfl) (fun t=>by
   simp only[Xee.B,Yu5 (jB _),Yur])
  refine Eq.trans h ?_;rw[Xf1 q2 q1 (q4 0 hsnd) (q3 0 hon)]
 simp only[Xgq]
 rw[show(decide ((0:Int)≤(f.1.length:Int))&&(decide ((f.1.length:Int)≤(f.1.length:Int))&&decide ((f.1.length:Int)≤2147483648)))=true by simp;omega]
 rw[show((f.1.length:Int)).toNat=f.1.length from toNat_cast _,hz,show inB 0 f.1.length=true from Yu7 (i:=0) h0];simp only[Yus,jA,show(0:Int).toNat=0 from rfl];rw[show(List.replicate f.1.length false).set 0 true=b0 from rfl,h1];simp only[jA,h3]
theorem Xhs:∀ (b:List Bool) (i:Nat),i<b.length→b.getD i false=false→(b.set i true).count false+1=b.count false
 |x::b,0,h,hf=>by
  have:x=false:=by simpa using hf
  subst this;simp
 |x::b,i+1,h,hf=>by
  have ih:=Xhs b i (by simpa using h) (by simpa using hf)
  simp only[List.set_cons_succ,List.count_cons];omega
theorem Xj1 (l:List Xa) (es:List Xf) (v2:Int) (hv:v2=(es.length:Int)) (seen:List Bool) (op:List Int) (h6:es.length≤6) (ho:op.length≤1000):Xau l es v2 seen (0,op)=some (op++es.map fun e=>e.2.1):=by
 subst hv
 exact Yty es (f:=fun s=>Xau.B l es (es.length:Int) seen s.1 s.2) (fun e=>e.2.1) id op.length (fun i hi t ht=>by
  simp only[Xau.B,Yva hi,Yu7 hi,Yus,toNat_cast,getD_lt _ hi,Yup (by omega:i<4294967296)]
  rw[Xhz (by simp;omega)];rfl) (fun t ht=>by
  simp only[Xau.B,Yu5 (jB _),Yur,id]) op rfl
theorem Xf6 {op:List Int} (h:0<op.length):op.take (op.length-1)++[op.getD (op.length-1) 0]=op:=by
 have h1:op.length-1<op.length:=by omega
 rw[getD_lt _ h1];have:=List.take_append_drop (op.length-1) op
 rw[kZ h1,show op.length-1+1=op.length by omega,List.drop_length] at this
 exact this
theorem Xh4 {l:List Xa} (hl:Xb8 l) (hn:l.length≤10) (s:Nat) (hs:s<l.length):∀ (m:Nat) (seen:List Bool) (op:List Int),7*seen.count false+op.length≤m→m≤100→seen.length=l.length→Xb9 l s seen→
  (∀ v∈op,∃ a:Nat,v=(a:Int)∧Reach l s a)→(∀ i,on seen i→∀ e∈Xw l i,on seen e.2.1.toNat∨e.2.1∈op)→
  ∃ b,Xah l (seen,op)=some b∧b.length=l.length∧Xci l b∧Xb9 l s b∧(∀ j,on seen j→on b j)∧∀ v∈op,on b v.toNat
 |m,seen,op,hm,hm2,h1,h2,h3,h4=>by
  by_cases ho:op.length=0
  ·have:op=[]:=List.length_eq_zero_iff.1 ho
   subst this
   refine⟨seen,Ya2 ?_,h1,fun i hi e he=>?_,h2,fun _ h=>h,fun v hv=>by cases hv⟩
   ·simp only[Xah.B];rfl
   ·rcases h4 i hi e he with h | h
    ·exact h
    ·cases h
  ·have hpos:0<op.length:=by omega
   have hw:w64 ((op.length:Int)-1)=((op.length-1:Nat):Int):=by rw[Ytt (by omega) (by omega)];omega
   have hsp:=Xf6 hpos;generalize hv:op.getD (op.length-1) 0=v at hsp;generalize hq:op.take (op.length-1)=q at hsp
   have hql:q.length=op.length-1:=by rw[←hq];simp
   obtain⟨a,rfl,ha⟩:=h3 v (by rw[←hsp];simp)
   have hal:=ha.lt hl hs
   have hB:Xah.B l seen op=cond (seen.getD a false) (some (.inl (seen,q))) (some (.inl (seen.set a true,q++(Xw l a).map fun e=>e.2.1))):=by
    have e6:(Xw l a).length≤6:=by unfold Xw;rw[getD_lt _ hal];exact(hl _ (jE hal)).1
    simp only[Xah.B,show decide ((op.length:Int)>0)=true by simp;omega,Yus,hw,Yu7 (by omega:op.length-1<op.length),toNat_cast,hv,jA]
    rw[show(decide ((0:Int)≤((op.length-1:Nat):Int))&&decide (((op.length-1:Nat):Int)≤(op.length:Int)))=true by rw[jC,jI,jI];omega,List.drop_zero,Nat.sub_zero,hq]
    simp only[Yus,Yu7 (by omega:a<seen.length),Yu7 hal,Xj1 l (Xw l a) _ rfl _ q e6 (by omega),jA]
   cases hsn:seen.getD a false with
   |true=>
    rw[hsn] at hB
    obtain⟨b,q1,q2,q3,q4,q5,q6⟩:=Xh4 hl hn s hs (m-1) seen q (by omega) (by omega) h1 h2 (fun v hv=>h3 v (by rw[←hsp];simp[hv])) (fun i hi e he=>by
     rcases h4 i hi e he with h | h
     ·exact .inl h
     ·rw[←hsp] at h
      rcases List.mem_append.1 h with h | h
      ·exact .inr h
      ·have:e.2.1=(a:Int):=by simpa using h
       rw[this];exact .inl hsn)
    refine⟨b,?_,q2,q3,q4,q5,fun v hv=>?_⟩
    ·unfold Xah
     rw[Ych (f:=fun s=>Xah.B l s.1 s.2) (s:=(seen,op)) (s':=(seen,q)) hB];exact q1
    ·rw[←hsp] at hv
     rcases List.mem_append.1 hv with h | h
     ·exact q6 v h
     ·have:v=(a:Int):=by simpa using h
      rw[this];exact q5 a hsn
   |false=>
    rw[hsn] at hB
    have e6:(Xw l a).length≤6:=by unfold Xw;rw[getD_lt _ hal];exact(hl _ (jE hal)).1
    have hc:=Xhs seen a (by omega) hsn
    have hon:on (seen.set a true) a:=Xbx.2 (.inr ⟨rfl,by omega⟩)
    obtain⟨b,q1,q2,q3,q4,q5,q6⟩:=Xh4 hl hn s hs (m-1) (seen.set a true) (q++(Xw l a).map fun e=>e.2.1) (by simp;omega) (by omega) (by simpa using h1) (fun j hj=>by
      rcases Xbx.1 hj with h | ⟨rfl,_⟩
      ·exact h2 j h
      ·exact ha) (fun v hv=>by
      rcases List.mem_append.1 hv with h | h
      ·exact h3 v (by rw[←hsp];simp[h])
      ·obtain⟨e,he,rfl⟩:=List.mem_map.1 h
       have:=Xar hl he
       exact⟨e.2.1.toNat,by omega,.step ha ⟨e,he,by omega⟩⟩) (fun i hi e he=>by
      rcases Xbx.1 hi with h | ⟨rfl,_⟩
      ·rcases h4 i h e he with h | h
       ·exact .inl (Xbx.2 (.inl h))
       ·rw[←hsp] at h
        rcases List.mem_append.1 h with h | h
        ·exact .inr (jW _ h)
        ·have:e.2.1=(a:Int):=by simpa using h
         rw[this];exact .inl hon
      ·exact .inr (kB _ (List.mem_map.2 ⟨e,he,rfl⟩)))
    refine⟨b,?_,q2,q3,q4,fun j hj=>q5 j (Xbx.2 (.inl hj)),fun v hv=>?_⟩
    ·unfold Xah
     rw[Ych (f:=fun s=>Xah.B l s.1 s.2) (s:=(seen,op)) (s':=(seen.set a true,q++(Xw l a).map fun e=>e.2.1)) hB];exact q1
    ·rw[←hsp] at hv
     rcases List.mem_append.1 hv with h | h
     ·exact q6 v (jW _ h)
     ·have:v=(a:Int):=by simpa using h
      rw[this];exact q5 a hon
termination_by m=>m
decreasing_by all_goals omega
theorem Xj2 {l:List Xa} (hl:Xb8 l) (hn:l.length≤10) (s:Nat) (hs:s<l.length):Xcp l (s:Int)=some (Xz l s):=by
 obtain⟨b,q1,q2,q3,q4,_,q6⟩:=Xh4 hl hn s hs 71 (List.replicate l.length false) [(s:Int)] (by simp;omega) (by omega) (by simp) (fun j hj=>by
   unfold on at hj;rw[kT,List.getElem?_replicate] at hj;split at hj<;>simp at hj) (fun v hv=>⟨s,by simpa using hv,.refl⟩) (fun j hj=>by
   unfold on at hj;rw[kT,List.getElem?_replicate] at hj;split at hj<;>simp at hj)
 have h2:Xa4 (b.length:Int) b (0,[])=some (Xz l s):=by
  have h:=Xib b (f:=fun s=>Xa4.B (b.length:Int) b s.1 s.2) (by omega) (fun i hi t ht=>by
   simp only[Xa4.B,Yva hi,Yu7 hi,Yus,toNat_cast,getD_lt _ hi,Yup (by omega:i<4294967296)]
   rw[Xhz (by simp;omega)];rfl) (fun t=>by
   simp only[Xa4.B,Yu5 (jB _),Yur])
  refine Eq.trans h ?_;rw[Xf1 q2 q3 q4 (q6 _ (jF ..))]
 simp only[Xcp]
 rw[show(decide ((0:Int)≤(l.length:Int))&&(decide ((l.length:Int)≤(l.length:Int))&&decide ((l.length:Int)≤2147483648)))=true by simp;omega,show((l.length:Int)).toNat=l.length from toNat_cast _]
 simp only[Yus,q1,jA,h2]
def Xhn (l:List Xa):List Int:=l.flatMap fun x=>x.2.2.2.2.1.map fun e=>e.2.1
def Xae (l:List Xa) (a:Int):Int:=(((Xhn l).count a:Nat):Int)
theorem Xfs (a:Int):∀ (l:List Xf) (m:Nat),l.foldl (fun t e=>t+(if e.2.1 == a then 1 else 0)) m=m+(l.map fun e=>e.2.1).count a
 |[],m=>by simp
 |y::l,m=>by rw[kI,Xfs a l,jS,List.count_cons];omega
theorem Xj3 (l:List Xa) (hl:∀ x∈l,x.2.2.2.2.1.length≤6) (hn:l.length≤10) (a:Int):Xgr l a=some (Xae l a):=by
 have h1:∀ (i:Nat) (hi:i<l.length) (n:Nat),n≤1000→Xdq l a (i:Int) ((n:Int),0)=some (((n+(l[i].2.2.2.2.1.map fun e=>e.2.1).count a:Nat):Int)):=by
  intro i hi n hn;have h6:=hl _ (jE hi)
  have h:=Yl9 (τ:=Nat) l[i].2.2.2.2.1 (f:=fun s=>Xdq.B l a (i:Int) s.1 s.2) (fun k m=>((m:Int),(k:Int))) (fun _ e m=>.inl (m+(if e.2.1 == a then 1 else 0))) (fun m=>((m:Nat):Int)) (fun k m=>m≤n+k)
   (fun k hk m hm=>by
    simp only[Xdq.B,Yu7 hi,Yus,toNat_cast,getD_lt _ hi,jA,Yva hk,Yu7 hk,getD_lt _ hk,Yup (by omega:k<4294967296),Yup (by omega:m<4294967296),sel]
    cases h:((l[i].2.2.2.2.1[k]).2.1 == a)<;>simp[h])
   (fun k hk m m' hm e=>by cases e;split<;>omega)
   (fun m hm=>by
    simp only[Xdq.B,Yu7 hi,Yus,toNat_cast,getD_lt _ hi,jA,Yu5 (jB _),Yur]) n (by omega) (s:=((n:Int),0)) rfl
  refine Eq.trans h ?_;rw[Yh5,Xfs]
 have h:=Yl9 (τ:=Nat) l (f:=fun s=>Xef.B l a s.1 s.2) (fun k m=>((m:Int),(k:Int))) (fun _ x m=>.inl (m+(x.2.2.2.2.1.map fun e=>e.2.1).count a)) (fun m=>((m:Nat):Int)) (fun k m=>m≤6*k)
  (fun k hk m hm=>by
   simp only[Xef.B,Yva hk,Yus,h1 k hk m (by omega),jA,Yup (by omega:k<4294967296),sel])
  (fun k hk m m' hm e=>by cases e;have:=hl _ (jE hk);have:=List.count_le_length (a:=a) (l:=l[k].2.2.2.2.1.map fun e=>e.2.1);simp at this;omega)
  (fun m hm=>by simp only[Xef.B,Yu5 (jB _),Yur]) 0 (by omega) (s:=(0,0)) rfl
 have h':Xef l a (0,0)=_:=h;simp only[Xgr,h',jA];rw[Yh5]
 have:∀ (l:List Xa) (m:Nat),l.foldl (fun t x=>t+(x.2.2.2.2.1.map fun e=>e.2.1).count a) m=m+(Xhn l).count a:=by
  intro l
  induction l with
  |nil=>intro m;simp[Xhn]
  |cons y l ih=>intro m;rw[kI,ih];simp only[Xhn,List.flatMap_cons,List.count_append];omega
 rw[this,jJ];rfl
theorem Xj4 (l:List Xa) (hl:∀ x∈l,x.2.2.2.2.1.length≤6) (hn:l.length≤10) (a:Int):Xc5 l a=some (Xae l a):=by
 have h1:∀ (v v2:Int) (x:Xa) (h6:x.2.2.2.2.1.length≤6) (n:Nat),n≤1000→Xav a l v v2 x.2.2.2.2.1 (x.2.2.2.2.1.length:Int) ((n:Int),0)=some (((n+(x.2.2.2.2.1.map fun e=>e.2.1).count a:Nat):Int)):=by
  intro v v2 x h6 n hn
  have h:=Yl9 (τ:=Nat) x.2.2.2.2.1 (f:=fun s=>Xav.B a l v v2 x.2.2.2.2.1 (x.2.2.2.2.1.length:Int) s.1 s.2) (fun k m=>((m:Int),(k:Int))) (fun _ e m=>.inl (m+(if e.2.1 == a then 1 else 0))) (fun m=>((m:Nat):Int)) (fun k m=>m≤n+k)
   (fun k hk m hm=>by
    simp only[Xav.B,Yus,toNat_cast,jA,Yva hk,Yu7 hk,getD_lt _ hk,Yup (by omega:k<4294967296),Yup (by omega:m<4294967296),sel]
    cases h:((x.2.2.2.2.1[k]).2.1 == a)<;>simp[h])
   (fun k hk m m' hm e=>by cases e;split<;>omega)
   (fun m hm=>by
    simp only[Xav.B,Yu5 (jB _),Yur]) n (by omega) (s:=((n:Int),0)) rfl
  refine Eq.trans h ?_;rw[Yh5,Xfs]
 have h:=Yl9 (τ:=Nat) l (f:=fun s=>Xa5.B a l (l.length:Int) s.1 s.2) (fun k m=>((m:Int),(k:Int))) (fun _ x m=>.inl (m+(x.2.2.2.2.1.map fun e=>e.2.1).count a)) (fun m=>((m:Nat):Int)) (fun k m=>m≤6*k)
  (fun k hk m hm=>by
   simp only[Xa5.B,Yva hk,Yu7 hk,Yus,toNat_cast,getD_lt _ hk,h1 _ _ _ (hl _ (jE hk)) m (by omega),jA,Yup (by omega:k<4294967296),sel])
  (fun k hk m m' hm e=>by cases e;have:=hl _ (jE hk);have:=List.count_le_length (a:=a) (l:=l[k].2.2.2.2.1.map fun e=>e.2.1);simp at this;omega)
  (fun m hm=>by simp only[Xa5.B,Yu5 (jB _),Yur]) 0 (by omega) (s:=(0,0)) rfl
 have h':Xa5 a l (l.length:Int) (0,0)=_:=h;simp only[Xc5,h',jA];rw[Yh5]
 have:∀ (l:List Xa) (m:Nat),l.foldl (fun t x=>t+(x.2.2.2.2.1.map fun e=>e.2.1).count a) m=m+(Xhn l).count a:=by
  intro l
  induction l with
  |nil=>intro m;simp[Xhn]
  |cons y l ih=>intro m;rw[kI,ih];simp only[Xhn,List.flatMap_cons,List.count_append];omega
 rw[this,jJ];rfl
noncomputable def Xbw (l:List Xa) (i:Nat) (x:Xa):Bool:=
 cond (x.1 == 0) false (cond (x.1 == 1) (cond (Xae l i != x.2.1) true (!(Xz l 0).contains (i:Int))) (cond ((i:Int) == 0) (cond (Xae l i != 0) true (!(Xz l 0).contains (i:Int))) (cond (Xae l i != 1) true (!(Xz l 0).contains (i:Int)))))
noncomputable def Xai (l:List Xa):Bool:=(List.range l.length).any fun i=>Xbw l i (l.getD i Xc)
theorem Xev {α ρ:Type} (l:List α) (d:α) {f:Int→Option (Int⊕(ρ⊕Unit))} (p:Nat→α→Bool) (r:ρ)
  (hs:∀ (i:Nat) (h:i<l.length),f (i:Int)=cond (p i l[i]) (some (.inr (.inl r))) (some (.inl ((i+1:Nat):Int)))) (he:f (l.length:Int)=some (.inr (.inr ()))) :
  Yap f 0=some (cond ((List.range l.length).any fun i=>p i (l.getD i d)) (.inl r) (.inr ())):=by
 refine Yue (List.range l.length) (fun i=>p i (l.getD i d)) r (fun i hi=>?_) (by rw[kJ];exact he)
 have hi':i<l.length:=by simpa using hi
 rw[hs i hi',kA,getD_lt _ hi']
theorem Xj5 (f:Fs_) (h:Xaa f):Xeg f=some (!Xai f.1):=by
 have hn:=(Xb7.of h.inod).len;have h6:∀ x∈f.1,x.2.2.2.2.1.length≤6:=fun x hx=>((Xco.of h.inod).ent x hx).1;have hrl:=Xf0 f.1 0
 have hl:Xfd f (Xz f.1 0) 0=_:=Xev f.1 Xc (Xbw f.1) false (fun i hi=>by
  simp only[Xfd.B,Yva hi,Yu7 hi,Yus,toNat_cast,getD_lt _ hi,Xj3 f.1 h6 hn,Xik _ _ (by omega:(Xz f.1 0).length≤2147483648),jA,Yup (by omega:i<4294967296),Xbw]
  cases (f.1[i].1 == 0)
  ·simp only[Yur]
   cases (f.1[i].1 == 1)
   ·simp only[Yur]
    cases ((i:Int) == 0)
    ·simp only[Yur]
     cases (Xae f.1 (i:Int) != 1)
     ·simp only[Yur]
     ·rfl
    ·simp only[Yus]
     cases (Xae f.1 (i:Int) != 0)
     ·simp only[Yur]
     ·rfl
   ·simp only[Yus]
    cases (Xae f.1 (i:Int) != f.1[i].2.1)
    ·simp only[Yur]
    ·rfl
  ·rfl) (by simp only[Xfd.B,Yu5 (jB _),Yur])
 simp only[Xeg,Xj0 f h.Xim hn h.pos,jA,hl,Xai]
 cases (List.range f.1.length).any fun i=>Xbw f.1 i (f.1.getD i Xc)<;>rfl
theorem Xj6 (f:Fs_) (h:Xaa f):Xa6 f=some (cond (Xai f.1) 1 0):=by
 have hn:=(Xb7.of h.inod).len;have h6:∀ x∈f.1,x.2.2.2.2.1.length≤6:=fun x hx=>((Xco.of h.inod).ent x hx).1;have hrl:=Xf0 f.1 0
 have hl:Xb2 f f.1 (f.1.length:Int) (Xz f.1 0) 0=_:=Xev f.1 Xc (Xbw f.1) (1:Int) (fun i hi=>by
  have hk:=(Xac ((X0 h.inod).2 _ (jE hi))).1
  simp only[Xb2.B,Yva hi,Yu7 hi,Yus,toNat_cast,getD_lt _ hi,Xj4 f.1 h6 hn,Xh3 _ _ (by omega:(Xz f.1 0).length≤2147483648),jA,Yup (by omega:i<4294967296),Xbw]
  generalize hx:f.1[i]=x at hk
  by_cases e0:x.1=0
  ·rw[show(x.1 == 0)=true by simp[e0],show(x.1 == 1)=false by simp[e0],show(x.1 == 2)=false by simp[e0],show(x.1 != 0)=false by simp[e0]];rfl
  ·by_cases e1:x.1=1
   ·rw[show(x.1 == 0)=false by simp[e0],show(x.1 == 1)=true by simp[e1],show(x.1 == 2)=false by simp[e1],show(x.1 != 0)=true by simp[e0],show(x.2.1 != Xae f.1 (i:Int))=(Xae f.1 (i:Int) != x.2.1) by rw[bne,bne,Bool.beq_comm]]
    simp only[Yus,Yur]
    cases (Xae f.1 (i:Int) != x.2.1)<;>rfl
   ·have e2:x.1=2:=by omega
    rw[show(x.1 == 0)=false by simp[e0],show(x.1 == 1)=false by simp[e1],show(x.1 == 2)=true by simp[e2],show(x.1 != 0)=true by simp[e0]]
    simp only[Yus,Yur]
    cases i with
    |zero=>
     rw[show(((0:Nat):Int) == 0)=true from rfl,show decide (((0:Nat):Int)>0)=false from rfl];simp only[Yus,Yur]
     cases (Xae f.1 ((0:Nat):Int) != 0)<;>rfl
    |succ j=>
     rw[show(((j+1:Nat):Int) == 0)=false by simp;omega,show decide (((j+1:Nat):Int)>0)=true by simp]
     simp only[Yus,Yur]
     cases (Xae f.1 ((j+1:Nat):Int) != 1)<;>rfl) (by simp only[Xb2.B,Yu5 (jB _),Yur])
 have hr:Xcp f.1 0=some (Xz f.1 0):=Xj2 h.Xim hn 0 h.pos;simp only[Xa6,hr,jA,hl,Xai]
 cases (List.range f.1.length).any fun i=>Xbw f.1 i (f.1.getD i Xc)<;>rfl
def Xhi (a b:Int):Int:=cond (decide (a<b)) a b
theorem Xj7 (a b:Int):Xgs a b=some (Xhi a b):=by simp only[Xgs,Xhi,Ytz]
theorem Xia (a b:Int):cond (decide (a<b)) a b=Xhi b a:=by
 unfold Xhi
 by_cases h1:a<b
 ·rw[show decide (a<b)=true by simp[h1],show decide (b<a)=false by simp;omega];rfl
 ·by_cases h2:b<a
  ·rw[show decide (a<b)=false by simp;omega,show decide (b<a)=true by simp[h2]];rfl
  ·have:a=b:=by omega
   subst this;simp
def Xch (x:Xa):Nat→List Int→List Int→List Int
 |_,[],w=>w
 |k,b::bs,w=>Xch x (k+1) bs (w.set b.toNat (Xhi 8 (w64 (x.2.2.1-w64 ((k:Int)*8)))))
def Xge:List Xa→List Int→List Int
 |[],w=>w
 |x::l,w=>Xge l (Xch x 0 x.2.2.2.1 w)
def Xbu (l:List Xa):List Int:=Xge l (List.replicate 20 0)
theorem Xcl (x:Xa):∀ (bs:List Int) (k:Nat) (w:List Int),(Xch x k bs w).length=w.length
 |[],k,w=>rfl
 |b::bs,k,w=>by simp only[Xch];rw[Xcl x bs];simp
theorem Xgf:∀ (l:List Xa) (w:List Int),(Xge l w).length=w.length
 |[],w=>rfl
 |x::l,w=>by simp only[Xge];rw[Xgf l,Xcl]
theorem Xh1 (l:List Xa):(Xbu l).length=20:=by unfold Xbu;rw[Xgf];simp
theorem Xc1 (x:Xa):∀ (bs:List Int) (k:Nat) (w:List Int),Ybs (fun k b w=>.inl (w.set b.toNat (Xhi 8 (w64 (x.2.2.1-w64 ((k:Int)*8)))))) id k bs w=Xch x k bs w
 |[],k,w=>rfl
 |b::bs,k,w=>by simp only[Ybs,Yux,Xch];exact Xc1 x bs _ _
theorem Xc2:∀ (l:List Xa) (k:Nat) (w:List Int),Ybs (fun _ x w=>.inl (Xch x 0 x.2.2.2.1 w)) id k l w=Xge l w
 |[],k,w=>rfl
 |x::l,k,w=>by simp only[Ybs,Yux,Xge];exact Xc2 l _ _
theorem Xj8 (f:Fs_) (i:Int) (x:Xa) (h4:x.2.2.2.1.length≤4) (hb:∀ b∈x.2.2.2.1,0≤b∧b≤19) (w:List Int) (hw:w.length=20):Xds f i x (0,w)=some (Xch x 0 x.2.2.2.1 w):=by
 have h:=Yl9 (τ:=List Int) x.2.2.2.1 (f:=fun s=>Xds.B f i x s.1 s.2) (fun k w=>((k:Int),w)) (fun k b w=>.inl (w.set b.toNat (Xhi 8 (w64 (x.2.2.1-w64 ((k:Int)*8)))))) id (fun k w=>w.length=20)
  (fun k hk w hw=>by
   have h2:=hb _ (jE hk)
   simp only[Xds.B,Yva hk,Yu7 hk,Yus,toNat_cast,getD_lt _ hk,Xj7,jA,Yup (by omega:k<4294967296),sel]
   rw[show inB (x.2.2.2.1[k]) w.length=true from Ytf h2.1 (by omega)];rfl) (fun k hk w w' hw e=>by cases e;simpa using hw) (fun w hw=>by
   simp only[Xds.B,Yu5 (jB _),Yur,id]) w hw (s:=(0,w)) rfl
 rw[Xc1] at h;exact h
theorem Xj9 (l:List Xa) (v v2:Int) (v3:List Int) (x:Xa) (h4:x.2.2.2.1.length≤4) (hb:∀ b∈x.2.2.2.1,0≤b∧b≤19) (w:List Int) (hw:w.length=20):Xaw l v v2 x.2.2.2.1 (x.2.2.2.1.length:Int) v3 x (0,w)=some (Xch x 0 x.2.2.2.1 w):=by
 have h:=Yl9 (τ:=List Int) x.2.2.2.1 (f:=fun s=>Xaw.B l v v2 x.2.2.2.1 (x.2.2.2.1.length:Int) v3 x s.1 s.2) (fun k w=>((k:Int),w)) (fun k b w=>.inl (w.set b.toNat (Xhi 8 (w64 (x.2.2.1-w64 ((k:Int)*8)))))) id (fun k w=>w.length=20)
  (fun k hk w hw=>by
   have h2:=hb _ (jE hk)
   simp only[Xaw.B,Yva hk,Yu7 hk,Yus,toNat_cast,getD_lt _ hk,Xia,jA,Yup (by omega:k<4294967296),sel]
   rw[show inB (x.2.2.2.1[k]) 20=true from Ytf h2.1 (by omega)];rfl) (fun k hk w w' hw e=>by cases e;simpa using hw) (fun w hw=>by
   simp only[Xaw.B,Yu5 (jB _),Yur,id]) w hw (s:=(0,w)) rfl
 rw[Xc1] at h;exact h
theorem Xka (l:List Xa) (hok:Xb7 l):Xc6 l=some (Xbu l):=by
 have hl:=hok.len
 have h:=Yl9 (τ:=List Int) l (f:=fun s=>Xa7.B l (l.length:Int) (List.replicate 20 0) s.1 s.2) (fun k w=>((k:Int),w)) (fun _ x w=>.inl (Xch x 0 x.2.2.2.1 w)) id (fun k w=>w.length=20)
  (fun k hk w hw=>by
   have h2:=hok.blk _ (jE hk)
   simp only[Xa7.B,Yva hk,Yu7 hk,Yus,toNat_cast,getD_lt _ hk,jA,Xj9 l _ _ _ _ h2.1 h2.2 w hw,Yup (by omega:k<4294967296),sel]) (fun k hk w w' hw e=>by cases e;rw[Xcl];exact hw) (fun w hw=>by
   simp only[Xa7.B,Yu5 (jB _),Yur,id]) (List.replicate 20 0) (by simp) (s:=(0,List.replicate 20 0)) rfl
 rw[Xc2] at h;have h':Xa7 l (l.length:Int) (List.replicate 20 0) (0,List.replicate 20 0)=some (Xbu l):=h;simp only[Xc6,h',jA]
def Xaj (f:Fs_):Bool:=(List.range 20).any fun i=>((f.2.1.getD i []).length:Int) != (Xbu f.1).getD i 0
theorem Xkb (f:Fs_) (h:Xaa f):Xcd f=some (!Xaj f):=by
 have hok:=Xb7.of h.inod;have hl:=hok.len;have hd:=h.dat
 have h1:=Yl9 (τ:=List Int) f.1 (f:=fun s=>Xeh.B f s.1 s.2) (fun k w=>((k:Int),w)) (fun _ x w=>.inl (Xch x 0 x.2.2.2.1 w)) id (fun k w=>w.length=20)
  (fun k hk w hw=>by
   have h2:=hok.blk _ (jE hk)
   simp only[Xeh.B,Yva hk,Yu7 hk,Yus,toNat_cast,getD_lt _ hk,jA,Xj8 f _ _ h2.1 h2.2 w hw,Yup (by omega:k<4294967296),sel]) (fun k hk w w' hw e=>by cases e;rw[Xcl];exact hw) (fun w hw=>by
   simp only[Xeh.B,Yu5 (jB _),Yur,id]) (List.replicate 20 0) (by simp) (s:=(0,List.replicate 20 0)) rfl
 rw[Xc2] at h1;have h1':Xeh f (0,List.replicate 20 0)=some (Xbu f.1):=h1;have hwl:=Xh1 f.1
 have h2:Xfe f (Xbu f.1) 0=_:=Xev f.2.1 [] (fun i b=>(b.length:Int) != (Xbu f.1).getD i 0) false (fun i hi=>by
  simp only[Xfe.B,Yva hi,Yu7 hi,Yu7 (by omega:i<(Xbu f.1).length),Yus,toNat_cast,getD_lt _ hi,jA,Yup (by omega:i<4294967296)]) (by
  simp only[Xfe.B,Yu5 (jB _),Yur])
 simp only[Xcd];rw[show(decide ((0:Int)≤(20:Int))&&(decide ((20:Int)≤(20:Int))&&decide ((20:Int)≤2147483648)))=true from rfl,show(20:Int).toNat=20 from rfl];simp only[Yus,h1',jA,h2,Xaj,hd]
 cases (List.range 20).any fun i=>((f.2.1.getD i []).length:Int) != (Xbu f.1).getD i 0<;>rfl
theorem Xkc (f:Fs_) (h:Xaa f):Xa8 f=some (cond (Xaj f) 1 0):=by
 have hok:=Xb7.of h.inod;have hd:=h.dat
 have h2:Xca f (Xbu f.1) 0=_:=Yue (List.range 20) (fun i=>((f.2.1.getD i []).length:Int) != (Xbu f.1).getD i 0) (1:Int) (fun i hi=>by
  have hi':i<20:=by simpa using hi
  simp only[Xca.B,show decide ((i:Int)<20)=true by simp;omega,Yu7 hi',Yu7 (by omega:i<f.2.1.length),Yus,toNat_cast,Xe0,jA,Yup (by omega:i<4294967296),kA]) (by
  rw[kJ];rfl)
 simp only[Xa8,Xka f.1 hok,jA,h2,Xaj]
 cases (List.range 20).any fun i=>((f.2.1.getD i []).length:Int) != (Xbu f.1).getD i 0<;>rfl
noncomputable def fsF (f:Fs_):Int:=cond (Xbt f != 0) (Xbt f) (cond (Xai f.1) 1 (cond (Xaj f) 1 0))
theorem Xh5 (f:Fs_) (hb:Bd Xp f):Xff f=some (fsF f):=by
 simp only[Xff,fsF,Xju f hb,jA]
 cases h:(Xbt f != 0) with
 |true=>simp only[Yus]
 |false=>
  have ht:=Xaa.of (by simpa using h:Xbt f=0)
  simp only[Yur,Xj5 f ht,Xkb f ht,jA,Bool.not_not,Ytz]
theorem Xil (f:Fs_) (hb:Bd Xp f):Xc7 f=some (fsF f):=by
 simp only[Xc7,fsF,Xjx f hb,jA]
 cases h:(Xbt f != 0) with
 |true=>simp only[Yus]
 |false=>
  have ht:=Xaa.of (by simpa using h:Xbt f=0)
  simp only[Yur,Xj6 f ht,Xkc f ht,jA]
  cases Xai f.1<;>cases Xaj f<;>rfl
structure Xh2 (f:Fs_):Prop where
 tree:Xaa f
 lnk:Xai f.1=false
 siz:Xaj f=false
theorem Xh2.of {f:Fs_} (h:fsF f=0):Xh2 f:=by
 unfold fsF at h
 cases h0:(Xbt f != 0) with
 |true=>rw[h0] at h;exact absurd h (by simpa using h0)
 |false=>
  rw[h0] at h
  cases h1:Xai f.1 with
  |true=>rw[h1] at h;cases h
  |false=>
   rw[h1] at h
   cases h2:Xaj f with
   |true=>rw[h2] at h;cases h
   |false=>exact⟨Xaa.of (by simpa using h0),h1,h2⟩
def Xab (c:UInt8):List UInt8→List UInt8→List (List UInt8)
 |acc,[]=>[acc]
 |acc,b::l=>match b == c with
  |true=>acc::Xab c [] l
  |false=>Xab c (acc++[b]) l
theorem Xhd (c:UInt8):∀ (l acc:List UInt8),(Xab c acc l).length=l.count c+1:=by
 intro l
 induction l with
 |nil=>intro acc;rfl
 |cons b l ih=>
  intro acc;simp only[Xab]
  cases h:b == c with
  |true=>simp only[jH,ih,List.count_cons,h,if_true]
  |false=>simp[ih,List.count_cons,h]
theorem Xdu (c:UInt8):∀ (m l acc:List UInt8),(∀ x∈m,(x == c)=false)→Xab c acc (m++l)=Xab c (acc++m) l:=by
 intro m
 induction m with
 |nil=>intro l acc h;simp
 |cons b m ih=>
  intro l acc h;simp only[jQ,Xab,h b (jF),ih _ _ (fun x hx=>h x (jG _ hx)),kO,jO]
theorem Xgy (c:UInt8) (l acc:List UInt8):Xab c acc (c::l)=acc::Xab c [] l:=by simp[Xab]
theorem Xdv (c:UInt8):∀ (l:List UInt8),(Go.Lib.indexByte l c = -1∧l.count c=0∧∀ x∈l,(x == c)=false)∨
  ∃ k:Nat,Go.Lib.indexByte l c=k∧k<l.length∧(∀ x∈l.take k,(x == c)=false)∧l=l.take k++c::l.drop (k+1)∧l.count c=(l.drop (k+1)).count c+1:=by
 intro l
 induction l with
 |nil=>exact .inl ⟨rfl,rfl,fun x hx=>by cases hx⟩
 |cons b l ih=>
  cases h:b == c with
  |true=>
   have e:b=c:=by simpa using h
   subst e
   exact .inr ⟨0,by simp[Go.Lib.indexByte],by simp,by simp,by simp,by simp⟩
  |false=>
   rcases ih with ⟨i1,i2,i3⟩ | ⟨k,i1,i2,i3,i4,i5⟩
   ·refine .inl ⟨by simp[Go.Lib.indexByte,h,i1],by simp[List.count_cons,h,i2],fun x hx=>?_⟩
    rcases List.mem_cons.1 hx with rfl | hx
    ·exact h
    ·exact i3 x hx
   ·refine .inr ⟨k+1,?_,by simpa using i2,fun x hx=>?_,?_,?_⟩
    ·have:¬ ((k:Int) = -1):=by omega
     simp[Go.Lib.indexByte,h,i1,this]
    ·rw[List.take_succ_cons] at hx
     rcases List.mem_cons.1 hx with rfl | hx
     ·exact h
     ·exact i3 x hx
    ·rw[List.take_succ_cons,List.drop_succ_cons,jQ,←i4]
    ·rw[List.drop_succ_cons,List.count_cons,h,i5];simp
theorem Xkd (l:List UInt8) (c:UInt8) (hl:l.length≤1048576):Xf4 l (c.toNat:Int)=some (Xab c [] l):=by
 have fin:∀ (fr:Int) (out:List (List UInt8)),Xcv l (c.toNat:Int) (fr,((l.length+1:Nat):Int),out)=some out:=fun fr out=>by
  refine Ya2 ?_;simp only[Xcv.B]
  rw[show decide (((l.length+1:Nat):Int)≤(l.length:Int))=false by simp;omega]
  rfl
 have key:∀ (m fr i:Nat) (out:List (List UInt8)),m=l.length-i→fr≤i→i≤l.length→out.length≤fr→
   Xcv l (c.toNat:Int) ((fr:Int),(i:Int),out)=some (out++Xab c ((l.take i).drop fr) (l.drop i)):=by
  intro m
  induction m with
  |zero=>
   intro fr i out hm h1 h2 h3
   have hi:i=l.length:=by omega
   subst hi;refine(Ych (s':=(((l.length+1:Nat):Int),((l.length+1:Nat):Int),out++[(l.take l.length).drop fr])) ?_).trans ?_
   ·simp only[Xcv.B]
    rw[show decide ((l.length:Int)≤(l.length:Int))=true by simp,show((l.length:Int) == (l.length:Int))=true by simp,
     show(decide ((0:Int)≤(l.length:Int))&&true&&(decide ((0:Int)≤(fr:Int))&&decide ((fr:Int)≤(l.length:Int))))=true by simp;omega]
    simp only[Yus,jK,Yur,jA,toNat_cast]
    rw[show decide ((out++[(l.take l.length).drop fr]).length≤2147483648)=true by simp;omega,Yup (by omega)]
    rfl
   ·refine(fin _ _).trans ?_;simp[Xab]
  |succ m ih=>
   intro fr i out hm h1 h2 h3
   have hlt:i<l.length:=by omega
   have hd:l.drop i=l[i]::l.drop (i+1):=kZ hlt
   have hg:((l.getD (i:Int).toNat 0).toNat:Int)=(l[i].toNat:Int):=by simp[List.getD,hlt]
   have hb:inB (i:Int) l.length=true:=Ytf (by omega) (by omega)
   have q1:decide ((i:Int)≤(l.length:Int))=true:=by simp;omega
   have q2:((i:Int) == (l.length:Int))=false:=by simp;omega
   cases hc:l[i] == c with
   |true=>
    have e:l[i]=c:=by simpa using hc
    refine(Ych (s':=(((i+1:Nat):Int),((i+1:Nat):Int),out++[(l.take i).drop fr])) ?_).trans ?_
    ·simp only[Xcv.B]
     rw[q1,q2,hb,hg,e,show((c.toNat:Int) == (c.toNat:Int))=true by simp,
      show(decide ((0:Int)≤(i:Int))&&true&&(decide ((0:Int)≤(fr:Int))&&decide ((fr:Int)≤(i:Int))))=true by simp;omega]
     simp only[Yus,kQ,Yur,jA,toNat_cast]
     rw[show decide ((out++[(l.take i).drop fr]).length≤2147483648)=true by simp;omega,Yup (by omega)]
     rfl
    ·refine(ih (i+1) (i+1) _ (by omega) (jB _) (by omega) (by simp;omega)).trans ?_
     rw[hd,e,Xgy]
     simp
   |false=>
    have ne:¬ l[i].toNat=c.toNat:=fun e=>by
     have:l[i]=c:=UInt8.toNat_inj.1 e;simp[this] at hc
    refine(Ych (s':=((fr:Int),((i+1:Nat):Int),out)) ?_).trans ?_
    ·simp only[Xcv.B]
     rw[q1,q2,hb,hg,show((l[i].toNat:Int) == (c.toNat:Int))=false by simp;omega]
     simp only[Yus,kQ,Yur,jA,toNat_cast]
     rw[Yup (by omega)]
    ·refine(ih fr (i+1) _ (by omega) (by omega) (by omega) h3).trans ?_
     rw[hd];simp only[Xab,hc]
     congr 2
     rw[List.take_succ_eq_append_getElem hlt,List.drop_append_of_le_length (by simp;omega)]
 simp only[Xf4]
 rw[show((0:Int),(0:Int),([]:List (List UInt8)))=(((0:Nat):Int),((0:Nat):Int),[]) from rfl,key l.length 0 0 [] (by omega) (jB _) (kE _) (jB _)]
 rfl
theorem Xke (l:List UInt8) (c:UInt8):Xdc l [c]=some (Go.Lib.indexByte l c):=by
 have h1:Xk l ((([c]:List UInt8).getD (0:Int).toNat 0).toNat:Int)=some (Go.Lib.indexByte l c):=by
  show some (Go.Lib.indexByte l (c.toNat:Int).toNat.toUInt8)=_
  congr 2
  simp
 simp only[Xdc,Xl,jA]
 cases h:([c]:List UInt8) == l with
 |true=>
  have e:[c]=l:=by simpa using h
  subst e
  simp[Go.Lib.indexByte]
 |false=>
  rw[h1];simp[inB]
theorem Xkf (l:List UInt8) (c:UInt8) (hl:l.length≤1048576):Xdd l [c]=some (Xab c [] l):=by
 have hcl:l.count c≤l.length:=List.count_le_length
 have key:∀ (m:Nat) (s:List UInt8) (i:Nat) (dn:List (List UInt8)),m=s.count c→i+m=l.count c→dn.length=i→dn++Xab c [] s=Xab c [] l→s.length≤l.length→
   ∃ s' dn',Xba [c] 0 (l.count c:Int) (s,(i:Int),dn++List.replicate (m+1) [])=some (s',(l.count c:Int),dn'++[([]:List UInt8)])∧dn'.length=l.count c∧dn'++[s']=Xab c [] l:=by
  intro m
  induction m with
  |zero=>
   intro s i dn hm hi hd hc hs
   refine⟨s,dn,Ya2 ?_,by omega,?_⟩
   ·simp only[Xba.B]
    rw[show decide ((i:Int)<(l.count c:Int))=false by simp;omega]
    have:(i:Int)=(l.count c:Int):=by omega
    simp[this]
   ·rw[←hc]
    rcases Xdv c s with ⟨_,_,q⟩ | ⟨k,_,_,_,_,q⟩
    ·have:=Xdu c s [] [] q
     simp only[qC,jO] at this;rw[this];rfl
    ·omega
  |succ m ih=>
   intro s i dn hm hi hd hc hs;rcases Xdv c s with ⟨_,q,_⟩ | ⟨k,k1,k2,k3,k4,k5⟩
   ·omega
   ·obtain⟨s',dn',r1,r2,r3⟩:=ih (s.drop (k+1)) (i+1) (dn++[s.take k]) (by omega) (by omega) (by simp;omega)
     (by
      rw[←hc,kO]
      congr 1
      conv=>rhs;rw[k4]
      rw[Xdu c _ _ _ k3,Xgy]
      simp) (by simp;omega)
    refine⟨s',dn',(Ych ?_).trans r1,r2,r3⟩;have hcl2:=hcl;simp only[Xba.B,Xke,jA,k1]
    have e0:w64 ((k:Int)+0)=(k:Int):=Ytt (by omega) (by omega)
    have e1:w64 ((k:Int)+(([c]:List UInt8).length:Int))=((k+1:Nat):Int):=by
     rw[show((k:Int)+(([c]:List UInt8).length:Int))=((k+1:Nat):Int) by simp]
     exact Ytt (by omega) (by omega)
    rw[show decide ((i:Int)<(l.count c:Int))=true by simp;omega,show decide ((k:Int)<0)=false by simp,e0,e1,
     show(decide ((0:Int)≤(k:Int))&&decide ((k:Int)≤(s.length:Int)))=true by simp;omega,
     show inB (i:Int) (dn++List.replicate (m+1+1) ([]:List UInt8)).length=true from Ytf (by omega) (by simp;omega),
     show(decide ((0:Int)≤((k+1:Nat):Int))&&decide (((k+1:Nat):Int)≤(s.length:Int)))=true by simp;omega,
     Yup (by omega)]
    simp only[Yus,Yur,jA,toNat_cast,List.drop_zero,List.take_length]
    have e2:(dn++List.replicate (m+1+1) ([]:List UInt8)).set i (s.take k)=(dn++[s.take k])++List.replicate (m+1) []:=by
     rw[List.set_append,jM (by omega),hd,Nat.sub_self,List.replicate_succ]
     simp
    rw[e2]
 obtain⟨s',dn',r1,r2,r3⟩:=key (l.count c) l 0 [] rfl (by omega) rfl rfl (jB _)
 have hv:(cond (decide (w64 ((l.length:Int)+1)<w64 ((l.count c:Int)+1))) (w64 ((l.length:Int)+1)) (w64 ((l.count c:Int)+1)))=((l.count c+1:Nat):Int):=by
  rw[show((l.length:Int)+1)=((l.length+1:Nat):Int) by simp,show((l.count c:Int)+1)=((l.count c+1:Nat):Int) by simp,Ytt (x:=((l.length+1:Nat):Int)) (by omega) (by omega),Ytt (x:=((l.count c+1:Nat):Int)) (by omega) (by omega)]
  rw[show decide (((l.length+1:Nat):Int)<((l.count c+1:Nat):Int))=false by simp;omega]
  rfl
 simp only[Xdd,Xb3,Xfq,countP,jA]
 rw[hv,show w64 (((l.count c+1:Nat):Int)-1)=(l.count c:Int) by rw[Ytt (by omega) (by omega)];omega]
 rw[show((-1:Int) == 0)=false by rfl,show(([c]:List UInt8) == [])=false by rfl,show decide ((-1:Int)<0)=true by rfl,
  show(decide ((0:Int)≤((l.count c+1:Nat):Int))&&(decide (((l.count c+1:Nat):Int)≤((l.count c+1:Nat):Int))&&decide (((l.count c+1:Nat):Int)≤2147483648)))=true by simp;omega]
 simp only[Yus,Yur,toNat_cast];simp only[jO] at r1;rw[show((0:Int))=((0:Nat):Int) from rfl] at *;rw[r1];simp only[jA,toNat_cast]
 rw[show inB (l.count c:Int) (dn'++[([]:List UInt8)]).length=true from Ytf (by omega) (by simp;omega),Yup (by omega)]
 have e2:(dn'++[([]:List UInt8)]).set (l.count c) s'=Xab c [] l:=by
  rw[List.set_append,jM (by omega),r2,Nat.sub_self,←r3];rfl
 have e3:(Xab c [] l).length=l.count c+1:=Xhd c l []
 rw[e2,e3,show(decide (((0:Nat):Int)≤((l.count c+1:Nat):Int))&&decide (((l.count c+1:Nat):Int)≤((l.count c+1:Nat):Int)))=true by simp;omega]
 simp only[Yus,jA,toNat_cast,List.drop_zero,Nat.sub_zero];rw[←e3,List.take_length]
def Xg (l:List Xa) (a:Int):List Xf:=(l.getD a.toNat Xc).2.2.2.2.1
def Xq (ns:List (List UInt8)):List UInt8:=(ns.map fun n=>47::n).flatten
def Xt (l:List Xa):Nat→Int→List (List UInt8)→List (List UInt8)
 |0,_,_=>[]
 |d+1,a,ns=>(Xg l a).flatMap fun e=>Xq (ns++[e.1])::Xt l d e.2.1 (ns++[e.1])
def Xy:Nat→Nat
 |0=>0
 |d+1=>6*(1+Xy d)
structure Xa1 (l:List Xa):Prop where
 len:l.length≤10
 pos:0<l.length
 six:∀ x∈l,x.2.2.2.2.1.length≤6
 fil:∀ x∈l,x.1≠2→x.2.2.2.2.1=[]
 nam:∀ x∈l,∀ e∈x.2.2.2.2.1,Xu e.1=0
 ent:∀ x∈l,∀ e∈x.2.2.2.2.1,0≤e.2.1∧e.2.1<(l.length:Int)
theorem Xa1.of {f:Fs_} (h:Xaa f):Xa1 f.1 where
 len:=(Xb7.of h.inod).len
 pos:=h.pos
 six:=fun x hx=>(Xac ((X0 h.inod).2 x hx)).2.1
 fil:=fun x hx=>(Xac ((X0 h.inod).2 x hx)).2.2.1
 nam:=fun x hx e he=>((Xac ((X0 h.inod).2 x hx)).2.2.2.2.2 e he).1
 ent:=fun x hx e he=>⟨(h.ent x hx e he).1,(h.ent x hx e he).2.1⟩
theorem getD_in {l:List Xa} {a:Int} (h0:0≤a) (h1:a<(l.length:Int)):l.getD a.toNat Xc∈l:=by
 have h:a.toNat<l.length:=by omega
 rw[getD_lt _ h];exact jE h
theorem Xa1.at_ {l:List Xa} (h:Xa1 l) {a:Int} (h0:0≤a) (h1:a<(l.length:Int)) :
  (Xg l a).length≤6∧((l.getD a.toNat Xc).1≠2→Xg l a=[])∧∀ e∈Xg l a,Xu e.1=0∧0≤e.2.1∧e.2.1<(l.length:Int):=
 have hm:=getD_in h0 h1
 ⟨h.six _ hm,h.fil _ hm,fun e he=>⟨h.nam _ hm e he,(h.ent _ hm e he).1,(h.ent _ hm e he).2⟩⟩
theorem Xhg {α β:Type} (g:α→List β) (k:Nat):∀ l:List α,(∀ x∈l,(g x).length≤k)→(l.flatMap g).length≤l.length*k:=by
 intro l
 induction l with
 |nil=>intro _;simp
 |cons x l ih=>
  intro h;have h1:=h x (jF ..);have h2:=ih fun y hy=>h y (jG _ hy);simp only[List.flatMap_cons,jP,jH,jY,Nat.one_mul];omega
theorem Xcx {l:List Xa} (h:Xa1 l):∀ (d:Nat) (a:Int) (ns:List (List UInt8)),0≤a→a<(l.length:Int)→(Xt l d a ns).length≤Xy d:=by
 intro d
 induction d with
 |zero=>intro a ns _ _;exact jB _
 |succ d ih=>
  intro a ns h0 h1;obtain⟨q1,-,q3⟩:=h.at_ h0 h1;simp only[Xt,Xy];refine jU (Xhg _ (1+Xy d) _ fun e he=>?_) (jR _ q1);have:=ih e.2.1 (ns++[e.1]) (q3 e he).2.1 (q3 e he).2.2;simp only[jH];omega
theorem Xga (a b:List (List UInt8)):Xq (a++b)=Xq a++Xq b:=by simp[Xq]
theorem Xgb (n:List UInt8):Xq [n]=47::n:=by simp[Xq]
theorem Xad (n:List UInt8) (r:List (List UInt8)):Xq (n::r)=47::(n++Xq r):=by simp[Xq]
theorem Xho {l:List Xa} (h:Xa1 l):∀ (d:Nat) (a:Int) (ns:List (List UInt8)),0≤a→a<(l.length:Int)→(∀ n∈ns,Xu n=0)→
  ∀ p∈Xt l d a ns,∃ ms:List (List UInt8),p=Xq ms∧ms≠[]∧ms.length≤ns.length+d∧∀ n∈ms,Xu n=0:=by
 intro d
 induction d with
 |zero=>intro a ns _ _ _ p hp;cases hp
 |succ d ih=>
  intro a ns h0 h1 hn p hp;obtain⟨-,-,q3⟩:=h.at_ h0 h1;simp only[Xt] at hp;obtain⟨e,he,hp⟩:=List.mem_flatMap.1 hp
  have hn':∀ n∈ns++[e.1],Xu n=0:=fun n hm=>by
   rcases List.mem_append.1 hm with hm | hm
   ·exact hn n hm
   ·rw[List.mem_singleton.1 hm];exact(q3 e he).1
  rcases List.mem_cons.1 hp with rfl | hp
  ·exact⟨ns++[e.1],rfl,by simp,by simp only[jP,jH,kD];omega,hn'⟩
  ·obtain⟨ms,r1,r2,r3,r4⟩:=ih e.2.1 (ns++[e.1]) (q3 e he).2.1 (q3 e he).2.2 hn' p hp
   exact⟨ms,r1,r2,by simp only[jP,jH,kD] at r3;omega,r4⟩
theorem Xew {n:List UInt8} (h:Xu n=0):∀ x∈n,(x == 47)=false:=fun x hx=>by
 have h1:=(Xbr h).2.2
 cases e:x == 47 with
 |false=>rfl
 |true=>
  have:x=47:=by simpa using e
  subst this
  have:n.any Xf5=true:=List.any_eq_true.2 ⟨47,hx,by decide⟩
  rw[h1] at this;cases this
theorem Xhy:∀ (r:List (List UInt8)) (acc:List UInt8),(∀ n∈r,Xu n=0)→Xab 47 acc (Xq r)=acc::r:=by
 intro r
 induction r with
 |nil=>intro acc _;rfl
 |cons m r ih=>
  intro acc h;rw[Xad,Xgy,Xdu 47 m _ _ (Xew (h m (jF ..))),jO,ih _ fun n hn=>h n (jG _ hn)]
theorem Xhe {ms:List (List UInt8)} (h0:ms≠[]) (h:∀ n∈ms,Xu n=0):Xab 47 [] ((Xq ms).drop 1)=ms:=by
 cases ms with
 |nil=>exact absurd rfl h0
 |cons m r=>
  rw[Xad,List.drop_succ_cons,List.drop_zero,Xdu 47 m _ _ (Xew (h m (jF ..))),jO,Xhy r m fun n hn=>h n (jG _ hn)]
theorem Xbq:∀ {ms:List (List UInt8)},(∀ n∈ms,Xu n=0)→(Xq ms).length≤5*ms.length:=by
 intro ms
 induction ms with
 |nil=>intro _;simp[Xq]
 |cons m r ih=>
  intro h;have h1:=(Xbr (h m (jF ..))).2.1;have h2:=ih fun n hn=>h n (jG _ hn);rw[Xad];simp only[jH,jP];omega
theorem Xfw {α ρ:Type} (p:α→Bool) (g:α→ρ) (e:ρ):∀ (l:List α) (i:Nat),(∀ x∈l,p x=false)→Ybs (τ:=Unit) (fun _ x _=>cond (p x) (.inr (g x)) (.inl ())) (fun _=>e) i l ()=e
 |[],i,_=>rfl
 |x::l,i,h=>by
  simp only[Ybs,h x (jF ..),cond_false,sel];exact Xfw p g e l (i+1) fun y hy=>h y (jG _ hy)
theorem Xf9 {α ρ:Type} (p:α→Bool) (g:α→ρ):∀ (l:List α) (i:Nat),Ybs (τ:=Unit) (fun _ x _=>cond (p x) (.inr (.inl (g x))) (.inl ())) (fun _=>(.inr ():ρ⊕Unit)) i l ()=(match l.find? p with | some x=>.inl (g x) | none=>.inr ())
 |[],i=>rfl
 |x::l,i=>by
  simp only[Ybs,List.find?_cons]
  cases h:p x with
  |true=>rfl
  |false=>simp only[cond_false,sel];exact Xf9 p g l (i+1)
theorem Xfx {α ρ:Type} (l:List α) {f:Int→Option (Int⊕(ρ⊕Unit))} (p:α→Bool) (g:α→ρ)
  (hs:∀ (i:Nat) (h:i<l.length),f (i:Int)=cond (p l[i]) (some (.inr (.inl (g l[i])))) (some (.inl ((i+1:Nat):Int)))) (he:f (l.length:Int)=some (.inr (.inr ()))) :
  Yap f 0=some (match l.find? p with | some x=>.inl (g x) | none=>.inr ()):=by
 have h:=Yii (τ:=Unit) l (fun i _=>(i:Int)) (fun _ x _=>cond (p x) (.inr (.inl (g x))) (.inl ())) (fun _=>(.inr ():ρ⊕Unit)) (fun i hi t=>by rw[hs i hi];cases (p l[i])<;>rfl) (fun t=>he) () (s:=0) rfl
 rw[h,Xf9]
def Xas (es:List Xf) (n:List UInt8):Int:=match es.find? (fun e=>e.1 == n) with | some e=>e.2.1 | none=>-1
theorem Xhh {α:Type} (p:α→Bool) (d:α):∀ (l:List α) (i:Nat),(match Yni p i l with | some j=>(l.find? p=some (l.getD (j-i) d)∧i≤j∧j-i<l.length) | none=>l.find? p=none)
 |[],i=>rfl
 |x::l,i=>by
  simp only[Yni,List.find?_cons]
  cases h:p x with
  |true=>simp
  |false=>
   simp only[cond_false];have ih:=Xhh p d l (i+1)
   cases hj:Yni p (i+1) l with
   |none=>rw[hj] at ih;exact ih
   |some j=>
    rw[hj] at ih;obtain⟨h1,h2,h3⟩:=ih
    have e:j-i=(j-(i+1))+1:=by omega
    refine⟨?_,by omega,by simp only[jH];omega⟩
    rw[h1,e];simp[List.getD]
theorem Xkg (f:Fs_) (a:Int) (n:List UInt8) (h0:0≤a) (h1:a<(f.1.length:Int)) (hl:(Xg f.1 a).length≤6):Xde f a n=some (Xas (Xg f.1 a) n):=by
 have h:Xb4 n (Xg f.1 a) ((Xg f.1 a).length:Int) 0=_:=Xfx (Xg f.1 a) (fun e=>e.1 == n) (fun e=>e.2.1) (fun i hi=>by
  simp only[Xb4.B,Yva hi,Yu7 hi,Yus,toNat_cast,getD_lt _ hi,Yup (by omega:i<4294967296)]) (by
  simp only[Xb4.B,Yu5 (jB _),Yur])
 simp only[Xde,Ytf h0 h1,Yus,jA];unfold Xas
 exact(congrArg (fun o=>Option.bind o fun o=>sel o (fun b=>some b) (fun c=>some (-1))) h).trans (by cases (Xg f.1 a).find? (fun e=>e.1 == n)<;>rfl)
theorem Xkh (es:List Xf) (n:List UInt8) (hl:es.length≤6):Xgu es n=some (match Yni (fun e=>e.1 == n) 0 es with | some j=>(j:Int) | none=>-1):=by
 have h:Xfg es n 0=_:=Yuf es (fun e=>e.1 == n) (fun i hi=>by
  simp only[Xfg.B,Yva hi,Yu7 hi,Yus,toNat_cast,getD_lt _ hi,Yup (by omega:i<4294967296)]) (by
  simp only[Xfg.B,Yu5 (jB _),Yur]) 0 (kE _)
 simp only[Xgu];rw[h,List.drop_zero]
 cases Yni (fun e=>e.1 == n) 0 es<;>rfl
def Xcs (l:List Xa):List (List UInt8)→Int→Int×Int
 |[],a=>(a,0)
 |n::ns,a=>cond ((l.getD a.toNat Xc).1 != 2) (0,9) (cond (decide (Xas (Xg l a) n<0)) (0,4) (Xcs l ns (Xas (Xg l a) n)))
theorem Xh9 {l:List Xa} (h:Xa1 l) {a:Int} (h0:0≤a) (h1:a<(l.length:Int)) (n:List UInt8) (hn:decide (Xas (Xg l a) n<0)=false):0≤Xas (Xg l a) n∧Xas (Xg l a) n<(l.length:Int):=by
 unfold Xas at *
 cases hf:(Xg l a).find? (fun e=>e.1 == n) with
 |none=>rw[hf] at hn;simp at hn
 |some e=>exact((h.at_ h0 h1).2.2 e (List.mem_of_find?_eq_some hf)).2
def Xct (l:List Xa) (n:List UInt8) (a:Int):Int⊕((Int×Int)⊕Int):=cond ((l.getD a.toNat Xc).1 != 2) (.inr (.inl (0,9))) (cond (decide (Xas (Xg l a) n<0)) (.inr (.inl (0,4))) (.inl (Xas (Xg l a) n)))
theorem Xex (l:List Xa):∀ (ns:List (List UInt8)) (i:Nat) (a:Int),sel (Ybs (τ:=Int) (fun _ n a=>Xct l n a) (fun a=>(.inr a:(Int×Int)⊕Int)) i ns a) (fun b=>b) (fun c=>(c,0))=Xcs l ns a
 |[],i,a=>rfl
 |n::ns,i,a=>by
  simp only[Ybs,Xcs,Xct]
  cases h1:((l.getD a.toNat Xc).1 != 2) with
  |true=>rfl
  |false=>
   cases h2:decide (Xas (Xg l a) n<0) with
   |true=>rfl
   |false=>simp only[cond_false,sel];exact Xex l ns (i+1) _
theorem Xhl {l:List Xa} (h:Xa1 l) {a t:Int} {n:List UInt8} (h0:0≤a∧a<(l.length:Int)) (e:Xct l n a=.inl t):0≤t∧t<(l.length:Int):=by
 unfold Xct at e
 cases h1:((l.getD a.toNat Xc).1 != 2) with
 |true=>rw[h1] at e;cases e
 |false=>
  rw[h1] at e
  cases h2:decide (Xas (Xg l a) n<0) with
  |true=>rw[h2] at e;cases e
  |false=>rw[h2] at e;cases e;exact Xh9 h h0.1 h0.2 n h2
theorem Xki (f:Fs_) (h:Xa1 f.1) (ns:List (List UInt8)) (hn:ns.length≤1048577):Xbe f ns=some (Xcs f.1 ns 0):=by
 have hp:=h.pos
 have h1:=Yl9 (τ:=Int) ns (f:=fun s=>Xbd.B f ns (ns.length:Int) s.1 s.2) (fun k a=>(a,(k:Int))) (fun _ n a=>Xct f.1 n a) (fun a=>(.inr a:(Int×Int)⊕Int)) (fun _ a=>0≤a∧a<(f.1.length:Int))
  (fun k hk a ha=>by
   have hq:=h.at_ ha.1 ha.2
   simp only[Xbd.B,Yva hk,Yu7 hk,Yus,toNat_cast,getD_lt _ hk,Ytf ha.1 ha.2,Xkg f a _ ha.1 ha.2 hq.1,jA,Yup (by omega:k<4294967296),Xct]
   cases ((f.1.getD a.toNat Xc).1 != 2)<;>cases decide (Xas (Xg f.1 a) ns[k]<0)<;>rfl)
  (fun k hk a a' ha e=>Xhl h ha e) (fun a ha=>by simp only[Xbd.B,Yu5 (jB _),Yur]) 0 ⟨Int.le_refl _,by omega⟩ (s:=(0,0)) rfl
 have h1':Xbd f ns (ns.length:Int) (0,0)=_:=h1;simp only[Xbe];rw[h1',←Xex f.1 ns 0 0]
 cases Ybs (τ:=Int) (fun _ n a=>Xct f.1 n a) (fun a=>(.inr a:(Int×Int)⊕Int)) 0 ns 0<;>rfl
theorem Xkj (f:Fs_) (h:Xa1 f.1) (ns:List (List UInt8)) (hn:ns.length≤1048577):Xej f ns=some (Xcs f.1 ns 0):=by
 have hp:=h.pos
 have h1:=Yl9 (τ:=Int) ns (f:=fun s=>Xei.B f ns s.1 s.2) (fun k a=>(a,(k:Int))) (fun _ n a=>Xct f.1 n a) (fun a=>(.inr a:(Int×Int)⊕Int)) (fun _ a=>0≤a∧a<(f.1.length:Int))
  (fun k hk a ha=>by
   have hq:=h.at_ ha.1 ha.2;have hx:=Xhh (fun e:Xf=>e.1 == ns[k]) Xo (Xg f.1 a) 0;have e8:=Xkh (Xg f.1 a) ns[k] hq.1;have en:(f.1.getD a.toNat Xc).2.2.2.2.1=Xg f.1 a:=rfl;simp only[Xei.B,Yva hk,Yu7 hk,Yus,toNat_cast,getD_lt _ hk,Ytf ha.1 ha.2,en,e8,jA,Xct,Xas]
   cases hi:Yni (fun e:Xf=>e.1 == ns[k]) 0 (Xg f.1 a) with
   |none=>
    rw[hi] at hx;simp only[hx]
    cases ((f.1.getD a.toNat Xc).1 != 2)<;>rfl
   |some j=>
    rw[hi] at hx;obtain⟨x1,x2,x3⟩:=hx
    have hm:(Xg f.1 a).getD j Xo∈Xg f.1 a:=by rw[getD_lt _ (by omega:j<(Xg f.1 a).length)];exact jE _
    have hs:=(hq.2.2 _ hm).2.1;rw[Nat.sub_zero] at x1
    simp only[x1,show decide ((j:Int)<0)=false by simp,show decide (((Xg f.1 a).getD j Xo).2.1<0)=false from qA (by omega),Yur,toNat_cast,Yu7 (by omega:j<(Xg f.1 a).length),Yus,jA,Yup (by omega:k<4294967296)]
    cases ((f.1.getD a.toNat Xc).1 != 2)<;>rfl)
  (fun k hk a a' ha e=>Xhl h ha e) (fun a ha=>by simp only[Xei.B,Yu5 (jB _),Yur]) 0 ⟨Int.le_refl _,by omega⟩ (s:=(0,0)) rfl
 have h1':Xei f ns (0,0)=_:=h1;simp only[Xej];rw[h1',←Xex f.1 ns 0 0]
 cases Ybs (τ:=Int) (fun _ n a=>Xct f.1 n a) (fun a=>(.inr a:(Int×Int)⊕Int)) 0 ns 0<;>rfl
theorem Xf3 (l:List Xa):∀ (ns:List (List UInt8)) (a:Int),(Xcs l ns a).2≠0→(Xcs l ns a).1=0
 |[],a,h=>absurd rfl h
 |n::ns,a,h=>by
  simp only[Xcs] at *
  cases h1:((l.getD a.toNat Xc).1 != 2) with
  |true=>rfl
  |false=>
   cases h2:decide (Xas (Xg l a) n<0) with
   |true=>rfl
   |false=>rw[h1,h2] at h;exact Xf3 l ns _ h
theorem join_eq {ms:List (List UInt8)} (h:ms≠[]):([47]:List UInt8)++Go.Lib.join ms [47]=Xq ms:=by
 cases ms with
 |nil=>exact absurd rfl h
 |cons m r=>
  rw[Go.Lib.join_cons,Xad];have:Go.Lib.joinTail [47] r=Xq r:=rfl;rw[this];rfl
theorem Xkk {ms:List (List UInt8)} (h0:ms≠[]) (h1:ms.length≤1048576) (h2:(Xq ms).length≤1048576):Xc8 ms=some (Xq ms):=by
 have e:=join_eq h0
 have hl:(Xq ms).length=(Go.Lib.join ms [47]).length+1:=by rw[←e];simp
 simp only[Xc8,Xfp,Yqo]
 rw[show(decide (ms.length≤1048576)&&decide ((Go.Lib.join ms [47]).length≤1048576))=true by simp;omega]
 simp only[Yus,jA]
 rw[show decide (([47]:List UInt8).length+(Go.Lib.join ms [47]).length≤2147483648)=true by simp;omega,e]
 rfl
theorem Xkl {ms:List (List UInt8)} (h0:ms≠[]) (h6:ms.length≤6) (hn:∀ n∈ms,Xu n=0):Xbc (Xq ms)=some (ms,0):=by
 have hlen:=Xbq hn;have hcut:=Xhe h0 hn
 obtain⟨x,q,hx,hq⟩:∃ (x:UInt8) (q:List UInt8),Xq ms=q++[x]∧(x == 47)=false:=by
  obtain⟨r,m,rfl⟩:∃ r m,ms=r++[m]:=⟨ms.dropLast,ms.getLast h0,(List.dropLast_concat_getLast h0).symm⟩
  have hm:=hn m (by simp)
  have hne:=(Xbr hm).1;refine⟨m.getLast hne,Xq r++47::m.dropLast,?_,Xew hm _ (List.getLast_mem hne)⟩;rw[Xga,Xgb,kO]
  congr 1
  rw[jQ,List.dropLast_concat_getLast hne]
 have hh:∃ t,Xq ms=47::t∧t≠[]:=by
  cases ms with
  |nil=>exact absurd rfl h0
  |cons m r=>
   refine⟨_,Xad m r,?_⟩;have:=(Xbr (hn m (jF ..))).1;intro e;exact this (List.append_eq_nil_iff.1 e).1
 obtain⟨t,ht,htn⟩:=hh
 have hlt:1≤(Xq ms).length:=by rw[ht];simp
 have hpre:Xda (Xq ms) [47]=some true:=by
  simp only[Xda,Xh,jA]
  rw[show decide (((Xq ms).length:Int)≥(([47]:List UInt8).length:Int))=true by simp;omega]
  simp only[Yus];rw[ht];rfl
 have hsuf:Xdb (Xq ms) [47]=some false:=by
  have e1:w64 (((Xq ms).length:Int)-(([47]:List UInt8).length:Int))=(q.length:Int):=by
   have hql:(Xq ms).length=q.length+1:=by rw[hx];simp
   rw[hql,Ytt (by simp) (by simp;omega)];simp
  simp only[Xdb,Xi,jA]
  rw[show decide (((Xq ms).length:Int)≥(([47]:List UInt8).length:Int))=true by simp;omega,e1]
  simp only[Yus,toNat_cast,List.take_length]
  rw[show(decide ((0:Int)≤(q.length:Int))&&decide ((q.length:Int)≤((Xq ms).length:Int)))=true by rw[hx];simp;omega]
  simp only[Yus,jA];rw[hx,List.drop_left']
  ·have:([x] == ([47]:List UInt8))=false:=by simpa using hq
   rw[this]
  ·rfl
 have hsp:=Xkf ((Xq ms).drop 1) 47 (by simp;omega)
 rw[hcut] at hsp
 have hloop:Xbb (ms.length:Int) ms 0=some (.inr ()):=by
  have h:=Yii (τ:=Unit) ms (f:=fun s=>Xbb.B (ms.length:Int) ms s) (fun i _=>(i:Int)) (fun _ x _=>cond (Xu x != 0) (.inr (.inl (Xu x,[]))) (.inl ())) (fun _=>(.inr ():(Int×List (List UInt8))⊕Unit)) (fun i hi t=>by
   have h4:=(Xbr (hn _ (jE hi))).2.1
   simp only[Xbb.B,Yva hi,Yu7 hi,Yus,toNat_cast,getD_lt _ hi,Xij _ (by omega:(ms[i]).length≤2147483648),jA,Yup (by omega:i<4294967296)]
   cases (Xu ms[i] != 0)<;>rfl) (fun t=>by simp only[Xbb.B,Yu5 (jB _),Yur]) () (s:=0) rfl
  refine Eq.trans h ?_
  rw[Xfw (fun n=>Xu n != 0) _ _ _ _ (fun n hm=>by simp[hn n hm])]
 simp only[Xbc,hpre,hsuf,jA,List.take_length]
 rw[show decide (((Xq ms).length:Int)>30)=false by simp;omega,show((Xq ms) == ([47]:List UInt8))=false by rw[ht];simpa using htn,
  show(decide ((0:Int)≤(1:Int))&&decide ((1:Int)≤((Xq ms).length:Int)))=true by simp;omega,show(1:Int).toNat=1 from rfl]
 simp only[Yus,Yur,jK,hsp,jA,hloop]
 rw[show decide ((ms.length:Int)>6)=false by simp;omega]
 rfl
theorem Xhc {l:List Xa} {a:Int} (h:Xg l a=[]):∀ (d:Nat) (ns:List (List UInt8)),Xt l d a ns=[]
 |0,_=>rfl
 |d+1,ns=>by simp[Xt,h]
def Xaq (l:List Xa) (d:Nat) (ns:List (List UInt8)) (t:List (List UInt8)) (e:Xf):List (List UInt8):=t++(Xq (ns++[e.1])::Xt l d e.2.1 (ns++[e.1]))
theorem Xce (l:List Xa) (d:Nat) (ns:List (List UInt8)):∀ (es:List Xf) (t:List (List UInt8)),es.foldl (Xaq l d ns) t=t++es.flatMap fun e=>Xq (ns++[e.1])::Xt l d e.2.1 (ns++[e.1])
 |[],t=>by simp
 |e::es,t=>by simp[Xce l d ns es,Xaq]
theorem Xgc {ns:List (List UInt8)} {m:List UInt8} (h:∀ n∈ns,Xu n=0) (hm:Xu m=0):∀ n∈ns++[m],Xu n=0:=fun n hn=>by
 rcases List.mem_append.1 hn with h1 | h1
 ·exact h n h1
 ·rw[List.mem_singleton.1 h1];exact hm
theorem Xer:∀ d,d≤6→Xy d≤55986:=by decide
theorem Xkm (f:Fs_) (h:Xa1 f.1):∀ (d k:Nat) (a:Int) (ns ls:List (List UInt8)),d<k→ns.length+d=6→0≤a→a<(f.1.length:Int)→(∀ n∈ns,Xu n=0)→ls.length+Xy d≤1048576→
  Xv.R k f a ns ls=some (ls++Xt f.1 d a ns):=by
 intro d
 induction d with
 |zero=>
  intro k a ns ls hk h6 h0 h1 hn hl
  obtain⟨k,rfl⟩:∃ m,k=m+1:=⟨k-1,by omega⟩
  simp only[Xv.R,Xv.step]
  rw[show((ns.length:Int) == 6)=true by simp;omega]
  simp[Xt]
 |succ d ih=>
  intro k a ns ls hk h6 h0 h1 hn hl
  obtain⟨k,rfl⟩:∃ m,k=m+1:=⟨k-1,by omega⟩
  obtain⟨q1,q2,q3⟩:=h.at_ h0 h1
  have hbd:=Xer (d+1) (by omega)
  simp only[Xy] at hl hbd
  have key:Xa9 (Xv.R k) f ns (Xg f.1 a) ((Xg f.1 a).length:Int) (0,ls)=some (id ((Xg f.1 a).foldl (Xaq f.1 d ns) ls)):=by
   refine Yno (Xg f.1 a) (f:=fun s=>Xa9.B (Xv.R k) f ns (Xg f.1 a) ((Xg f.1 a).length:Int) s.1 s.2) (Xaq f.1 d ns) id (fun i t=>t.length≤ls.length+i*(1+Xy d)) (fun i hi t ht=>?_) (fun t ht=>?_) ls (by omega)
   ·have he:=q3 _ (jE hi)
    have hn2:=Xgc hn he.1;have hjl:=Xbq hn2
    have hne:ns++[((Xg f.1 a)[i]).1]≠[]:=by simp
    have hln:(ns++[((Xg f.1 a)[i]).1]).length=ns.length+1:=by simp
    have hb:=Xcx h d ((Xg f.1 a)[i]).2.1 (ns++[((Xg f.1 a)[i]).1]) he.2.1 he.2.2
    have him:i*(1+Xy d)+(1+Xy d)≤6*(1+Xy d):=by
     have:(i+1)*(1+Xy d)≤6*(1+Xy d):=jR _ (by omega)
     rw[jY,Nat.one_mul] at this;exact this
    have hr:=ih k ((Xg f.1 a)[i]).2.1 (ns++[((Xg f.1 a)[i]).1]) (t++[Xq (ns++[((Xg f.1 a)[i]).1])]) (by omega) (by rw[hln];omega) he.2.1 he.2.2 hn2 (by simp only[jP,jH,kD];omega)
    have hcc:Xe1 [ns,[((Xg f.1 a)[i]).1]]=some (ns++[((Xg f.1 a)[i]).1]):=by
     simp only[Xe1,Yko]
     rw[show([ns,[((Xg f.1 a)[i]).1]]:List (List (List UInt8))).flatten=ns++[((Xg f.1 a)[i]).1] by simp]
     rw[show(decide (([ns,[((Xg f.1 a)[i]).1]]:List (List (List UInt8))).length≤1048576)&&decide ((ns++[((Xg f.1 a)[i]).1]).length≤1048576))=true by simp;omega]
     rfl
    constructor
    ·simp only[Xa9.B,Yva hi,Yu7 hi,Yus,toNat_cast,getD_lt _ hi,hcc,jA,Xkk hne (by omega) (by omega)]
     rw[show decide ((t++[Xq (ns++[((Xg f.1 a)[i]).1])]).length≤2147483648)=true by simp;omega]
     simp only[Yus,hr,jA,Yup (by omega:i<4294967296),Xaq]
     simp
    ·simp only[Xaq,jP,jH,jY,Nat.one_mul];omega
   ·simp only[Xa9.B,Yu5 (jB _),Yur,id]
  simp only[Xv.R,Xv.step]
  rw[show((ns.length:Int) == 6)=false by simp;omega,Ytf h0 h1]
  simp only[Yur,Yus,jA];refine(congrArg (fun o=>Option.bind o fun o=>some o) key).trans ?_;simp only[id,jA,Xce,Xt]
theorem Xkn (f:Fs_) (h:Xa1 f.1):∀ (d k:Nat) (a:Int) (ns:List (List UInt8)),d<k→ns.length+d≤6→0≤a→a<(f.1.length:Int)→(∀ n∈ns,Xu n=0)→
  X5.R k f a (Xq ns) (d:Int)=some (Xt f.1 d a ns):=by
 intro d
 induction d with
 |zero=>
  intro k a ns hk h6 h0 h1 hn
  obtain⟨k,rfl⟩:∃ m,k=m+1:=⟨k-1,by omega⟩
  simp only[X5.R,X5.step]
  have:Xcu (X5.R k) f a (Xq ns) ((0:Nat):Int) (0,[])=some []:=by
   refine Ya2 ?_;simp only[Xcu.B];rfl
  rw[this];rfl
 |succ d ih=>
  intro k a ns hk h6 h0 h1 hn
  obtain⟨k,rfl⟩:∃ m,k=m+1:=⟨k-1,by omega⟩
  obtain⟨q1,q2,q3⟩:=h.at_ h0 h1
  have hbd:=Xer (d+1) (by omega)
  simp only[Xy] at hbd;have hjl0:=Xbq hn;have en:(f.1.getD a.toNat Xc).2.2.2.2.1=Xg f.1 a:=rfl
  have hdp:decide (((d+1:Nat):Int)>0)=true:=jZ (by omega)
  have key:Xcu (X5.R k) f a (Xq ns) ((d+1:Nat):Int) (0,[])=some (id ((Xg f.1 a).foldl (Xaq f.1 d ns) [])):=by
   refine Yno (Xg f.1 a) (f:=fun s=>Xcu.B (X5.R k) f a (Xq ns) ((d+1:Nat):Int) s.1 s.2) (Xaq f.1 d ns) id (fun i t=>t.length≤i*(1+Xy d)) (fun i hi t ht=>?_) (fun t ht=>?_) [] (by simp)
   ·have he:=q3 _ (jE hi)
    have hn2:=Xgc hn he.1;have h4:=(Xbr he.1).2.1
    have hln:(ns++[((Xg f.1 a)[i]).1]).length=ns.length+1:=by simp
    have hb:=Xcx h d ((Xg f.1 a)[i]).2.1 (ns++[((Xg f.1 a)[i]).1]) he.2.1 he.2.2
    have him:i*(1+Xy d)+(1+Xy d)≤6*(1+Xy d):=by
     have:(i+1)*(1+Xy d)≤6*(1+Xy d):=jR _ (by omega)
     rw[jY,Nat.one_mul] at this;exact this
    have hr:=ih k ((Xg f.1 a)[i]).2.1 (ns++[((Xg f.1 a)[i]).1]) (by omega) (by rw[hln];omega) he.2.1 he.2.2 hn2
    have ej:(Xq ns++([47]:List UInt8))++((Xg f.1 a)[i]).1=Xq (ns++[((Xg f.1 a)[i]).1]):=by rw[Xga,Xgb];simp
    constructor
    ·simp only[Xcu.B,hdp,Yus,Ytf h0 h1,en,Yva hi,Yu7 hi,toNat_cast,getD_lt _ hi,jA,ej,Ytf he.2.1 he.2.2]
     rw[show decide ((Xq ns).length+([47]:List UInt8).length≤2147483648)=true by simp;omega,show decide ((Xq ns++([47]:List UInt8)).length+((Xg f.1 a)[i]).1.length≤2147483648)=true by simp;omega,
      show decide ((t++[Xq (ns++[((Xg f.1 a)[i]).1])]).length≤2147483648)=true by simp;omega,show w64 (((d+1:Nat):Int)-1)=(d:Int) by rw[Ytt (by omega) (by omega)];omega]
     simp only[Yus,hr,jA,Yup (by omega:i<4294967296)]
     cases hk2:((f.1.getD (((Xg f.1 a)[i]).2.1).toNat Xc).1 == 2) with
     |true=>
      rw[show decide ((t++[Xq (ns++[((Xg f.1 a)[i]).1])]++Xt f.1 d ((Xg f.1 a)[i]).2.1 (ns++[((Xg f.1 a)[i]).1])).length≤2147483648)=true by simp only[jP,jH,kD,jI];omega]
      simp[Xaq]
     |false=>
      have hfree:=(h.at_ he.2.1 he.2.2).2.1 (by simpa using hk2)
      simp[Xaq,Xhc hfree]
    ·simp only[Xaq,jP,jH,jY,Nat.one_mul];omega
   ·simp only[Xcu.B,hdp,Yus,Ytf h0 h1,en,Yu5 (jB _),jA,Yur,id]
  simp only[X5.R,X5.step];rw[key];simp only[id,jA,Xce,Xt,jO]
def Xr (l:List Xa):List (List UInt8):=(Xt l 6 0 []).take 60
theorem Xko (f:Fs_) (h:Xa1 f.1):Xc9 f=some (Xr f.1):=by
 have hp:=h.pos
 have h1:=Xkm f h 6 40 0 [] [] (by omega) rfl (Int.le_refl _) (by omega) (fun n hn=>by cases hn) (by decide)
 rw[jO] at h1
 have hl:=Xcx h 6 0 [] (Int.le_refl _) (by omega)
 have hb:=Xer 6 (jB _);simp only[Xc9,Xv,h1,jA,Xr]
 by_cases h60:60<(Xt f.1 6 0 []).length
 ·rw[show decide ((60:Int)<((Xt f.1 6 0 []).length:Int))=true by simp;omega]
  simp only[Yus]
  rw[show(decide ((0:Int)≤60)&&decide ((60:Int)≤((Xt f.1 6 0 []).length:Int)))=true by simp;omega]
  rfl
 ·rw[show decide ((60:Int)<((Xt f.1 6 0 []).length:Int))=false by simp;omega]
  simp only[Yur]
  rw[show(decide ((0:Int)≤((Xt f.1 6 0 []).length:Int))&&decide (((Xt f.1 6 0 []).length:Int)≤((Xt f.1 6 0 []).length:Int)))=true by simp]
  simp only[Yus,toNat_cast,List.drop_zero,Nat.sub_zero,List.take_length]
  rw[List.take_of_length_le (by omega)]
theorem Xkp (f:Fs_) (h:Xa1 f.1):Xgt f=some (Xr f.1):=by
 have hp:=h.pos
 have h1:X5 f 0 ([]:List UInt8) 6=some (Xt f.1 6 0 []):=Xkn f h 6 40 0 [] (by omega) (jB _) (Int.le_refl _) (by omega) (fun n hn=>by cases hn)
 simp only[Xgt,h1,jA,Xr]
 by_cases h60:60<(Xt f.1 6 0 []).length
 ·rw[show decide (((Xt f.1 6 0 []).length:Int)>60)=true by simp;omega]
  simp only[Yus]
  rw[show(decide ((0:Int)≤(60:Int))&&decide ((60:Int)≤((Xt f.1 6 0 []).length:Int)))=true by simp;omega]
  rfl
 ·rw[show decide (((Xt f.1 6 0 []).length:Int)>60)=false by simp;omega]
  simp only[Yur]
  rw[List.take_of_length_le (by omega)]
theorem Xcz {l:List Xa} (h:Xa1 l) {p:List UInt8} (hp:p∈Xr l):∃ ms:List (List UInt8),p=Xq ms∧ms≠[]∧ms.length≤6∧∀ n∈ms,Xu n=0:=by
 have hpos:=h.pos
 obtain⟨ms,h1,h2,h3,h4⟩:=Xho h 6 0 [] (Int.le_refl _) (by omega) (fun n hn=>by cases hn) p (List.mem_of_mem_take hp)
 exact⟨ms,h1,h2,by simpa using h3,h4⟩
theorem Xfz {l:List Xa}:(Xr l).length≤60:=by simp[Xr];omega
def toF (l:List Xa) (p:List UInt8):Int×Int:=Xcs l (Xab 47 [] (p.drop 1)) 0
theorem Xkq (f:Fs_) (h:Xa1 f.1) {p:List UInt8} (hp:p∈Xr f.1):Xdf f p=some (toF f.1 p):=by
 obtain⟨ms,rfl,h1,h2,h3⟩:=Xcz h hp;simp only[Xdf,Xkl h1 h2 h3,jA];rw[show((0:Int) != 0)=false from rfl]
 simp only[Yur,Xki f h ms (by omega),jA,toF,Xhe h1 h3]
def atF (l:List Xa) (a:Int):Option (List UInt8):=(Xr l).find? fun p=>(toF l p).1 == a
def X7 (l:List Xa) (a:Int):List UInt8×Int:=cond (!inR a 0 ((l.length:Int)-1)) ([],3) (cond (a == 0) ([47],0) (match atF l a with | some p=>(p,0) | none=>([],4)))
theorem Xkr (f:Fs_) (h:Xa1 f.1) (a:Int):Xbf f a=some (X7 f.1 a):=by
 have hn:=h.len;have hpl:=Xfz (l:=f.1)
 have hloop:Xb5 f a ((Xr f.1).length:Int) (Xr f.1) 0=_:=Xfx (Xr f.1) (fun p=>(toF f.1 p).1 == a) (fun p=>(p,(0:Int))) (fun i hi=>by
  simp only[Xb5.B,Yva hi,Yu7 hi,Yus,toNat_cast,getD_lt _ hi,Xkq f h (jE hi),jA,Yup (by omega:i<4294967296)]) (by
  simp only[Xb5.B,Yu5 (jB _),Yur])
 have e1:w64 ((f.1.length:Int)-1)=(f.1.length:Int)-1:=Ytt (by omega) (by omega)
 simp only[Xbf,Xb0,jA,Xf8,e1,Xko f h,hloop,X7,atF]
 cases (!inR a 0 ((f.1.length:Int)-1)) with
 |true=>rfl
 |false=>
  cases (a == 0) with
  |true=>rfl
  |false=>cases (Xr f.1).find? (fun p=>(toF f.1 p).1 == a)<;>rfl
theorem Xhq {l:List Xa} (h:Xa1 l) (a:Int):(X7 l a).1.length≤30:=by
 unfold X7
 cases (!inR a 0 ((l.length:Int)-1)) with
 |true=>simp
 |false=>
  cases (a == 0) with
  |true=>simp
  |false=>
   simp only[Yur]
   cases hf:atF l a with
   |none=>simp
   |some p=>
    obtain⟨ms,rfl,-,h2,h3⟩:=Xcz h (List.mem_of_find?_eq_some hf);have:=Xbq h3;simp only;omega
theorem Xks (f:Fs_) (hb:Bd Xp f) (h0:fsF f=0) (h:Xa1 f.1) (a:Int):Xek f a=some ((X7 f.1 a).2,(X7 f.1 a).1,()):=by
 have hn:=h.len;have hpl:=Xfz (l:=f.1)
 have e1:w64 ((f.1.length:Int)-1)=(f.1.length:Int)-1:=Ytt (by omega) (by omega)
 simp only[Xek,Xh5 f hb,h0,jA,Xg5,Xf7,e1,Xkp f h,X7];rw[show((0:Int) != 0)=false from rfl];simp only[Yur]
 cases (!inR a 0 ((f.1.length:Int)-1)) with
 |true=>rfl
 |false=>
  cases ha:(a == 0) with
  |true=>rfl
  |false=>
   simp only[Yur]
   have hloop:Xfh a f (0,[],()) (Xr f.1) 0=_:=Xfx (Xr f.1) (fun p=>(toF f.1 p).1 == a) (fun p=>((0,p,()):Xj)) (fun i hi=>by
    obtain⟨ms,r1,r2,r3,r4⟩:=Xcz h (jE hi)
    have hlen:((Xr f.1)[i]).length≤30:=by rw[r1];have:=Xbq r4;omega
    have hge:1≤((Xr f.1)[i]).length:=by
     rw[r1]
     cases ms with
     |nil=>exact absurd rfl r2
     |cons m r=>rw[Xad];simp
    have hcut:Xf4 (((Xr f.1)[i]).drop 1) 47=some (Xab 47 [] (((Xr f.1)[i]).drop 1)):=Xkd _ 47 (by simp;omega)
    have hcl:(Xab 47 [] (((Xr f.1)[i]).drop 1)).length≤1048577:=by rw[Xhd];have:=List.count_le_length (a:=(47:UInt8)) (l:=((Xr f.1)[i]).drop 1);simp at *;omega
    have hpred:(cond ((toF f.1 (Xr f.1)[i]).2 == 0) ((toF f.1 (Xr f.1)[i]).1 == a) false)=((toF f.1 (Xr f.1)[i]).1 == a):=by
     cases hc:((toF f.1 (Xr f.1)[i]).2 == 0) with
     |true=>rfl
     |false=>
      have hz:=Xf3 f.1 (Xab 47 [] (((Xr f.1)[i]).drop 1)) 0 (by simpa [toF] using hc)
      have:(toF f.1 (Xr f.1)[i]).1=0:=hz;rw[this]
      have:¬ a=0:=by simpa using ha
      simp;omega
    simp only[Xfh.B,Yva hi,Yu7 hi,Yus,toNat_cast,getD_lt _ hi,List.take_length,show(1:Int).toNat=1 from rfl,hcut,Xkj f h _ hcl,jA,Yup (by omega:i<4294967296)]
    rw[show(decide ((0:Int)≤(1:Int))&&decide ((1:Int)≤(((Xr f.1)[i]).length:Int)))=true by simp;omega]
    simp only[Yus]
    rw[show Xcs f.1 (Xab 47 [] (((Xr f.1)[i]).drop 1)) 0=toF f.1 (Xr f.1)[i] from rfl,hpred]) (by
    simp only[Xfh.B,Yu5 (jB _),Yur])
   rw[hloop];unfold atF
   cases (Xr f.1).find? (fun p=>(toF f.1 p).1 == a)<;>rfl
theorem HeldBy.main (f:Fs_) (at_:Int) (hf:Fit Xp f) (hf1:Fit (.int .i64) at_) (hw:wt Xp f≤1048576) (hw1:wt (.int .i64) at_≤1048576):∃ r,Xdt f at_=some r∧Xax f at_=some r∧wt Xn r≤2147483648:=by
 have hb:Bd Xp f:=Yn7 rfl (by omega)
 cases h:(fsF f != 0) with
 |true=>
  refine⟨(fsF f,[],()),?_,?_,by simp[Ylk,Ytu,Ysu,Yn3]⟩
  ·simp only[Xdt,Xh5 f hb,jA,h,Yus]
  ·simp only[Xax,Xil f hb,jA,h,Yus]
 |false=>
  have h0:fsF f=0:=by simpa using h
  have hT:=(Xh2.of h0).tree;have ht:=Xa1.of hT;have hok:=Xb7.of hT.inod;have hn:=hok.len
  let g:Xa→Nat→Xj:=fun _ i=>((X7 f.1 (i:Int)).2,(X7 f.1 (i:Int)).1,())
  let st:Nat→Xa→Unit→Unit⊕(Xj⊕Unit):=fun i x _=>cond (x.2.2.2.1.contains at_) (.inr (.inl (g x i))) (.inl ())
  have h1:Xel at_ f (0,[],()) 0=some (Ybs st (fun _=>.inr ()) 0 f.1 ()):=
   Yii (τ:=Unit) f.1 (f:=fun s=>Xel.B at_ f (0,[],()) s) (fun i _=>(i:Int)) st (fun _=>.inr ()) (fun i hi t=>by
    have h2:=(hok.blk _ (jE hi)).1
    simp only[Xel.B,Yva hi,Yu7 hi,Yus,toNat_cast,getD_lt _ hi,Xik _ at_ (by omega:(f.1[i]).2.2.2.1.length≤2147483648),Xks f hb h0 ht,jA,Yup (by omega:i<4294967296),st,g]
    cases (f.1[i]).2.2.2.1.contains at_<;>rfl) (fun t=>by simp only[Xel.B,Yu5 (jB _),Yur]) () (s:=0) rfl
  have h2:Xbg at_ f f.1 (f.1.length:Int) (0,[],()) 0=some (Ybs st (fun _=>.inr ()) 0 f.1 ()):=
   Yii (τ:=Unit) f.1 (f:=fun s=>Xbg.B at_ f f.1 (f.1.length:Int) (0,[],()) s) (fun i _=>(i:Int)) st (fun _=>.inr ()) (fun i hi t=>by
    have h2:=(hok.blk _ (jE hi)).1
    simp only[Xbg.B,Yva hi,Yu7 hi,Yus,toNat_cast,getD_lt _ hi,Xh3 _ at_ (by omega:(f.1[i]).2.2.2.1.length≤2147483648),Xkr f ht,jA,Yup (by omega:i<4294967296),st,g]
    cases (f.1[i]).2.2.2.1.contains at_<;>rfl) (fun t=>by simp only[Xbg.B,Yu5 (jB _),Yur]) () (s:=0) rfl
  simp only[Xdt,Xax,Xh5 f hb,Xil f hb,jA,h,Yur,Xf7,Xf8,h1,h2]
  cases (!inR at_ 0 19) with
  |true=>exact⟨_,rfl,rfl,by simp[Ylk,Ytu,Ysu,Yn3]⟩
  |false=>
   simp only[Yur]
   have hres:∀ (l:List Xa) (i:Nat),(Ybs st (fun _=>.inr ()) i l ()=.inr ())∨∃ j:Nat,Ybs st (fun _=>.inr ()) i l ()=.inl ((X7 f.1 (j:Int)).2,(X7 f.1 (j:Int)).1,()):=by
    intro l
    induction l with
    |nil=>intro i;exact .inl rfl
    |cons x l ih=>
     intro i;simp only[Ybs,st]
     cases x.2.2.2.1.contains at_ with
     |true=>exact .inr ⟨i,rfl⟩
     |false=>exact ih (i+1)
   rcases hres f.1 0 with e | ⟨j,e⟩
   ·rw[e];exact⟨_,rfl,rfl,by simp[Ylk,Ytu,Ysu,Yn3]⟩
   ·rw[e]
    refine⟨_,rfl,rfl,?_⟩;have:=Xhq ht (j:Int);rw[Ylk,Ylk,Ytu,Ysu,Yn3];show 1+((X7 f.1 (j:Int)).1.length+1+0)≤_;omega
theorem HeldBy.law (x:PT.Els (shs [Xp,(.int .i64)])) (hf:Ymw [Xp,(.int .i64)] x) (hw:Yox [Xp,(.int .i64)] x≤1048576):Xe2 x.1 x.2.1=some true:=by
 simp only[Yox] at hw;have hf0:Fit Xp x.1:=hf.1;have hf1:Fit (.int .i64) x.2.1:=hf.2.1
 have hw0:wt Xp x.1≤1048576:=by omega
 have hw1:wt (.int .i64) x.2.1≤1048576:=by omega
 clear hw hf;generalize x.2.1=a1 at hf1 hw1 ⊢;generalize x.1=a0 at hf0 hw0 ⊢;obtain⟨r,hr1,hr2,hr3⟩:=HeldBy.main a0 a1 hf0 hf1 hw0 hw1;have er:=Xi6 r hr3
 have to0:=Xi5 a0 (by omega)
 have eq0:=Xje a0 (by omega)
 have hsz:∀ g:Option Bool,g=some true→∀ b:Bool,cond b (some true) g=some true:=fun g h b=>by cases b<;>first | rfl | exact h
 simp only[Xe2]
 repeat' (first | with_reducible refine hsz _ ?_ _ | (rw[jA]) | (obtain⟨q,hq⟩:=Xix a0 _ (by omega);rw[hq,jA];clear hq))
 simp only[er,to0,eq0,hr1,hr2,Yvj,jA,jK,Yur,Yus,Yt3,Ytv,Ytw]
end Mf
