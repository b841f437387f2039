import Derived.Test.YtiflgjlpdhagnaaGreatDoorLinkPathA
set_option linter.unusedVariables false
set_option linter.unusedSimpArgs false
noncomputable section
namespace Mf
open Go
set_option maxRecDepth 100000
theorem Xkk (a:(List Int)) (n:Int) (hw:wt (.sl (.int .i64)) a≤2147483648):∃ r,Zq0 a n=some r:=by
 simp only[Zq0]
 repeat' (first | with_reducible exact Yvv _ | with_reducible refine Yvt (Yvv _) fun _=>?_ | with_reducible apply Yvu)
theorem Xkl (a:Xf) (n:Int) (hw:wt Xg a≤2147483648):∃ r,Zq1 a n=some r:=by
 simp only[Zq1]
 repeat' (first | with_reducible exact Yvv _ | with_reducible refine Yvt (Yvv _) fun _=>?_ | with_reducible apply Yvu)
theorem Xkm (a:(List Xf)) (n:Int) (hw:wt (.sl Xg) a≤2147483648):∃ r,Zq3 a n=some r:=by
 have hw2:=hw;simp only[wA] at hw2
 have hl:a.length≤2147483648:=by have:=Ylm (wt Xg) (fun x=>by simp only[wA];omega) a;omega
 have lp:∀ k,∃ r,Zq2 a (k,0)=some r:=fun k=>by
  refine Ysx (f:=fun s=>Zq2.B a s.1 s.2) (fun(i:Nat) (k:Int)=>(k,(i:Int))) a.length (fun i k hi=>?_) (fun k=>?_) a.length 0 k (by omega)
  ·have hm:=Ysz (wt Xg) a i hi
   have hb:inB (i:Int) a.length=true:=Yub (by omega) (by omega)
   simp only[Zq2.B,Ywa hi,hb,Yvs,toNat_cast,getD_lt _ hi,Yvp (by omega:i<4294967296)]
   repeat' (first | with_reducible exact Yv2 _ | (with_reducible refine .inl ⟨_,rfl,?_⟩;exact⟨_,rfl⟩) | with_reducible refine Yu9 (Xkl _ _ (by first | omega | (simp only[wA] at hm ⊢;omega))) fun _=>?_ | with_reducible refine Yu9 (Yvv _) fun _=>?_ | with_reducible apply Yva)
  ·refine⟨.inr k,?_⟩;simp only[Zq2.B,Yv5 (jB _),Yvr]
 simp only[Zq3]
 repeat' (first | with_reducible exact Yvv _ | with_reducible refine Yvt (lp _) fun o=>?_ | with_reducible refine Yvt (Yvv _) fun _=>?_ | with_reducible apply Yvu | (cases o<;>exact⟨_,rfl⟩))
theorem Xkn (a:Xb) (n:Int) (hw:wt Xc a≤2147483648):∃ r,Zq4 a n=some r:=by
 simp only[Zq4]
 repeat' (first | with_reducible exact Yvv _ | with_reducible refine Yvt (Xkk _ _ (by first | omega | (simp only[wA] at hw ⊢;omega))) fun _=>?_ | with_reducible refine Yvt (Xkm _ _ (by first | omega | (simp only[wA] at hw ⊢;omega))) fun _=>?_ | with_reducible refine Yvt (Yvv _) fun _=>?_ | with_reducible apply Yvu)
theorem Xko (a:(List Xb)) (n:Int) (hw:wt (.sl Xc) a≤2147483648):∃ r,Zq6 a n=some r:=by
 have hw2:=hw;simp only[wA] at hw2
 have hl:a.length≤2147483648:=by have:=Ylm (wt Xc) (fun x=>by simp only[wA];omega) a;omega
 have lp:∀ k,∃ r,Zq5 a (k,0)=some r:=fun k=>by
  refine Ysx (f:=fun s=>Zq5.B a s.1 s.2) (fun(i:Nat) (k:Int)=>(k,(i:Int))) a.length (fun i k hi=>?_) (fun k=>?_) a.length 0 k (by omega)
  ·have hm:=Ysz (wt Xc) a i hi
   have hb:inB (i:Int) a.length=true:=Yub (by omega) (by omega)
   simp only[Zq5.B,Ywa hi,hb,Yvs,toNat_cast,getD_lt _ hi,Yvp (by omega:i<4294967296)]
   repeat' (first | with_reducible exact Yv2 _ | (with_reducible refine .inl ⟨_,rfl,?_⟩;exact⟨_,rfl⟩) | with_reducible refine Yu9 (Xkn _ _ (by first | omega | (simp only[wA] at hm ⊢;omega))) fun _=>?_ | with_reducible refine Yu9 (Yvv _) fun _=>?_ | with_reducible apply Yva)
  ·refine⟨.inr k,?_⟩;simp only[Zq5.B,Yv5 (jB _),Yvr]
 simp only[Zq6]
 repeat' (first | with_reducible exact Yvv _ | with_reducible refine Yvt (lp _) fun o=>?_ | with_reducible refine Yvt (Yvv _) fun _=>?_ | with_reducible apply Yvu | (cases o<;>exact⟨_,rfl⟩))
theorem Xkp (a:(List Int)) (n:Int) (hw:wt (.sl (.int .u8)) a≤2147483648):∃ r,Zq7 a n=some r:=by
 simp only[Zq7]
 repeat' (first | with_reducible exact Yvv _ | with_reducible refine Yvt (Yvv _) fun _=>?_ | with_reducible apply Yvu)
theorem Xkq (a:(List (List Int))) (n:Int) (hw:wt (.sl (.sl (.int .u8))) a≤2147483648):∃ r,Zq9 a n=some r:=by
 have hw2:=hw;simp only[wA] at hw2
 have hl:a.length≤2147483648:=by have:=Ylm (wt (.sl (.int .u8))) (fun x=>by simp only[wA];omega) a;omega
 have lp:∀ k,∃ r,Zq8 a (k,0)=some r:=fun k=>by
  refine Ysx (f:=fun s=>Zq8.B a s.1 s.2) (fun(i:Nat) (k:Int)=>(k,(i:Int))) a.length (fun i k hi=>?_) (fun k=>?_) a.length 0 k (by omega)
  ·have hm:=Ysz (wt (.sl (.int .u8))) a i hi
   have hb:inB (i:Int) a.length=true:=Yub (by omega) (by omega)
   simp only[Zq8.B,Ywa hi,hb,Yvs,toNat_cast,getD_lt _ hi,Yvp (by omega:i<4294967296)]
   repeat' (first | with_reducible exact Yv2 _ | (with_reducible refine .inl ⟨_,rfl,?_⟩;exact⟨_,rfl⟩) | with_reducible refine Yu9 (Xkp _ _ (by first | omega | (simp only[wA] at hm ⊢;omega))) fun _=>?_ | with_reducible refine Yu9 (Yvv _) fun _=>?_ | with_reducible apply Yva)
  ·refine⟨.inr k,?_⟩;simp only[Zq8.B,Yv5 (jB _),Yvr]
 simp only[Zq9]
 repeat' (first | with_reducible exact Yvv _ | with_reducible refine Yvt (lp _) fun o=>?_ | with_reducible refine Yvt (Yvv _) fun _=>?_ | with_reducible apply Yvu | (cases o<;>exact⟨_,rfl⟩))
theorem Xkr (a:Fs_) (n:Int) (hw:wt Xl a≤2147483648):∃ r,Xhc a n=some r:=by
 simp only[Xhc]
 repeat' (first | with_reducible exact Yvv _ | with_reducible refine Yvt (Xko _ _ (by first | omega | (simp only[wA] at hw ⊢;omega))) fun _=>?_ | with_reducible refine Yvt (Xkq _ _ (by first | omega | (simp only[wA] at hw ⊢;omega))) fun _=>?_ | with_reducible refine Yvt (Yvv _) fun _=>?_ | with_reducible apply Yvu)
theorem Xks (a:(List Int)) (hw:wt (.sl (.int .i64)) a≤2147483648):Xhd a=some a:=by
 have hw2:=hw;simp only[wA] at hw2
 have hl:a.length≤2147483648:=by have:=Ylm (wt (.int .i64)) (fun x=>by simp only[wA];omega) a;omega
 have lp:Xe1 a (0,List.replicate (a.length:Int).toNat 0)=some a:=by
  refine Yvo a (fun s=>Xe1.B a s.1 s.2) 0 (fun i hi out ho=>?_) (fun out ho=>?_)
  ·have hm:=Ysz (wt (.int .i64)) a i hi
   have hb:inB (i:Int) a.length=true:=Yub (by omega) (by omega)
   have hc:inB (i:Int) out.length=true:=Yub (by omega) (by omega)
   simp only[Xe1.B,Ywa hi,hb,hc,Yvs,toNat_cast,getD_lt _ hi,jA,Ywj,Yvp (by omega:i<4294967296)]
  ·simp only[Xe1.B];rw[show decide ((a.length:Int)<(a.length:Int))=false by simp];rfl
 simp only[Xhd]
 rw[show(decide ((0:Int)≤(a.length:Int))&&(decide ((a.length:Int)≤(a.length:Int))&&decide ((a.length:Int)≤2147483648)))=true by simp;omega]
 simp only[Yvs,jA,lp]
theorem Xkt (a:Xf) (hw:wt Xg a≤2147483648):Xhe a=some a:=by
 obtain⟨x0,x1,⟨⟩⟩:=a;simp only[wA] at hw;simp only[Xhe,jA,Ywj]
theorem Xku (a:(List Xf)) (hw:wt (.sl Xg) a≤2147483648):Xe3 a=some a:=by
 have hw2:=hw;simp only[wA] at hw2
 have hl:a.length≤2147483648:=by have:=Ylm (wt Xg) (fun x=>by simp only[wA];omega) a;omega
 have lp:Xe2 a (0,List.replicate (a.length:Int).toNat Xn)=some a:=by
  refine Yvo a (fun s=>Xe2.B a s.1 s.2) Xn (fun i hi out ho=>?_) (fun out ho=>?_)
  ·have hm:=Ysz (wt Xg) a i hi
   have hb:inB (i:Int) a.length=true:=Yub (by omega) (by omega)
   have hc:inB (i:Int) out.length=true:=Yub (by omega) (by omega)
   have h0:=Xkt a[i] (by omega)
   simp only[Xe2.B,Ywa hi,hb,hc,Yvs,toNat_cast,getD_lt _ hi,h0,jA,Ywj,Yvp (by omega:i<4294967296)]
  ·simp only[Xe2.B];rw[show decide ((a.length:Int)<(a.length:Int))=false by simp];rfl
 simp only[Xe3]
 rw[show(decide ((0:Int)≤(a.length:Int))&&(decide ((a.length:Int)≤(a.length:Int))&&decide ((a.length:Int)≤2147483648)))=true by simp;omega]
 simp only[Yvs,jA,lp]
theorem Xkv (a:Xb) (hw:wt Xc a≤2147483648):Xhf a=some a:=by
 obtain⟨x0,x1,x2,x3,x4,⟨⟩⟩:=a;simp only[wA] at hw
 have h_x3_0:=Xks x3 (by simp only[wA];omega)
 have h_x4_1:=Xku x4 (by simp only[wA];omega)
 simp only[Xhf,h_x3_0,h_x4_1,jA,Ywj]
theorem Xkw (a:(List Xb)) (hw:wt (.sl Xc) a≤2147483648):Xe5 a=some a:=by
 have hw2:=hw;simp only[wA] at hw2
 have hl:a.length≤2147483648:=by have:=Ylm (wt Xc) (fun x=>by simp only[wA];omega) a;omega
 have lp:Xe4 a (0,List.replicate (a.length:Int).toNat Xa)=some a:=by
  refine Yvo a (fun s=>Xe4.B a s.1 s.2) Xa (fun i hi out ho=>?_) (fun out ho=>?_)
  ·have hm:=Ysz (wt Xc) a i hi
   have hb:inB (i:Int) a.length=true:=Yub (by omega) (by omega)
   have hc:inB (i:Int) out.length=true:=Yub (by omega) (by omega)
   have h0:=Xkv a[i] (by omega)
   simp only[Xe4.B,Ywa hi,hb,hc,Yvs,toNat_cast,getD_lt _ hi,h0,jA,Ywj,Yvp (by omega:i<4294967296)]
  ·simp only[Xe4.B];rw[show decide ((a.length:Int)<(a.length:Int))=false by simp];rfl
 simp only[Xe5]
 rw[show(decide ((0:Int)≤(a.length:Int))&&(decide ((a.length:Int)≤(a.length:Int))&&decide ((a.length:Int)≤2147483648)))=true by simp;omega]
 simp only[Yvs,jA,lp]
theorem Xkx (a:(List Int)) (hw:wt (.sl (.int .u8)) a≤2147483648):Xhg a=some a:=by
 have hw2:=hw;simp only[wA] at hw2
 have hl:a.length≤2147483648:=by have:=Ylm (wt (.int .u8)) (fun x=>by simp only[wA];omega) a;omega
 have lp:Xe6 a (0,List.replicate (a.length:Int).toNat 0)=some a:=by
  refine Yvo a (fun s=>Xe6.B a s.1 s.2) 0 (fun i hi out ho=>?_) (fun out ho=>?_)
  ·have hm:=Ysz (wt (.int .u8)) a i hi
   have hb:inB (i:Int) a.length=true:=Yub (by omega) (by omega)
   have hc:inB (i:Int) out.length=true:=Yub (by omega) (by omega)
   simp only[Xe6.B,Ywa hi,hb,hc,Yvs,toNat_cast,getD_lt _ hi,jA,Ywj,Yvp (by omega:i<4294967296)]
  ·simp only[Xe6.B];rw[show decide ((a.length:Int)<(a.length:Int))=false by simp];rfl
 simp only[Xhg]
 rw[show(decide ((0:Int)≤(a.length:Int))&&(decide ((a.length:Int)≤(a.length:Int))&&decide ((a.length:Int)≤2147483648)))=true by simp;omega]
 simp only[Yvs,jA,lp]
theorem Xky (a:(List (List Int))) (hw:wt (.sl (.sl (.int .u8))) a≤2147483648):Xe8 a=some a:=by
 have hw2:=hw;simp only[wA] at hw2
 have hl:a.length≤2147483648:=by have:=Ylm (wt (.sl (.int .u8))) (fun x=>by simp only[wA];omega) a;omega
 have lp:Xe7 a (0,List.replicate (a.length:Int).toNat ([]:List Int))=some a:=by
  refine Yvo a (fun s=>Xe7.B a s.1 s.2) [] (fun i hi out ho=>?_) (fun out ho=>?_)
  ·have hm:=Ysz (wt (.sl (.int .u8))) a i hi
   have hb:inB (i:Int) a.length=true:=Yub (by omega) (by omega)
   have hc:inB (i:Int) out.length=true:=Yub (by omega) (by omega)
   have h0:=Xkx a[i] (by omega)
   simp only[Xe7.B,Ywa hi,hb,hc,Yvs,toNat_cast,getD_lt _ hi,h0,jA,Ywj,Yvp (by omega:i<4294967296)]
  ·simp only[Xe7.B];rw[show decide ((a.length:Int)<(a.length:Int))=false by simp];rfl
 simp only[Xe8]
 rw[show(decide ((0:Int)≤(a.length:Int))&&(decide ((a.length:Int)≤(a.length:Int))&&decide ((a.length:Int)≤2147483648)))=true by simp;omega]
 simp only[Yvs,jA,lp]
theorem Xkz (a:Fs_) (hw:wt Xl a≤2147483648):Xf7 a=some a:=by
 obtain⟨x0,x1,⟨⟩⟩:=a;simp only[wA] at hw
 have h_x0_0:=Xkw x0 (by simp only[wA];omega)
 have h_x1_1:=Xky x1 (by simp only[wA];omega)
 simp only[Xf7,h_x0_0,h_x1_1,jA,Ywj]
theorem Xjv (a:(List Int)) (hw:wt (.sl (.int .u8)) a≤2147483648):Xc0 a a=some true:=by
 have hw2:=hw;simp only[wA] at hw2
 have hl:a.length≤2147483648:=by have:=Ylm (wt (.int .u8)) (fun x=>by simp only[wA];omega) a;omega
 have lp:Xbv a a 0=some (.inr ()):=by
  refine Yu8 (n:=a.length) (fun s=>Xbv.B a a s) (fun i hi=>?_) ?_
  ·have hm:=Ysz (wt (.int .u8)) a i hi
   have hb:inB (i:Int) a.length=true:=Yub (by omega) (by omega)
   simp only[Xbv.B,Ywa hi,hb,Yvs,Yvr,toNat_cast,getD_lt _ hi,jA,jK,Yu2,Yuu,Yut,Yvp (by omega:i<4294967296)]
  ·simp only[Xbv.B,Yv5 (jB _),Yvr]
 simp only[Xc0,Yu2,Yvr,lp,jA,sel]
theorem Xk0 (a:(List (List UInt8))) (hw:wt (.sl .str) a≤2147483648):Xej a a=some true:=by
 have hw2:=hw;simp only[wA] at hw2
 have hl:a.length≤2147483648:=by have:=Ylm (wt .str) (fun x=>by simp only[wA];omega) a;omega
 have lp:Xbw a a 0=some (.inr ()):=by
  refine Yu8 (n:=a.length) (fun s=>Xbw.B a a s) (fun i hi=>?_) ?_
  ·have hm:=Ysz (wt .str) a i hi
   have hb:inB (i:Int) a.length=true:=Yub (by omega) (by omega)
   simp only[Xbw.B,Ywa hi,hb,Yvs,Yvr,toNat_cast,getD_lt _ hi,jA,jK,Yu2,Yuu,Yut,Yvp (by omega:i<4294967296)]
  ·simp only[Xbw.B,Yv5 (jB _),Yvr]
 simp only[Xej,Yu2,Yvr,lp,jA,sel]
theorem Xk1 (a:(List Int)) (hw:wt (.sl (.int .i64)) a≤2147483648):Xek a a=some true:=by
 have hw2:=hw;simp only[wA] at hw2
 have hl:a.length≤2147483648:=by have:=Ylm (wt (.int .i64)) (fun x=>by simp only[wA];omega) a;omega
 have lp:Xbx a a 0=some (.inr ()):=by
  refine Yu8 (n:=a.length) (fun s=>Xbx.B a a s) (fun i hi=>?_) ?_
  ·have hm:=Ysz (wt (.int .i64)) a i hi
   have hb:inB (i:Int) a.length=true:=Yub (by omega) (by omega)
   simp only[Xbx.B,Ywa hi,hb,Yvs,Yvr,toNat_cast,getD_lt _ hi,jA,jK,Yu2,Yuu,Yut,Yvp (by omega:i<4294967296)]
  ·simp only[Xbx.B,Yv5 (jB _),Yvr]
 simp only[Xek,Yu2,Yvr,lp,jA,sel]
theorem Xk2 (a:Xf) (hw:wt Xg a≤2147483648):Xel a a=some true:=by
 obtain⟨x0,x1,⟨⟩⟩:=a;simp only[wA] at hw;simp only[Xel,jA,jK,Yu2,Yuu,Yut,Yvr,Yvs]
theorem Xk3 (a:(List Xf)) (hw:wt (.sl Xg) a≤2147483648):Xbz a a=some true:=by
 have hw2:=hw;simp only[wA] at hw2
 have hl:a.length≤2147483648:=by have:=Ylm (wt Xg) (fun x=>by simp only[wA];omega) a;omega
 have lp:Xby a a 0=some (.inr ()):=by
  refine Yu8 (n:=a.length) (fun s=>Xby.B a a s) (fun i hi=>?_) ?_
  ·have hm:=Ysz (wt Xg) a i hi
   have hb:inB (i:Int) a.length=true:=Yub (by omega) (by omega)
   have h0:=Xk2 a[i] (by omega)
   simp only[Xby.B,Ywa hi,hb,Yvs,Yvr,toNat_cast,getD_lt _ hi,h0,jA,jK,Yu2,Yuu,Yut,Yvp (by omega:i<4294967296)]
  ·simp only[Xby.B,Yv5 (jB _),Yvr]
 simp only[Xbz,Yu2,Yvr,lp,jA,sel]
theorem Xk4 (a:Xb) (hw:wt Xc a≤2147483648):Xem a a=some true:=by
 obtain⟨x0,x1,x2,x3,x4,⟨⟩⟩:=a;simp only[wA] at hw
 have h_x3_0:=Xk1 x3 (by simp only[wA];omega)
 have h_x4_1:=Xk3 x4 (by simp only[wA];omega)
 simp only[Xem,h_x3_0,h_x4_1,jA,jK,Yu2,Yuu,Yut,Yvr,Yvs]
theorem Xk5 (a:(List Xb)) (hw:wt (.sl Xc) a≤2147483648):Xb1 a a=some true:=by
 have hw2:=hw;simp only[wA] at hw2
 have hl:a.length≤2147483648:=by have:=Ylm (wt Xc) (fun x=>by simp only[wA];omega) a;omega
 have lp:Xb0 a a 0=some (.inr ()):=by
  refine Yu8 (n:=a.length) (fun s=>Xb0.B a a s) (fun i hi=>?_) ?_
  ·have hm:=Ysz (wt Xc) a i hi
   have hb:inB (i:Int) a.length=true:=Yub (by omega) (by omega)
   have h0:=Xk4 a[i] (by omega)
   simp only[Xb0.B,Ywa hi,hb,Yvs,Yvr,toNat_cast,getD_lt _ hi,h0,jA,jK,Yu2,Yuu,Yut,Yvp (by omega:i<4294967296)]
  ·simp only[Xb0.B,Yv5 (jB _),Yvr]
 simp only[Xb1,Yu2,Yvr,lp,jA,sel]
theorem Xk6 (a:(List (List Int))) (hw:wt (.sl (.sl (.int .u8))) a≤2147483648):Xb3 a a=some true:=by
 have hw2:=hw;simp only[wA] at hw2
 have hl:a.length≤2147483648:=by have:=Ylm (wt (.sl (.int .u8))) (fun x=>by simp only[wA];omega) a;omega
 have lp:Xb2 a a 0=some (.inr ()):=by
  refine Yu8 (n:=a.length) (fun s=>Xb2.B a a s) (fun i hi=>?_) ?_
  ·have hm:=Ysz (wt (.sl (.int .u8))) a i hi
   have hb:inB (i:Int) a.length=true:=Yub (by omega) (by omega)
   have h0:=Xjv a[i] (by omega)
   simp only[Xb2.B,Ywa hi,hb,Yvs,Yvr,toNat_cast,getD_lt _ hi,h0,jA,jK,Yu2,Yuu,Yut,Yvp (by omega:i<4294967296)]
  ·simp only[Xb2.B,Yv5 (jB _),Yvr]
 simp only[Xb3,Yu2,Yvr,lp,jA,sel]
theorem Xjw (a:Fs_) (hw:wt Xl a≤2147483648):Xc1 a a=some true:=by
 obtain⟨x0,x1,⟨⟩⟩:=a;simp only[wA] at hw
 have h_x0_0:=Xk5 x0 (by simp only[wA];omega)
 have h_x1_1:=Xk6 x1 (by simp only[wA];omega)
 simp only[Xc1,h_x0_0,h_x1_1,jA,jK,Yu2,Yuu,Yut,Yvr,Yvs]
theorem Xk7 (a:Xq) (hw:wt Xo a≤2147483648):Xdb a a=some true:=by
 obtain⟨x0,x1,x2,x3,x4,x5,⟨⟩⟩:=a;simp only[wA] at hw
 have h_x3_0:=Xjv x3 (by simp only[wA];omega)
 have h_x4_1:=Xk0 x4 (by simp only[wA];omega)
 have h_x5_2:=Xjw x5 (by simp only[wA];omega)
 simp only[Xdb,h_x3_0,h_x4_1,h_x5_2,jA,jK,Yu2,Yuu,Yut,Yvr,Yvs]
theorem Xjx:∀ (n:Nat) (k:Int) (out:List UInt8),0≤k→k<10 ^ n→out.length+n≤2147483648→k≤4611686018427387904→∃ s,Xb4 (k,out)=some s∧s.length≤out.length+n
 |0,k,out,h0,h1,h2,h3=>by
  have:k=0:=by simp at h1;omega
  subst this
  exact⟨out,Yar (by simp only[Xb4.B];rfl),by omega⟩
 |n+1,k,out,h0,h1,h2,h3=>by
  by_cases hk:k=0
  ·subst hk;exact⟨out,Yar (by simp only[Xb4.B];rfl),by omega⟩
  ·have hd:k.tdiv 10=k / 10:=Int.tdiv_eq_ediv_of_nonneg h0
   have hq:w64 (k / 10)=k / 10:=Yr8 (by omega) (by omega)
   have hp:k / 10<10 ^ n:=by rw[Int.pow_succ] at h1;omega
   obtain⟨s,hs,hl⟩:=Xjx n (k / 10) ((([IntKind.u8.wrap (w64 ((48:Int)+(k.tmod 10)))]).map fun n=>UInt8.ofNat n.toNat)++out) (by omega) hp (by simp;omega) (by omega)
   refine⟨s,?_,by simp at hl;omega⟩
   rw[←hs];refine Ybb (s':=(k / 10,_)) ?_
   simp only[Xb4.B,show decide (k>0)=true by simp;omega,Yvs,show(!((10:Int) == 0))=true from rfl,jA,hd,hq]
   rw[show decide ((([IntKind.u8.wrap (w64 ((48:Int)+(k.tmod 10)))]).map fun n=>UInt8.ofNat n.toNat).length+out.length≤2147483648)=true by simp;omega]
   rfl
theorem Xjy (k:Int) (h:0≤k) (hk:k≤4611686018427387904):∃ s,Xaa k=some s:=by
 obtain⟨s,hs,hl⟩:=Xjx 19 k [] h (by omega) (by simp) hk
 simp only[Xaa];cases decide (k≤0)
 ·simp only[Yvr,hs,jA]
  rw[show decide (([109]:List UInt8).length+s.length≤2147483648)=true by simp at hl ⊢;omega]
  exact⟨_,rfl⟩
 ·exact⟨_,rfl⟩
theorem Xjz (a:(List Int)) (k:Int) (hk:0≤k) (hw:k+wt (.sl (.int .u8)) a≤4611686018427387904) (hz:wt (.sl (.int .u8)) a≤2147483648):MH Xc2 Xc3 (wt (.sl (.int .u8)) a) a k:=by
 simp only[wA] at hw hz
 have hl:a.length≤2147483648:=by have:=Ylm (wt (.int .u8)) (fun x=>by simp only[wA];omega) a;omega
 have hs:∀ (k:Int) (i:Nat) (a:(List Int)) (h:i<a.length),a.length≤2147483648→0≤k→k+wt (.int .u8) a[i]≤4611686018427387904→wt (.int .u8) a[i]≤2147483648→∃ k2 x2,k≤k2∧k2≤k+wt (.int .u8) a[i]∧Xax.B k (i:Int) a=some (.inl (k2,((i+1:Nat):Int),a.set i x2))∧∀ b:(List Int),b.length=a.length→b[i]? = some x2→Xa0.B b k (i:Int)=some (.inl (k2,((i+1:Nat):Int))):=by
  clear hw hz hl hk k a;intro k i a hi hl hk hw hz
  have hb:inB (i:Int) a.length=true:=Yub (by omega) (by omega)
  simp only[wA] at hw hz
  have w1:w64 (k+1)=k+1:=Ywk (by omega) (by omega)
  refine⟨k+1,(IntKind.u8.wrap (k)),by omega,by simp only[wA];omega,?_,fun b hlb hx=>?_⟩
  ·simp only[Xax.B,Ywa hi,hb,Yvs,toNat_cast,getD_lt _ hi,jA,w1,Yvp (by omega:i<4294967296),kM,kC,Yvd _ _ hi,show(!((3:Int) == 0))=true from rfl]
  ·have hc:inB (i:Int) b.length=true:=Yub (by omega) (by omega)
   have hd:decide ((i:Int)<(b.length:Int))=true:=Ywa (by omega)
   simp only[Xa0.B,hd,hc,Yvs,Yvr,toNat_cast,Yvw _ hx,jA,Yu2,Yuu,Yut,jK,w1,Yvp (by omega:i<4294967296),kM,kC,Yvd _ _ hi,show(!((3:Int) == 0))=true from rfl]
 obtain⟨k2,a2,e1,e2,e3,e4⟩:=Yuf (wt (.int .u8)) 4611686018427387904 (fun s=>Xax.B s.1 s.2.1 s.2.2) (fun b s=>Xa0.B b s.1 s.2) (fun k a=>by simp only[Xax.B,Yv5 (jB _),Yvr]) (fun k a=>by simp only[Xa0.B,Yv5 (jB _),Yvr]) hs k a hl hk (by omega) (by omega)
 refine⟨k2,a2,e1,by simp only[wA];omega,?_,?_⟩
 ·have:Xax (k,0,a)=some (k2,a2):=e3
  simp only[Xc2,this,jA]
 ·have:Xa0 a2 (k,0)=some (.inr k2):=e4
  simp only[Xc3,this,jA,sel]
theorem Xk8 (a:(List (List UInt8))) (k:Int) (hk:0≤k) (hw:k+wt (.sl .str) a≤4611686018427387904) (hz:wt (.sl .str) a≤2147483648):MH Xb9 Xca (wt (.sl .str) a) a k:=by
 simp only[wA] at hw hz
 have hl:a.length≤2147483648:=by have:=Ylm (wt .str) (fun x=>by simp only[wA];omega) a;omega
 have hs:∀ (k:Int) (i:Nat) (a:(List (List UInt8))) (h:i<a.length),a.length≤2147483648→0≤k→k+wt .str a[i]≤4611686018427387904→wt .str a[i]≤2147483648→∃ k2 x2,k≤k2∧k2≤k+wt .str a[i]∧Xaz.B k (i:Int) a=some (.inl (k2,((i+1:Nat):Int),a.set i x2))∧∀ b:(List (List UInt8)),b.length=a.length→b[i]? = some x2→Xa1.B b k (i:Int)=some (.inl (k2,((i+1:Nat):Int))):=by
  clear hw hz hl hk k a;intro k i a hi hl hk hw hz
  have hb:inB (i:Int) a.length=true:=Yub (by omega) (by omega)
  simp only[wA] at hw hz
  obtain⟨s1,w1⟩:=Xjy (k) (by omega) (by omega)
  have w2:w64 (k+1)=k+1:=Ywk (by omega) (by omega)
  refine⟨k+1,s1,by omega,by simp only[wA];omega,?_,fun b hlb hx=>?_⟩
  ·simp only[Xaz.B,Ywa hi,hb,Yvs,toNat_cast,getD_lt _ hi,jA,w1,w2,Yvp (by omega:i<4294967296),kM,kC,Yvd _ _ hi,show(!((3:Int) == 0))=true from rfl]
  ·have hc:inB (i:Int) b.length=true:=Yub (by omega) (by omega)
   have hd:decide ((i:Int)<(b.length:Int))=true:=Ywa (by omega)
   simp only[Xa1.B,hd,hc,Yvs,Yvr,toNat_cast,Yvw _ hx,jA,Yu2,Yuu,Yut,jK,w1,w2,Yvp (by omega:i<4294967296),kM,kC,Yvd _ _ hi,show(!((3:Int) == 0))=true from rfl]
 obtain⟨k2,a2,e1,e2,e3,e4⟩:=Yuf (wt .str) 4611686018427387904 (fun s=>Xaz.B s.1 s.2.1 s.2.2) (fun b s=>Xa1.B b s.1 s.2) (fun k a=>by simp only[Xaz.B,Yv5 (jB _),Yvr]) (fun k a=>by simp only[Xa1.B,Yv5 (jB _),Yvr]) hs k a hl hk (by omega) (by omega)
 refine⟨k2,a2,e1,by simp only[wA];omega,?_,?_⟩
 ·have:Xaz (k,0,a)=some (k2,a2):=e3
  simp only[Xb9,this,jA]
 ·have:Xa1 a2 (k,0)=some (.inr k2):=e4
  simp only[Xca,this,jA,sel]
theorem Xk9 (a:(List Int)) (k:Int) (hk:0≤k) (hw:k+wt (.sl (.int .i64)) a≤4611686018427387904) (hz:wt (.sl (.int .i64)) a≤2147483648):MH Xen Xep (wt (.sl (.int .i64)) a) a k:=by
 simp only[wA] at hw hz
 have hl:a.length≤2147483648:=by have:=Ylm (wt (.int .i64)) (fun x=>by simp only[wA];omega) a;omega
 have hs:∀ (k:Int) (i:Nat) (a:(List Int)) (h:i<a.length),a.length≤2147483648→0≤k→k+wt (.int .i64) a[i]≤4611686018427387904→wt (.int .i64) a[i]≤2147483648→∃ k2 x2,k≤k2∧k2≤k+wt (.int .i64) a[i]∧Xau.B k (i:Int) a=some (.inl (k2,((i+1:Nat):Int),a.set i x2))∧∀ b:(List Int),b.length=a.length→b[i]? = some x2→Xa2.B b k (i:Int)=some (.inl (k2,((i+1:Nat):Int))):=by
  clear hw hz hl hk k a;intro k i a hi hl hk hw hz
  have hb:inB (i:Int) a.length=true:=Yub (by omega) (by omega)
  simp only[wA] at hw hz
  have w1:w64 (k+1)=k+1:=Ywk (by omega) (by omega)
  refine⟨k+1,k,by omega,by simp only[wA];omega,?_,fun b hlb hx=>?_⟩
  ·simp only[Xau.B,Ywa hi,hb,Yvs,toNat_cast,getD_lt _ hi,jA,w1,Yvp (by omega:i<4294967296),kM,kC,Yvd _ _ hi,show(!((3:Int) == 0))=true from rfl]
  ·have hc:inB (i:Int) b.length=true:=Yub (by omega) (by omega)
   have hd:decide ((i:Int)<(b.length:Int))=true:=Ywa (by omega)
   simp only[Xa2.B,hd,hc,Yvs,Yvr,toNat_cast,Yvw _ hx,jA,Yu2,Yuu,Yut,jK,w1,Yvp (by omega:i<4294967296),kM,kC,Yvd _ _ hi,show(!((3:Int) == 0))=true from rfl]
 obtain⟨k2,a2,e1,e2,e3,e4⟩:=Yuf (wt (.int .i64)) 4611686018427387904 (fun s=>Xau.B s.1 s.2.1 s.2.2) (fun b s=>Xa2.B b s.1 s.2) (fun k a=>by simp only[Xau.B,Yv5 (jB _),Yvr]) (fun k a=>by simp only[Xa2.B,Yv5 (jB _),Yvr]) hs k a hl hk (by omega) (by omega)
 refine⟨k2,a2,e1,by simp only[wA];omega,?_,?_⟩
 ·have:Xau (k,0,a)=some (k2,a2):=e3
  simp only[Xen,this,jA]
 ·have:Xa2 a2 (k,0)=some (.inr k2):=e4
  simp only[Xep,this,jA,sel]
theorem Xla (a:(List Xf)) (k:Int) (hk:0≤k) (hw:k+wt (.sl Xg) a≤4611686018427387904) (hz:wt (.sl Xg) a≤2147483648):MH Xb5 Xcb (wt (.sl Xg) a) a k:=by
 simp only[wA] at hw hz
 have hl:a.length≤2147483648:=by have:=Ylm (wt Xg) (fun x=>by simp only[wA];omega) a;omega
 have hs:∀ (k:Int) (i:Nat) (a:(List Xf)) (h:i<a.length),a.length≤2147483648→0≤k→k+wt Xg a[i]≤4611686018427387904→wt Xg a[i]≤2147483648→∃ k2 x2,k≤k2∧k2≤k+wt Xg a[i]∧Xav.B k (i:Int) a=some (.inl (k2,((i+1:Nat):Int),a.set i x2))∧∀ b:(List Xf),b.length=a.length→b[i]? = some x2→Xa3.B b k (i:Int)=some (.inl (k2,((i+1:Nat):Int))):=by
  clear hw hz hl hk k a;intro k i a hi hl hk hw hz
  have hb:inB (i:Int) a.length=true:=Yub (by omega) (by omega)
  simp only[wA] at hw hz
  obtain⟨s1,w1⟩:=Xjy (k) (by omega) (by omega)
  have w2:w64 (k+1)=k+1:=Ywk (by omega) (by omega)
  have w3:w64 (k+1+1)=k+1+1:=Ywk (by omega) (by omega)
  refine⟨k+1+1,(s1,k+1,()),by omega,by simp only[wA];omega,?_,fun b hlb hx=>?_⟩
  ·simp only[Xav.B,Ywa hi,hb,Yvs,toNat_cast,getD_lt _ hi,jA,w1,w2,w3,Yvp (by omega:i<4294967296),kM,kC,Yvd _ _ hi,show(!((3:Int) == 0))=true from rfl]
  ·have hc:inB (i:Int) b.length=true:=Yub (by omega) (by omega)
   have hd:decide ((i:Int)<(b.length:Int))=true:=Ywa (by omega)
   simp only[Xa3.B,hd,hc,Yvs,Yvr,toNat_cast,Yvw _ hx,jA,Yu2,Yuu,Yut,jK,w1,w2,w3,Yvp (by omega:i<4294967296),kM,kC,Yvd _ _ hi,show(!((3:Int) == 0))=true from rfl]
 obtain⟨k2,a2,e1,e2,e3,e4⟩:=Yuf (wt Xg) 4611686018427387904 (fun s=>Xav.B s.1 s.2.1 s.2.2) (fun b s=>Xa3.B b s.1 s.2) (fun k a=>by simp only[Xav.B,Yv5 (jB _),Yvr]) (fun k a=>by simp only[Xa3.B,Yv5 (jB _),Yvr]) hs k a hl hk (by omega) (by omega)
 refine⟨k2,a2,e1,by simp only[wA];omega,?_,?_⟩
 ·have:Xav (k,0,a)=some (k2,a2):=e3
  simp only[Xb5,this,jA]
 ·have:Xa3 a2 (k,0)=some (.inr k2):=e4
  simp only[Xcb,this,jA,sel]
theorem Xj0 (a:(List Xb)) (k:Int) (hk:0≤k) (hw:k+wt (.sl Xc) a≤4611686018427387904) (hz:wt (.sl Xc) a≤2147483648):MH Xb6 Xcc (wt (.sl Xc) a) a k:=by
 simp only[wA] at hw hz
 have hl:a.length≤2147483648:=by have:=Ylm (wt Xc) (fun x=>by simp only[wA];omega) a;omega
 have hs:∀ (k:Int) (i:Nat) (a:(List Xb)) (h:i<a.length),a.length≤2147483648→0≤k→k+wt Xc a[i]≤4611686018427387904→wt Xc a[i]≤2147483648→∃ k2 x2,k≤k2∧k2≤k+wt Xc a[i]∧Xaw.B k (i:Int) a=some (.inl (k2,((i+1:Nat):Int),a.set i x2))∧∀ b:(List Xb),b.length=a.length→b[i]? = some x2→Xa4.B b k (i:Int)=some (.inl (k2,((i+1:Nat):Int))):=by
  clear hw hz hl hk k a;intro k i a hi hl hk hw hz
  have hb:inB (i:Int) a.length=true:=Yub (by omega) (by omega)
  simp only[wA] at hw hz
  have w1:w64 (k+1)=k+1:=Ywk (by omega) (by omega)
  have w2:w64 (k+1+1)=k+1+1:=Ywk (by omega) (by omega)
  have w3:w64 (k+1+1+1)=k+1+1+1:=Ywk (by omega) (by omega)
  obtain⟨k4,y4,l4,u4,w4,v4⟩:=Xk9 a[i].2.2.2.1 (k+1+1+1) (by omega) (by simp only[wA];omega) (by simp only[wA];omega)
  simp only[wA] at u4
  obtain⟨k5,y5,l5,u5,w5,v5⟩:=Xla a[i].2.2.2.2.1 (k4) (by omega) (by simp only[wA];omega) (by simp only[wA];omega)
  simp only[wA] at u5
  refine⟨k5,(k,k+1,k+1+1,y4,y5,()),by omega,by simp only[wA];omega,?_,fun b hlb hx=>?_⟩
  ·simp only[Xaw.B,Ywa hi,hb,Yvs,toNat_cast,getD_lt _ hi,jA,w1,w2,w3,v4,w4,v5,w5,Yvp (by omega:i<4294967296),kM,kC,Yvd _ _ hi,show(!((3:Int) == 0))=true from rfl]
  ·have hc:inB (i:Int) b.length=true:=Yub (by omega) (by omega)
   have hd:decide ((i:Int)<(b.length:Int))=true:=Ywa (by omega)
   simp only[Xa4.B,hd,hc,Yvs,Yvr,toNat_cast,Yvw _ hx,jA,Yu2,Yuu,Yut,jK,w1,w2,w3,v4,w4,v5,w5,Yvx (by omega:0≤k4),Yvx (by omega:0≤k5),Yvp (by omega:i<4294967296),kM,kC,Yvd _ _ hi,show(!((3:Int) == 0))=true from rfl]
 obtain⟨k2,a2,e1,e2,e3,e4⟩:=Yuf (wt Xc) 4611686018427387904 (fun s=>Xaw.B s.1 s.2.1 s.2.2) (fun b s=>Xa4.B b s.1 s.2) (fun k a=>by simp only[Xaw.B,Yv5 (jB _),Yvr]) (fun k a=>by simp only[Xa4.B,Yv5 (jB _),Yvr]) hs k a hl hk (by omega) (by omega)
 refine⟨k2,a2,e1,by simp only[wA];omega,?_,?_⟩
 ·have:Xaw (k,0,a)=some (k2,a2):=e3
  simp only[Xb6,this,jA]
 ·have:Xa4 a2 (k,0)=some (.inr k2):=e4
  simp only[Xcc,this,jA,sel]
theorem Xj1 (a:(List (List Int))) (k:Int) (hk:0≤k) (hw:k+wt (.sl (.sl (.int .u8))) a≤4611686018427387904) (hz:wt (.sl (.sl (.int .u8))) a≤2147483648):MH Xb7 Xcd (wt (.sl (.sl (.int .u8))) a) a k:=by
 simp only[wA] at hw hz
 have hl:a.length≤2147483648:=by have:=Ylm (wt (.sl (.int .u8))) (fun x=>by simp only[wA];omega) a;omega
 have hs:∀ (k:Int) (i:Nat) (a:(List (List Int))) (h:i<a.length),a.length≤2147483648→0≤k→k+wt (.sl (.int .u8)) a[i]≤4611686018427387904→wt (.sl (.int .u8)) a[i]≤2147483648→∃ k2 x2,k≤k2∧k2≤k+wt (.sl (.int .u8)) a[i]∧Xay.B k (i:Int) a=some (.inl (k2,((i+1:Nat):Int),a.set i x2))∧∀ b:(List (List Int)),b.length=a.length→b[i]? = some x2→Xa5.B b k (i:Int)=some (.inl (k2,((i+1:Nat):Int))):=by
  clear hw hz hl hk k a;intro k i a hi hl hk hw hz
  have hb:inB (i:Int) a.length=true:=Yub (by omega) (by omega)
  simp only[wA] at hw hz
  obtain⟨k1,y1,l1,u1,w1,v1⟩:=Xjz a[i] (k) (by omega) (by simp only[wA];omega) (by simp only[wA];omega)
  simp only[wA] at u1
  refine⟨k1,y1,by omega,by simp only[wA];omega,?_,fun b hlb hx=>?_⟩
  ·simp only[Xay.B,Ywa hi,hb,Yvs,toNat_cast,getD_lt _ hi,jA,v1,w1,Yvp (by omega:i<4294967296),kM,kC,Yvd _ _ hi,show(!((3:Int) == 0))=true from rfl]
  ·have hc:inB (i:Int) b.length=true:=Yub (by omega) (by omega)
   have hd:decide ((i:Int)<(b.length:Int))=true:=Ywa (by omega)
   simp only[Xa5.B,hd,hc,Yvs,Yvr,toNat_cast,Yvw _ hx,jA,Yu2,Yuu,Yut,jK,v1,w1,Yvx (by omega:0≤k1),Yvp (by omega:i<4294967296),kM,kC,Yvd _ _ hi,show(!((3:Int) == 0))=true from rfl]
 obtain⟨k2,a2,e1,e2,e3,e4⟩:=Yuf (wt (.sl (.int .u8))) 4611686018427387904 (fun s=>Xay.B s.1 s.2.1 s.2.2) (fun b s=>Xa5.B b s.1 s.2) (fun k a=>by simp only[Xay.B,Yv5 (jB _),Yvr]) (fun k a=>by simp only[Xa5.B,Yv5 (jB _),Yvr]) hs k a hl hk (by omega) (by omega)
 refine⟨k2,a2,e1,by simp only[wA];omega,?_,?_⟩
 ·have:Xay (k,0,a)=some (k2,a2):=e3
  simp only[Xb7,this,jA]
 ·have:Xa5 a2 (k,0)=some (.inr k2):=e4
  simp only[Xcd,this,jA,sel]
theorem Xlb (x_0:List Xb) (x_1:List (List Int)) (k:Int) (hk:0≤k) (hw:k+wt Xl (x_0,x_1,())≤4611686018427387904) (hz:wt Xl (x_0,x_1,())≤2147483648):∃ k2 y0 y1,k≤k2∧k2≤k+wt Xl (x_0,x_1,())∧Xb8 (x_0,x_1,()) k=some (k2,(y0,y1,()))∧Xdu (y0,y1,()) k=some k2:=by
 simp only[wA] at hw hz
 obtain⟨k0,y0,l0,u0,w0,v0⟩:=Xj0 x_0 k (by omega) (by simp only[wA];omega) (by simp only[wA];omega)
 simp only[wA] at u0
 obtain⟨k1,y1,l1,u1,w1,v1⟩:=Xj1 x_1 k0 (by omega) (by simp only[wA];omega) (by simp only[wA];omega)
 simp only[wA] at u1
 refine⟨k1,y0,y1,by omega,by simp only[wA];omega,?_,?_⟩
 ·simp only[Xb8,w0,w1,jA,Ywj]
 ·simp only[Xdu,v0,v1,jA,Yvr,Yvx (by omega:0≤k0),Yvx (by omega:0≤k1)]
theorem Xlc (x_0:Int) (x_1:Int) (x_2:Int) (x_3:List Int) (x_4:List (List UInt8)) (x_5_0:List Xb) (x_5_1:List (List Int)) (k:Int) (hk:0≤k) (hw:k+wt Xo (x_0,x_1,x_2,x_3,x_4,(x_5_0,x_5_1,()),())≤4611686018427387904) (hz:wt Xo (x_0,x_1,x_2,x_3,x_4,(x_5_0,x_5_1,()),())≤2147483648):∃ k2 y0 y1 y2 y3,k≤k2∧k2≤k+wt Xo (x_0,x_1,x_2,x_3,x_4,(x_5_0,x_5_1,()),())∧Xeo (x_0,x_1,x_2,x_3,x_4,(x_5_0,x_5_1,()),()) k=some (k2,(x_0,x_1,x_2,y0,y1,(y2,y3,()),()))∧Xdv (x_0,x_1,x_2,y0,y1,(y2,y3,()),()) k=some k2:=by
 simp only[wA] at hw hz
 obtain⟨k0,y0,l0,u0,w0,v0⟩:=Xjz x_3 k (by omega) (by simp only[wA];omega) (by simp only[wA];omega)
 simp only[wA] at u0
 obtain⟨k1,y1,l1,u1,w1,v1⟩:=Xk8 x_4 k0 (by omega) (by simp only[wA];omega) (by simp only[wA];omega)
 simp only[wA] at u1
 obtain⟨k2,y2,l2,u2,w2,v2⟩:=Xj0 x_5_0 k1 (by omega) (by simp only[wA];omega) (by simp only[wA];omega)
 simp only[wA] at u2
 obtain⟨k3,y3,l3,u3,w3,v3⟩:=Xj1 x_5_1 k2 (by omega) (by simp only[wA];omega) (by simp only[wA];omega)
 simp only[wA] at u3
 refine⟨k3,y0,y1,y2,y3,by omega,by simp only[wA];omega,?_,?_⟩
 ·simp only[Xeo,Xb8,w0,w1,w2,w3,jA,Ywj]
 ·simp only[Xdv,Xdu,v0,v1,v2,v3,jA,Yvr,Yvx (by omega:0≤k0),Yvx (by omega:0≤k1),Yvx (by omega:0≤k2),Yvx (by omega:0≤k3)]
def inR (v lo hi:Int):Bool:=cond (decide (v≥lo)) (decide (v≤hi)) false
theorem Xck {v lo hi:Int}:inR v lo hi=true↔lo≤v∧v≤hi:=by
 unfold inR;by_cases h:v≥lo<;>simp[h]<;>omega
theorem Xhz (v lo hi:Int):Xa9 v lo hi=some (inR v lo hi):=rfl
theorem Xh1 (v lo hi:Int):Xba v lo hi=some (inR v lo hi):=rfl
theorem Xhw {α:Type} (p:α→Bool) (l:List α):((some (match Yn3 p 0 l with | some j=>.inl (j:Int) | none=>.inr ():Int⊕Unit)).bind fun o=>sel o (fun b=>some b) (fun c=>some (-1))).bind (fun r=>some (decide (r≥0)))=some (l.any p):=by
 cases h:Yn3 p 0 l with
 |none=>rw[Yps.1 h];rfl
 |some j=>
  have:l.any p=true:=by
   cases ha:l.any p with
   |true=>rfl
   |false=>rw[Yps.2 ha] at h;cases h
  rw[this];simp[sel]
theorem Xcg (n:Int) (g:Option Int):((some (cond (n != 0) (.inl n) (.inr ()):Int⊕Unit)).bind fun o=>sel o (fun b=>some b) (fun _=>g))=cond (n != 0) (some n) g:=by
 cases (n != 0)<;>rfl
theorem Xap (n:Int):cond (n != 0) (some n) (some 0)=some n:=by
 cases h:(n != 0)
 ·have:n=0:=by simpa using h
  rw[this];rfl
 ·rfl
theorem Xdl {α:Type} {xs:List α} (h:xs.length≤2147483648):Yqv xs=some xs:=by
 unfold Yqv;rw[show decide (xs.length≤2147483648)=true by simp;omega];rfl
theorem Xid {n:Nat} (h:n≤2147483648):decide (n≤2147483648)=true:=by simp;omega
theorem Xld (l:List (List Int)) (h:Bd (.sl (.sl (.int .u8))) l):Xbp l=some l:=by
 obtain⟨hl,hb⟩:=h
 have h:Xbo l (l.length:Int) (0,[])=some ([]++l.map id):=
  Yuw l (f:=fun s=>Xbo.B l (l.length:Int) s.1 s.2) id id 0 (fun i hi t ht=>by
   have hx:=(hb l[i] (jE hi)).1
   simp only[Xbo.B,Ywa hi,Yv7 hi,Yvs,toNat_cast,getD_lt _ hi,Xf0,Xdl hx,jA,Yvp (by omega:i<4294967296),id]
   rw[Xid (by simp;omega)];rfl) (fun t ht=>by
   simp only[Xbo.B,Yv5 (jB _),Yvr,id]) [] rfl
 simp only[Xbp,h,jA];simp
theorem Xle (f:Fs_) (h:Bd Xl f):Xbr f=some f:=by
 obtain⟨l,d,⟨⟩⟩:=f;obtain⟨⟨hl,hb⟩,hd,_⟩:=h;replace hl:l.length≤2147483648:=hl;replace hb:∀ x∈l,Bd Xc x:=hb;replace hd:Bd (.sl (.sl (.int .u8))) d:=hd
 have h:Xbq l (l.length:Int) ([],[],()) (0,([],d,()))=some (l.foldl (fun(t:Fs_) x=>(t.1++[x],t.2)) ([],d,())):=
  Yn9 l (f:=fun s=>Xbq.B l (l.length:Int) ([],[],()) s.1 s.2) (fun(t:Fs_) x=>(t.1++[x],t.2)) id (fun i t=>t.1.length=i) (fun i hi t ht=>by
   have hx:=hb l[i] (jE hi);obtain⟨hx1,hx2,hx3,hx4,hx5,_⟩:=hx;have e1:Yqv l[i].2.2.2.1=some l[i].2.2.2.1:=Xdl hx4.1;have e2:Yqv l[i].2.2.2.2.1=some l[i].2.2.2.2.1:=Xdl hx5.1
   refine⟨?_,by simp[ht]⟩
   simp only[Xbq.B,Ywa hi,Yv7 hi,Yvs,toNat_cast,getD_lt _ hi,Xcs,Xf1,e1,e2,jA,Yvp (by omega:i<4294967296),Ywj]
   rw[Xid (by simp;omega)];rfl) (fun t ht=>by
   simp only[Xbq.B,Yv5 (jB _),Yvr,id]) _ rfl
 have h2:∀ (l:List Xb) (t:Fs_),l.foldl (fun(t:Fs_) x=>(t.1++[x],t.2)) t=(t.1++l,t.2):=by
  intro l
  induction l with
  |nil=>intro t;simp
  |cons x l ih=>intro t;simp[ih]
 simp only[Xbr,Xld d hd,jA,h,h2];simp
def Xht (b:UInt8):Bool:=cond (decide ((b.toNat:Int)<97)) true (decide ((b.toNat:Int)>122))
def Xu (s:List UInt8):Int:=cond (s.any Xht) 5 (cond (s == []) 5 (cond (decide ((s.length:Int)>4)) 2 0))
theorem Xj2 (s:List UInt8) (hl:s.length≤2147483648):Xga s=some (Xu s):=by
 have h:Xf9 s 0=_:=Yve s Xht (5:Int) (fun i hi=>by
  simp only[Xf9.B,Ywa hi,Yv7 hi,Yvs,toNat_cast,getD_lt _ hi,jA,Yvp (by omega:i<4294967296),Xht,Yuv]) (by
  simp only[Xf9.B,Yv5 (jB _),Yvr])
 simp only[Xga,h,jA,Xu];cases s.any Xht
 ·simp only[Yvr,Yvz,Yux]
 ·rfl
theorem Xj3 (s:List UInt8) (hl:s.length≤2147483648):Xco s=some (Xu s):=by
 have h:Xcn s (s.length:Int) 0=_:=Yve s Xht (5:Int) (fun i hi=>by
  simp only[Xcn.B,Ywa hi,Yv7 hi,Yvs,toNat_cast,getD_lt _ hi,jA,Yvp (by omega:i<4294967296),Xht,Yuv]) (by
  simp only[Xcn.B,Yv5 (jB _),Yvr])
 simp only[Xco,h,jA,Xu]
 cases s with
 |nil=>rfl
 |cons b s=>
  rw[show((b::s:List UInt8) == [])=false from rfl];simp only[Yvr];cases (b::s).any Xht
  ·simp only[Yvr,Yvz,Yux]
  ·rfl
theorem Xik {s:List UInt8} (h:Xu s=0):s≠[]∧s.length≤4∧s.any Xht=false:=by
 unfold Xu at h
 cases h1:s.any Xht with
 |true=>rw[h1] at h;cases h
 |false=>
  rw[h1] at h
  cases h2:(s == []) with
  |true=>rw[h2] at h;cases h
  |false=>
   rw[h2] at h
   cases h3:decide ((s.length:Int)>4) with
   |true=>rw[h3] at h;cases h
   |false=>exact⟨(by intro e;subst e;cases h2),(by simp at h3;omega),rfl⟩
def Xhv:List Int→List Int→Bool
 |_,[]=>false
 |a,x::l=>a.contains x || Xhv (a++[x]) l
theorem Xbb {α:Type} (p:α→Bool) (l:List α) {o:Option (Int⊕Unit)} (h:o=some (match Yn3 p 0 l with | some j=>.inl (j:Int) | none=>.inr ())):(o.bind fun o=>sel o (fun b=>some b) (fun c=>some (-1))).bind (fun r=>some (decide (r≥0)))=some (l.any p):=by
 rw[h];exact Xhw p l
theorem Xj4 (l:List Int) (v:Int) (hl:l.length≤2147483648):Xgp l v=some (l.contains v):=by
 have h:Xgo l v (l.length:Int) 0=_:=Yvf l (fun x=>v == x) (fun i hi=>by
  simp only[Xgo.B,Ywa hi,Yv7 hi,Yvs,toNat_cast,getD_lt _ hi,jA,Yvp (by omega:i<4294967296)]) (by
  simp only[Xgo.B,Yv5 (jB _),Yvr]) 0 (kE _)
 simp only[Xgp,Xia];rw[Xbb _ _ h,List.any_beq,List.drop_zero]
theorem Xlf (l:List Int) (v:Int) (hl:l.length≤2147483648):Xgt l v=some (l.contains v):=by
 have h:Xgf l v 0=_:=Yve l (fun x=>x == v) true (fun i hi=>by
  simp only[Xgf.B,Ywa hi,Yv7 hi,Yvs,toNat_cast,getD_lt _ hi,jA,Yvp (by omega:i<4294967296)]) (by
  simp only[Xgf.B,Yv5 (jB _),Yvr])
 simp only[Xgt,h,jA];rw[←List.any_beq,show(fun x:Int=>x == v)=fun x=>v == x from funext fun x=>Bool.beq_comm]
 cases l.any fun x=>v == x<;>rfl
def Xi4 (n:Int):Int:=w64 ((w64 ((w64 (n+8))-1)).tdiv 8)
def Xf5 (x:Xb):Int:=cond (!inR x.2.1 1 60) 3 (cond (!inR x.2.2.1 0 32) 3 (cond ((x.2.2.2.1.length:Int) != Xi4 x.2.2.1) 1 (cond (x.2.2.2.1.any fun b=>!inR b 0 19) 3 (cond (Xhv [] x.2.2.2.1) 7 0))))
theorem Xlg (x:Xb) (hl:x.2.2.2.1.length≤2147483648) (n:Nat) (hn:n<x.2.2.2.1.length):Xeq x (n:Int) 0=some (cond ((x.2.2.2.1.take n).contains x.2.2.2.1[n]) (.inl 7) (.inr ())):=by
 have h:Xeq x (n:Int) 0=_:=Yve (x.2.2.2.1.take n) (fun y=>y == x.2.2.2.1[n]) (7:Int) (fun i hi=>by
  have hi':i<n:=by simp at hi;omega
  simp only[Xeq.B,Ywa hi',Yv7 (by omega:i<x.2.2.2.1.length),Yv7 hn,Yvs,toNat_cast,getD_lt _ (by omega:i<x.2.2.2.1.length),getD_lt _ hn,jA,Yvp (by omega:i<4294967296),List.getElem_take]) (by
  have:(x.2.2.2.1.take n).length=n:=by simp;omega
  rw[this]
  simp only[Xeq.B,Yv5 (jB _),Yvr])
 rw[h,←List.any_beq,show(fun y:Int=>y == x.2.2.2.1[n])=fun y=>x.2.2.2.1[n] == y from funext fun y=>Bool.beq_comm]
theorem Xfs (l:List Int):∀ (k n:Nat),n+k=l.length→Ybv (τ:=Unit) (fun i y _=>cond ((l.take i).contains y) (.inr (.inl 7)) (.inl ())) (fun _=>(.inr ():Int⊕Unit)) n (l.drop n) ()=cond (Xhv (l.take n) (l.drop n)) (.inl 7) (.inr ())
 |0,n,h=>by
  have:n=l.length:=by omega
  subst this
  simp[Ybv,Xhv]
 |k+1,n,h=>by
  have hn:n<l.length:=by omega
  rw[kZ hn];simp only[Ybv,Xhv]
  have e:l.take n++[l[n]]=l.take (n+1):=by simp
  rw[e];cases (l.take n).contains l[n]
  ·simp only[Yvr,Yvy,Bool.false_or];exact Xfs l k (n+1) (by omega)
  ·rfl
theorem Xlh (x:Xb) (hl:x.2.2.2.1.length≤2147483648):Xdc x=some (Xf5 x):=by
 have h0:Xf8 x 0=_:=Yve x.2.2.2.1 (fun b=>!inR b 0 19) (3:Int) (fun i hi=>by
  simp only[Xf8.B,Ywa hi,Yv7 hi,Yvs,toNat_cast,getD_lt _ hi,Xhz,jA,Yvp (by omega:i<4294967296)]) (by
  simp only[Xf8.B,Yv5 (jB _),Yvr])
 have h1:Xe9 x 0=some (cond (Xhv [] x.2.2.2.1) (.inl 7) (.inr ())):=by
  have:=Yiz (τ:=Unit) x.2.2.2.1 (f:=fun s=>Xe9.B x s) (fun i _=>(i:Int)) (fun i y _=>cond ((x.2.2.2.1.take i).contains y) (.inr (.inl 7)) (.inl ())) (fun _=>(.inr ():Int⊕Unit)) (fun i hi t=>by
   simp only[Xe9.B,Ywa hi,Yvs,Xlg x hl i hi,jA,Yvp (by omega:i<4294967296)]
   cases (x.2.2.2.1.take i).contains x.2.2.2.1[i]<;>rfl) (fun t=>by
   simp only[Xe9.B,Yv5 (jB _),Yvr]) () (s:=0) rfl
  refine Eq.trans this ?_
  congr 1
  exact Xfs x.2.2.2.1 x.2.2.2.1.length 0 (by omega)
 have h8:(!((8:Int) == 0))=true:=rfl;simp only[Xdc,Xh0,Xh2,Xhz,jA,h8,Yvs,h0,h1,Xf5,Xi4,Yux];cases inR x.2.1 1 60
 ·rfl
 ·cases inR x.2.2.1 0 32
  ·rfl
  ·simp only[jK,Yvr]
   cases ((x.2.2.2.1.length:Int) != w64 ((w64 ((w64 (x.2.2.1+8))-1)).tdiv 8))
   ·simp only[Yvr]
    cases x.2.2.2.1.any fun b=>!inR b 0 19
    ·simp only[Yvr,Yvz]
     cases Xhv [] x.2.2.2.1<;>rfl
    ·rfl
   ·rfl
theorem Xli (x:Xb) (hl:x.2.2.2.1.length≤2147483648):Xbd x=some (Xf5 x):=by
 have h0:Xhs x.2.2.2.1 ()=some (x.2.2.2.1.any fun b=>!inR b 0 19):=by
  have h:Xgm x.2.2.2.1 () (x.2.2.2.1.length:Int) 0=_:=Yvf x.2.2.2.1 (fun b=>!inR b 0 19) (fun i hi=>by
   simp only[Xgm.B,Ywa hi,Yv7 hi,Yvs,toNat_cast,getD_lt _ hi,Xh9,Xh1,jA,Yvp (by omega:i<4294967296)]) (by
   simp only[Xgm.B,Yv5 (jB _),Yvr]) 0 (kE _)
  simp only[Xhs,Xgn];exact Xbb _ _ h
 have h1:Xfq x x.2.2.2.1 (x.2.2.2.1.length:Int) 0=some (cond (Xhv [] x.2.2.2.1) (.inl 7) (.inr ())):=by
  have:=Yiz (τ:=Unit) x.2.2.2.1 (f:=fun s=>Xfq.B x x.2.2.2.1 (x.2.2.2.1.length:Int) s) (fun i _=>(i:Int)) (fun i y _=>cond ((x.2.2.2.1.take i).contains y) (.inr (.inl 7)) (.inl ())) (fun _=>(.inr ():Int⊕Unit)) (fun i hi t=>by
   have e1:(decide ((0:Int)≤(i:Int))&&decide ((i:Int)≤(x.2.2.2.1.length:Int)))=true:=by simp;omega
   have e2:=Xj4 (x.2.2.2.1.take i) x.2.2.2.1[i] (by simp;omega)
   simp only[Xfq.B,Ywa hi,Yv7 hi,Yvs,toNat_cast,getD_lt _ hi,e1,List.drop_zero,e2,jA,Yvp (by omega:i<4294967296)]
   cases (x.2.2.2.1.take i).contains x.2.2.2.1[i]<;>rfl) (fun t=>by
   simp only[Xfq.B,Yv5 (jB _),Yvr]) () (s:=0) rfl
  refine Eq.trans this ?_
  congr 1
  exact Xfs x.2.2.2.1 x.2.2.2.1.length 0 (by omega)
 have h8:(!((8:Int) == 0))=true:=rfl;simp only[Xbd,Xh8,Xh7,Xh1,jA,h8,Yvs,h0,h1,Xf5,Xi4,Yux];cases inR x.2.1 1 60
 ·rfl
 ·cases inR x.2.2.1 0 32
  ·rfl
  ·simp only[jK,Yvr]
   cases ((x.2.2.2.1.length:Int) != w64 ((w64 ((w64 (x.2.2.1+8))-1)).tdiv 8))
   ·simp only[Yvr]
    cases x.2.2.2.1.any fun b=>!inR b 0 19
    ·simp only[Yvr]
     cases Xhv [] x.2.2.2.1<;>rfl
    ·rfl
   ·rfl
def Xd0 (prev:Option (List UInt8)) (e:Xf):Int:=
 cond (Xu e.1 != 0) (Xu e.1) (cond (!inR e.2.1 0 9) 3 (match prev with | none=>0 | some p=>cond (leB p e.1) 0 1))
def Xce:Option (List UInt8)→List Xf→Int
 |_,[]=>0
 |p,e::l=>cond (Xd0 p e != 0) (Xd0 p e) (Xce (some e.1) l)
def Xhu (x:Xb):Int:=cond (decide ((x.2.2.2.2.1.length:Int)>6)) 2 (Xce none x.2.2.2.2.1)
theorem Xiz:∀ (a b:List UInt8),(leB a b || a == b) = !leB b a
 |[],[]=>rfl
 |[],_::_=>rfl
 |_::_,[]=>by simp[leB]
 |x::a,y::b=>by
  have ih:=Xiz a b;simp only[leB]
  by_cases e:x=y
  ·subst e
   have h:¬ x<x:=UInt8.lt_irrefl x;simp only[h,decide_false,Bool.false_or,beq_self_eq_true,Bool.true_and]
   rw[←ih,show(x::a == x::b)=(a == b) by simp]
  ·have e':¬ y=x:=fun h=>e h.symm
   rw[show(x == y)=false by simp[e],show(y == x)=false by simp[e'],show(x::a == y::b)=false by simp[e]]
   simp only[Bool.false_and,Bool.or_false]
   by_cases h1:x<y
   ·have:¬ y<x:=fun h=>absurd (UInt8.lt_trans h1 h) (UInt8.lt_irrefl x)
    simp[h1,this]
   ·have:y<x:=by
     rw[UInt8.lt_iff_toNat_lt] at *;have:x.toNat≠y.toNat:=fun h=>e (UInt8.toNat_inj.1 h);omega
    simp[h1,this]
def Xcf (l:List Xf):Nat→Option (List UInt8)
 |0=>none
 |j+1=>(l[j]?).map (·.1)
theorem Xft (l:List Xf):∀ (k n:Nat),n+k=l.length→Ybv (τ:=Unit) (fun i e _=>cond (Xd0 (Xcf l i) e != 0) (.inr (.inl (Xd0 (Xcf l i) e))) (.inl ())) (fun _=>(.inr ():Int⊕Unit)) n (l.drop n) () =
  cond (Xce (Xcf l n) (l.drop n) != 0) (.inl (Xce (Xcf l n) (l.drop n))) (.inr ())
 |0,n,h=>by
  have:n=l.length:=by omega
  subst this
  simp[Ybv,Xce]
 |k+1,n,h=>by
  have hn:n<l.length:=by omega
  have hp:Xcf l (n+1)=some l[n].1:=by simp[Xcf,hn]
  have ih:=Xft l k (n+1) (by omega)
  rw[hp] at ih;rw[kZ hn];simp only[Ybv,Xce];generalize Xcf l n=p;cases hc:(Xd0 p l[n] != 0)
  ·simp only[Yvr,Yvy];exact ih
  ·simp only[Yvs,Yvz,hc]
theorem Xlj (x:Xb) (hb:Bd Xc x):Xfb x=some (Xhu x):=by
 simp only[Xfb,Xhu]
 cases hd:decide ((x.2.2.2.2.1.length:Int)>6) with
 |true=>rfl
 |false=>
  have hl:x.2.2.2.2.1.length≤6:=by simp at hd;omega
  have h:Xfa x 0=some (cond (Xce none x.2.2.2.2.1 != 0) (.inl (Xce none x.2.2.2.2.1)) (.inr ())):=by
   have:=Yiz (τ:=Unit) x.2.2.2.2.1 (f:=fun s=>Xfa.B x s) (fun i _=>(i:Int)) (fun i e _=>cond (Xd0 (Xcf x.2.2.2.2.1 i) e != 0) (.inr (.inl (Xd0 (Xcf x.2.2.2.2.1 i) e))) (.inl ())) (fun _=>(.inr ():Int⊕Unit)) (fun i hi t=>by
    have hn:(x.2.2.2.2.1[i]).1.length≤2147483648:=(hb.2.2.2.2.1.2 _ (jE hi)).1
    simp only[Xfa.B,Ywa hi,Yv7 hi,Yvs,toNat_cast,getD_lt _ hi,Xhz,Xj2 _ hn,jA,Yvp (by omega:i<4294967296)]
    simp only[Xd0];cases hc:(Xu (x.2.2.2.2.1[i]).1 != 0)
    ·simp only[Yvr]
     cases inR (x.2.2.2.2.1[i]).2.1 0 9
     ·rfl
     ·simp only[jK,Yvr]
      cases i with
      |zero=>rfl
      |succ j=>
       have hj:j<x.2.2.2.2.1.length:=by omega
       have hw:w64 (((j+1:Nat):Int)-1)=(j:Int):=by rw[Yr8 (by omega) (by omega)];omega
       rw[show decide (((j+1:Nat):Int)>0)=true by simp]
       simp only[Yvs,hw,Yv7 hj,toNat_cast,getD_lt _ hj,Xcf,kV hj,jT,Xiz]
       cases leB (x.2.2.2.2.1[j]).1 (x.2.2.2.2.1[j+1]).1<;>rfl
    ·simp only[Yvs,hc];rfl) (fun t=>by
    simp only[Xfa.B,Yv5 (jB _),Yvr]) () (s:=0) rfl
   refine Eq.trans this ?_
   congr 1
   exact Xft x.2.2.2.2.1 x.2.2.2.2.1.length 0 (by omega)
  rw[h,Yvr,Yvr,Xcg,Xap]
theorem Xlk (x:Xb) (hb:Bd Xc x):Xbf x=some (Xhu x):=by
 simp only[Xbf,Xhu]
 cases hd:decide ((x.2.2.2.2.1.length:Int)>6) with
 |true=>rfl
 |false=>
  have hl:x.2.2.2.2.1.length≤6:=by simp at hd;omega
  have h:Xbe x x.2.2.2.2.1 (x.2.2.2.2.1.length:Int) 0=some (cond (Xce none x.2.2.2.2.1 != 0) (.inl (Xce none x.2.2.2.2.1)) (.inr ())):=by
   have:=Yiz (τ:=Unit) x.2.2.2.2.1 (f:=fun s=>Xbe.B x x.2.2.2.2.1 (x.2.2.2.2.1.length:Int) s) (fun i _=>(i:Int)) (fun i e _=>cond (Xd0 (Xcf x.2.2.2.2.1 i) e != 0) (.inr (.inl (Xd0 (Xcf x.2.2.2.2.1 i) e))) (.inl ())) (fun _=>(.inr ():Int⊕Unit)) (fun i hi t=>by
    have hn:(x.2.2.2.2.1[i]).1.length≤2147483648:=(hb.2.2.2.2.1.2 _ (jE hi)).1
    simp only[Xbe.B,Ywa hi,Yv7 hi,Yvs,toNat_cast,getD_lt _ hi,Xh1,Xj3 _ hn,jA,Yvp (by omega:i<4294967296)]
    simp only[Xd0];cases hc:(Xu (x.2.2.2.2.1[i]).1 != 0)
    ·simp only[Yvr]
     cases inR (x.2.2.2.2.1[i]).2.1 0 9
     ·rfl
     ·simp only[jK,Yvr]
      cases i with
      |zero=>rfl
      |succ j=>
       have hj:j<x.2.2.2.2.1.length:=by omega
       have hw:w64 (((j+1:Nat):Int)-1)=(j:Int):=by rw[Yr8 (by omega) (by omega)];omega
       rw[show decide (((j+1:Nat):Int)>0)=true by simp]
       simp only[Yvs,hw,Yv7 hj,toNat_cast,getD_lt _ hj,Xcf,kV hj,jT]
       cases leB (x.2.2.2.2.1[j]).1 (x.2.2.2.2.1[j+1]).1<;>rfl
    ·simp only[Yvs,hc];rfl) (fun t=>by
    simp only[Xbe.B,Yv5 (jB _),Yvr]) () (s:=0) rfl
   refine Eq.trans this ?_
   congr 1
   exact Xft x.2.2.2.2.1 x.2.2.2.2.1.length 0 (by omega)
  rw[h,Yvr,Yvr,Xcg,Xap]
def Xab (x:Xb):Int:=
 cond (!inR x.1 0 2) 1 (cond (cond (cond (x.1 != 1) (cond (cond (x.2.1 != 0) true (x.2.2.1 != 0)) true (decide ((x.2.2.2.1.length:Int)>0))) false) true (cond (x.1 != 2) (decide ((x.2.2.2.2.1.length:Int)>0)) false)) 1
  (cond (x.1 == 1) (Xf5 x) (cond (x.1 == 2) (Xhu x) 0)))
theorem Xll (x:Xb) (hb:Bd Xc x):Xhh x=some (Xab x):=by
 simp only[Xhh,Xab,Xhz,Xlh x hb.2.2.2.1.1,Xlj x hb,jA];simp only[Yux]
theorem Xi0 (n:Nat):decide ((n:Int)>0) = !((n:Int) == 0):=by
 rw[Bool.eq_iff_iff];simp only[jI,Bool.not_eq_true',beq_eq_false_iff_ne,ne_eq];omega
theorem not_bne (a b:Int):(a == b) = !(a != b):=(Bool.not_not _).symm
theorem Xlm (x:Xb) (hb:Bd Xc x):Xd5 x=some (Xab x):=by
 simp only[Xd5,Xab,Xh1,Xli x hb.2.2.2.1.1,Xlk x hb,jA];cases inR x.1 0 2
 ·rfl
 ·simp only[jK,Yvr]
  have e1:(cond (cond (x.2.1 == 0) (x.2.2.1 == 0) false) ((x.2.2.2.1.length:Int) == 0) false) = !(cond (cond (x.2.1 != 0) true (x.2.2.1 != 0)) true (decide ((x.2.2.2.1.length:Int)>0))):=by
   rw[show(x.2.1 != 0) = !(x.2.1 == 0) from rfl,show(x.2.2.1 != 0) = !(x.2.2.1 == 0) from rfl,Xi0]
   cases (x.2.1 == 0)<;>cases (x.2.2.1 == 0)<;>cases ((x.2.2.2.1.length:Int) == 0)<;>rfl
  have e2:(!((x.2.2.2.2.1.length:Int) == 0))=decide ((x.2.2.2.2.1.length:Int)>0):=(Xi0 _).symm;rw[e1,e2,Bool.not_not]
  cases (cond (cond (x.2.1 != 0) true (x.2.2.1 != 0)) true (decide ((x.2.2.2.1.length:Int)>0)))<;>cases h1:(x.1 != 1)<;>cases h2:(x.1 != 2)<;>cases hd:decide ((x.2.2.2.2.1.length:Int)>0)<;>simp only[Yvs,Yvr]
  all_goals (rw[not_bne x.1 1,not_bne x.1 2,h1,h2])
  all_goals simp only[jK,kQ,Yvs,Yvr]
  all_goals first | rfl | skip
  all_goals (
   have hz:x.2.2.2.2.1=[]:=by simp at hd;exact hd
   have:Xhu x=0:=by simp[Xhu,hz,Xce]
   rw[this])
def Xw (l:List Xb):Int:=cond (decide ((l.length:Int)>10)) 2 (Ygp Xab l)
theorem Xln (l:List Xb) (hb:Bd (.sl Xc) l):Xfc l=some (Xw l):=by
 simp only[Xfc,Xw]
 cases hd:decide ((l.length:Int)>10) with
 |true=>rfl
 |false=>
  have hl:l.length≤10:=by simp at hd;omega
  have h:Xgb l 0=_:=Yue l Xab (fun i hi=>by
   simp only[Xgb.B,Ywa hi,Yv7 hi,Yvs,toNat_cast,getD_lt _ hi,Xll _ (hb.2 _ (jE hi)),jA,Yvp (by omega:i<4294967296)]) (by
   simp only[Xgb.B,Yv5 (jB _),Yvr])
  rw[h,Yvr,Yvr,Xcg,Xap]
theorem Xlo (l:List Xb) (hb:Bd (.sl Xc) l):Xbg l=some (Xw l):=by
 simp only[Xbg,Xw]
 cases hd:decide ((l.length:Int)>10) with
 |true=>rfl
 |false=>
  have hl:l.length≤10:=by simp at hd;omega
  have h:Xcp l (l.length:Int) 0=_:=Yue l Xab (fun i hi=>by
   simp only[Xcp.B,Ywa hi,Yv7 hi,Yvs,toNat_cast,getD_lt _ hi,Xlm _ (hb.2 _ (jE hi)),jA,Yvp (by omega:i<4294967296)]) (by
   simp only[Xcp.B,Yv5 (jB _),Yvr])
  rw[h,Yvr,Yvr,Xcg,Xap]
def X5 (l:List Xb):List Int:=l.flatMap fun x=>x.2.2.2.1
theorem Xa6 {x:Xb} (h:Xab x=0):x.2.2.2.1.length≤4∧(∀ b∈x.2.2.2.1,0≤b∧b≤19)∧(x.1≠1→x.2.2.2.1=[])∧(x.1=1→Xf5 x=0):=by
 unfold Xab at h
 cases h1:inR x.1 0 2 with
 |false=>rw[h1] at h;cases h
 |true=>
  rw[h1] at h;simp only[jK,Yvr] at h
  by_cases e:x.1=1
  ·rw[show(x.1 != 1)=false by simp[e]] at h
   cases h2:cond (cond false (cond (cond (x.2.1 != 0) true (x.2.2.1 != 0)) true (decide ((x.2.2.2.1.length:Int)>0))) false) true (cond (x.1 != 2) (decide ((x.2.2.2.2.1.length:Int)>0)) false) with
   |true=>rw[h2] at h;cases h
   |false=>
    rw[h2,show(x.1 == 1)=true by simp[e]] at h
    simp only[Yvr,Yvs] at h;have hf:=h;unfold Xf5 at h
    cases h3:inR x.2.1 1 60 with
    |false=>rw[h3] at h;cases h
    |true=>
     rw[h3] at h
     cases h4:inR x.2.2.1 0 32 with
     |false=>rw[h4] at h;cases h
     |true=>
      rw[h4] at h;simp only[jK,Yvr] at h
      cases h5:((x.2.2.2.1.length:Int) != Xi4 x.2.2.1) with
      |true=>rw[h5] at h;cases h
      |false=>
       rw[h5] at h;simp only[Yvr] at h
       cases h6:(x.2.2.2.1.any fun b=>!inR b 0 19) with
       |true=>rw[h6] at h;cases h
       |false=>
        refine⟨?_,fun b hb=>?_,fun h=>absurd e h,fun _=>hf⟩
        ·have hs:=Xck.1 h4
         have:(x.2.2.2.1.length:Int)=Xi4 x.2.2.1:=by simpa using h5
         unfold Xi4 at this
         rw[Yr8 (x:=x.2.2.1+8) (by omega) (by omega),Yr8 (x:=x.2.2.1+8-1) (by omega) (by omega),Int.tdiv_eq_ediv_of_nonneg (by omega),Yr8 (by omega) (by omega)] at this
         omega
        ·have:=List.any_eq_false.1 h6 b hb
         exact Xck.1 (by simpa using this)
  ·rw[show(x.1 != 1)=true by simp[e]] at h
   cases h2:decide ((x.2.2.2.1.length:Int)>0) with
   |true=>
    rw[h2] at h;simp only[Yvs,Yuv] at h
    cases h
   |false=>
    have hz:x.2.2.2.1=[]:=by simp at h2;exact h2
    exact⟨by simp[hz],by simp[hz],fun _=>hz,fun h=>absurd h e⟩
theorem Xdf {α:Type} {c:α→Int}:∀ {l:List α},Ygp c l=0↔∀ x∈l,c x=0
 |[]=>by simp[Ygp]
 |x::l=>by
  simp only[Ygp,List.mem_cons,forall_eq_or_imp];cases h:(c x != 0)
  ·have:c x=0:=by simpa using h
   simp only[Yvr,this,true_and];exact Xdf
  ·have:c x≠0:=by simpa using h
   simp only[Yvs];exact⟨fun e=>absurd e this,fun e=>absurd e.1 this⟩
theorem Xr {l:List Xb} (h:Xw l=0):l.length≤10∧∀ x∈l,Xab x=0:=by
 unfold Xw at h
 cases h1:decide ((l.length:Int)>10) with
 |true=>rw[h1] at h;cases h
 |false=>rw[h1] at h;exact⟨by simp at h1;omega,Xdf.1 h⟩
structure Xc8 (l:List Xb):Prop where
 len:l.length≤10
 blk:∀ x∈l,x.2.2.2.1.length≤4∧∀ b∈x.2.2.2.1,0≤b∧b≤19
theorem Xc8.of {l:List Xb} (h:Xw l=0):Xc8 l:=
 ⟨(Xr h).1,fun x hx=>⟨(Xa6 ((Xr h).2 x hx)).1,(Xa6 ((Xr h).2 x hx)).2.1⟩⟩
theorem Xib:∀ {l:List Xb},(∀ x∈l,x.2.2.2.1.length≤4)→(X5 l).length≤4*l.length
 |[],h=>by simp[X5]
 |x::l,h=>by
  have h1:=h x (jF ..);have:=Xib (l:=l) fun y hy=>h y (jG _ hy);simp only[X5,List.flatMap_cons,jP,jH] at *;omega
theorem Xc8.all {l:List Xb} (h:Xc8 l):(X5 l).length≤40∧∀ b∈X5 l,0≤b∧b≤19:=by
 refine⟨by have:=Xib (l:=l) fun x hx=>(h.blk x hx).1;have:=h.len;omega,fun b hb=>?_⟩
 obtain⟨x,hx,hb⟩:=List.mem_flatMap.1 hb;exact(h.blk x hx).2 b hb
theorem Xlp (l:List Xb) (at_:Int) (i:Nat) (hi:i<l.length) (n:Nat) (hb:l[i].2.2.2.1.length≤4) (hn:n≤1000):Xer l at_ (i:Int) ((n:Int),0)=some (((n+l[i].2.2.2.1.count at_:Nat):Int)):=by
 have h:=Ymt (τ:=Nat) l[i].2.2.2.1 (f:=fun s=>Xer.B l at_ (i:Int) s.1 s.2) (fun k m=>((m:Int),(k:Int))) (fun _ y m=>.inl (m+(if y == at_ then 1 else 0))) (fun m=>((m:Nat):Int)) (fun k m=>m≤n+k)
  (fun k hk m hm=>by
   simp only[Xer.B,Yv7 hi,Yvs,toNat_cast,getD_lt _ hi,jA,Ywa hk,Yv7 hk,getD_lt _ hk,Yvp (by omega:k<4294967296),Yvp (by omega:m<4294967296),sel]
   cases h:(l[i].2.2.2.1[k] == at_)<;>simp[h])
  (fun k hk m m' hm e=>by cases e;split<;>omega)
  (fun m hm=>by
   simp only[Xer.B,Yv7 hi,Yvs,toNat_cast,getD_lt _ hi,jA,Yv5 (jB _),Yvr]) n (by omega) (s:=((n:Int),0)) rfl
 refine Eq.trans h ?_;rw[Yil]
 congr 2
 have:∀ (l:List Int) (m:Nat),l.foldl (fun t y=>t+(if y == at_ then 1 else 0)) m=m+l.count at_:=by
  intro l
  induction l with
  |nil=>intro m;simp
  |cons y l ih=>intro m;rw[kI,ih,List.count_cons];omega
 exact this _ _
theorem Xlq (l:List Xb) (hok:Xc8 l) (at_:Int):Xhi l at_=some ((((X5 l).count at_:Nat):Int)):=by
 have h:=Ymt (τ:=Nat) l (f:=fun s=>Xfd.B l at_ s.1 s.2) (fun k m=>((m:Int),(k:Int))) (fun _ x m=>.inl (m+x.2.2.2.1.count at_)) (fun m=>((m:Nat):Int)) (fun k m=>m≤4*k)
  (fun k hk m hm=>by
   have hl:=hok.len
   simp only[Xfd.B,Ywa hk,Yvs,Xlp l at_ k hk m (hok.blk _ (jE hk)).1 (by omega),jA,Yvp (by omega:k<4294967296),sel])
  (fun k hk m m' hm e=>by cases e;have:=(hok.blk _ (jE hk)).1;have:=List.count_le_length (a:=at_) (l:=l[k].2.2.2.1);omega)
  (fun m hm=>by simp only[Xfd.B,Yv5 (jB _),Yvr]) 0 (by omega) (s:=(0,0)) rfl
 have h':Xfd l at_ (0,0)=_:=h;simp only[Xhi,h',jA];rw[Yil]
 have:∀ (l:List Xb) (m:Nat),l.foldl (fun t x=>t+x.2.2.2.1.count at_) m=m+(X5 l).count at_:=by
  intro l
  induction l with
  |nil=>intro m;simp[X5]
  |cons y l ih=>intro m;rw[kI,ih];simp only[X5,List.flatMap_cons,List.count_append];omega
 rw[this,jJ]
def r20:List Int:=(List.range 20).map Int.ofNat
theorem Xi1:r20.length=20:=by simp[r20]
theorem Xjr (k:Nat) (h:k<r20.length):r20[k]=(k:Int):=by simp[r20]
theorem Xjs (a:Int):a∈r20↔0≤a∧a≤19:=by
 simp only[r20,kS,List.mem_range]
 constructor
 ·rintro⟨k,h1,rfl⟩;simp;omega
 ·intro h;exact⟨a.toNat,by omega,by simp;omega⟩
def Xms (l:List Xb):List Int:=r20.filter fun b=>(X5 l).contains b
def Xex (l:List Xb):Bool:=decide (X5 l).Nodup
theorem Xlr (l:List Xb) (hok:Xc8 l):Xfe l=some (Xms l,Xex l):=by
 have h:=Ymt (τ:=Bool×List Int) r20 (f:=fun s=>Xgc.B l s.1 s.2.1 s.2.2) (fun k t=>(t.1,((k:Int),t.2))) (fun _ b t=>.inl (t.1&&decide ((X5 l).count b≤1),cond ((X5 l).contains b) (t.2++[b]) t.2)) (fun t=>t) (fun k t=>t.2.length≤k)
  (fun k hk t ht=>by
   have hk':k<20:=by rw[Xi1] at hk;exact hk
   rw[Xjr k hk]
   have h20:decide ((k:Int)<20)=true:=by simp;omega
   simp only[Xgc.B,h20,Yvs,Xlq l hok,jA,Yvp (by omega:k<4294967296),sel]
   have e1:decide ((((X5 l).count (k:Int):Nat):Int)>0)=(X5 l).contains (k:Int):=by
    rw[Bool.eq_iff_iff];simp only[jI,List.contains_iff_mem,←List.count_pos_iff];omega
   have e2:cond t.1 (decide ((((X5 l).count (k:Int):Nat):Int)≤1)) false=(t.1&&decide ((X5 l).count (k:Int)≤1)):=by
    cases t.1
    ·rfl
    ·simp only[Yvs,Bool.true_and];rw[Bool.eq_iff_iff];simp;omega
   rw[e1,e2,Xid (by simp;omega)]
   cases (X5 l).contains (k:Int)<;>rfl)
  (fun k hk t t' ht e=>by cases e;simp only;cases (X5 l).contains _<;>simp<;>omega)
  (fun t ht=>by
   rw[Xi1];rfl) (true,[]) (by simp) (s:=(true,0,[])) rfl
 have h':Xgc l (true,0,[])=_:=h;simp only[Xfe,h',jA];rw[Yil]
 have hf:∀ (m:List Int) (t:Bool×List Int),m.foldl (fun t b=>(t.1&&decide ((X5 l).count b≤1),cond ((X5 l).contains b) (t.2++[b]) t.2)) t=(t.1&&m.all fun b=>decide ((X5 l).count b≤1),t.2++m.filter fun b=>(X5 l).contains b):=by
  intro m
  induction m with
  |nil=>intro t;simp
  |cons b m ih=>
   intro t;rw[kI,ih,List.all_cons,List.filter_cons]
   cases (X5 l).contains b<;>simp[Bool.and_assoc]
 rw[hf];simp only[Bool.true_and,jO]
 congr 2
 rw[Bool.eq_iff_iff];simp only[Xex,List.all_eq_true,jI,List.nodup_iff_count]
 constructor
 ·intro h a
  by_cases ha:a∈X5 l
  ·have:=hok.all.2 a ha
   exact h a ((Xjs a).2 this)
  ·rw[List.count_eq_zero.2 ha];omega
 ·intro h a _;exact h a
theorem Xgx (s0:List Int) (k0:Nat) (h0:0<k0) (h1:k0<s0.length) (hl:s0.length≤2147483648):∀ (m j k:Nat) (s:List Int),j+m=s0.length-k0→0<j→s.length=s0.length→k<k0+j→∃ (k':Nat) (s':List Int),Xaj k0 (s0.length-k0) ((k:Int),(j:Int),s)=some ((k':Int),s')∧s'.length=s0.length∧k'<s0.length
 |0,j,k,s,hj,h2,h3,h4=>by
  refine⟨k,s,Yar ?_,h3,by omega⟩
  simp only[Xaj.B,show decide ((j:Int)<((s0.length-k0:Nat):Int))=false by simp;omega,Yvr]
 |m+1,j,k,s,hj,h2,h3,h4=>by
  have hw:w64 ((j:Int)-1)=((j-1:Nat):Int):=by rw[Yr8 (by omega) (by omega)];omega
  have hst:∃ k' s',Xaj.B k0 (s0.length-k0) (k:Int) (j:Int) s=some (.inl ((k':Nat),((j+1:Nat):Int),s'))∧s'.length=s0.length∧k'<k0+(j+1):=by
   simp only[Xaj.B,show decide ((j:Int)<((s0.length-k0:Nat):Int))=true by simp;omega,Yv7 (by omega:j<s0.length-k0),hw,Yv7 (by omega:j-1<s0.length-k0),Yv7 (by omega:k<s.length),Yvs,jA,toNat_cast,Yvp (by omega:j<4294967296),Yvp (by omega:k<4294967296)]
   cases (s.getD (k0+j) 0 != s.getD (k0+(j-1)) 0)
   ·exact⟨k,s,rfl,h3,by omega⟩
   ·exact⟨k+1,_,rfl,by simpa using h3,by omega⟩
  obtain⟨k1,s1,e1,e2,e3⟩:=hst
  obtain⟨k',s',q1,q2,q3⟩:=Xgx s0 k0 h0 h1 hl m (j+1) k1 s1 (by omega) (by omega) e2 (by omega)
  refine⟨k',s',?_,q2,q3⟩;unfold Xaj;rw[Ybb (s':=((k1:Int),((j+1:Nat):Int),s1)) e1];exact q1
theorem Xgw (s:List Int) (hl:s.length≤2147483648):∀ (m n:Nat),n+m=s.length→0<n→
  (X8 s (n:Int)=some (.inr ())∧∀ i,n≤i→(h:i<s.length)→s[i]≠s[i-1])∨(∃ (k:Nat) (s':List Int),X8 s (n:Int)=some (.inl (0,k-0,s'))∧s'.length=s.length∧k<s.length∧∃ i,n≤i∧∃ h:i<s.length,s[i]=s[i-1])
 |0,n,hn,h0=>by
  have:n=s.length:=by omega
  subst this
  refine .inl ⟨Yar ?_,fun i h1 h2=>by omega⟩
  simp only[X8.B,Yv5 (jB _),Yvr]
 |m+1,n,hn,h0=>by
  have hlt:n<s.length:=by omega
  have hw:w64 ((n:Int)-1)=((n-1:Nat):Int):=by rw[Yr8 (by omega) (by omega)];omega
  by_cases he:s[n]=s[n-1]
  ·refine .inr ?_
   obtain⟨k',s',q1,q2,q3⟩:=Xgx s n h0 hlt hl (s.length-n-1) 1 n s (by omega) (by omega) rfl (by omega)
   refine⟨k',splice s' k' (List.replicate (s'.length-k') 0),Yar ?_,by simp[splice];omega,q3,n,jB _,hlt,he⟩
   have q1':Xaj n (s.length-n) ((n:Int),1,s)=some ((k':Int),s'):=q1
   simp only[X8.B,Ywa hlt,Yv7 hlt,hw,Yv7 (by omega:n-1<s.length),Yvs,jA,toNat_cast,getD_lt _ hlt,getD_lt _ (by omega:n-1<s.length),he,beq_self_eq_true,q1']
   rw[show(decide ((0:Int)≤(n:Int))&&decide ((n:Int)≤(s.length:Int)))=true by simp;omega,show(decide ((0:Int)≤(k':Int))&&decide ((k':Int)≤(s'.length:Int)))=true by simp;omega,
    show(decide ((0:Int)≤(k':Int))&&decide ((k':Int)≤((splice s' k' (List.replicate (s'.length-k') 0)).length:Int)))=true by simp[splice];omega]
   rfl
  ·have hst:X8.B s (n:Int)=some (.inl ((n+1:Nat):Int)):=by
    simp only[X8.B,Ywa hlt,Yv7 hlt,hw,Yv7 (by omega:n-1<s.length),Yvs,jA,toNat_cast,getD_lt _ hlt,getD_lt _ (by omega:n-1<s.length),Yvp (by omega:n<4294967296)]
    rw[show(s[n] == s[n-1])=false by simp[he]]
    rfl
   unfold X8;rw[Ybb (f:=fun s_1=>X8.B s s_1) hst]
   rcases Xgw s hl m (n+1) (by omega) (by omega) with ⟨q1,q2⟩ | ⟨k,s',q1,q2,q3,i,q4,q5,q6⟩
   ·refine .inl ⟨q1,fun i h1 h2=>?_⟩
    by_cases e:i=n
    ·subst e;exact he
    ·exact q2 i (by omega) h2
   ·exact .inr ⟨k,s',q1,q2,q3,i,by omega,q5,q6⟩
theorem Xir (s:List Int) (hl:s.length≤2147483648) (hs:s.Pairwise fun a b=>a≤b):∃ r,Xd8 s=some r∧((r.length:Int) == (s.length:Int))=decide s.Nodup:=by
 simp only[Xd8]
 by_cases h2:s.length<2
 ·rw[show decide ((s.length:Int)<2)=true by simp;omega]
  refine⟨s,rfl,?_⟩
  have:s.Nodup:=by
   match s,h2 with
   |[],_=>simp
   |[x],_=>simp
  simp[this]
 ·rw[show decide ((s.length:Int)<2)=false by simp;omega]
  simp only[Yvr]
  have hle:∀ i j,(hij:i≤j)→(hj:j<s.length)→s[i]≤s[j]:=by
   intro i j hij hj;rcases Nat.lt_or_eq_of_le hij with h | h
   ·exact List.pairwise_iff_getElem.1 hs i j _ hj h
   ·subst h;exact Int.le_refl _
  rcases Xgw s hl (s.length-1) 1 (by omega) (by omega) with ⟨q1,q2⟩ | ⟨k,s',q1,q2,q3,i,q4,q5,q6⟩
  ·have q1':X8 s 1=some (.inr ()):=q1
   rw[q1'];refine⟨s,rfl,?_⟩
   have:s.Nodup:=by
    rw[List.Nodup,List.pairwise_iff_getElem];intro i j hi hj hij he
    have h1:=hle i (j-1) (by omega) (by omega)
    have h2:=hle (j-1) j (by omega) hj
    exact q2 j (by omega) hj (by omega)
   simp[this]
  ·have q1':X8 s 1=some (.inl (0,k-0,s')):=q1
   rw[q1'];refine⟨_,rfl,?_⟩
   have:¬ s.Nodup:=by
    intro hn
    exact List.pairwise_iff_getElem.1 hn (i-1) i (by omega) q5 (by omega) q6.symm
   simp only[this,decide_false]
   have hlen:((List.drop 0 s').take (k-0)).length=k:=by simp;omega
   rw[hlen];simp;omega
def Xe0 (l:List Int):List Int:=l.mergeSort fun x y=>decide (x≤y)
theorem Xhx (l:List Int):(Xe0 l).Pairwise fun a b=>a≤b:=by
 have:=List.pairwise_mergeSort (le:=fun x y:Int=>decide (x≤y)) (fun a b c h1 h2=>by simp at *;omega) (fun a b=>by simp;omega) l
 simpa [Xe0] using this
theorem Xg2 (l:List Int):(Xe0 l).Perm l:=List.mergeSort_perm _ _
theorem Xg7 (l:List Int):(Xe0 l).length=l.length:=(Xg2 l).length_eq
theorem Xjl {l:List Int} (h:l.length≤2147483648):Ytu l=some (Xe0 l):=by
 unfold Ytu Xe0;rw[Xid h];rfl
theorem Xls (l:List Xb) (hok:Xc8 l):Xbi l=some (Xe0 (X5 l),Xex l):=by
 have hall:=hok.all
 have h:Xbh l (l.length:Int) (0,[])=some (l.foldl (fun t x=>t++x.2.2.2.1) []):=
  Yn9 l (f:=fun s=>Xbh.B l (l.length:Int) s.1 s.2) (fun t x=>t++x.2.2.2.1) id (fun i t=>t.length≤4*i) (fun i hi t ht=>by
   have h4:=(hok.blk _ (jE hi)).1;have hl:=hok.len
   refine⟨?_,by simp;omega⟩
   simp only[Xbh.B,Ywa hi,Yv7 hi,Yvs,toNat_cast,getD_lt _ hi,jA,Yvp (by omega:i<4294967296)]
   rw[Xid (by simp;omega)];rfl) (fun t ht=>by
   simp only[Xbh.B,Yv5 (jB _),Yvr,id]) [] (by simp)
 have h2:∀ (l:List Xb) (t:List Int),l.foldl (fun t x=>t++x.2.2.2.1) t=t++X5 l:=by
  intro l
  induction l with
  |nil=>intro t;simp[X5]
  |cons x l ih=>intro t;rw[kI,ih];simp[X5]
 rw[h2,jO] at h
 obtain⟨r,hr1,hr2⟩:=Xir (Xe0 (X5 l)) (by rw[Xg7];omega) (Xhx _)
 simp only[Xbi,h,jA,Xfy,Xjl (by omega:(X5 l).length≤2147483648),Xcs,Xdl (by rw[Xg7];omega:(Xe0 (X5 l)).length≤2147483648),hr1,hr2]
 congr 2
 rw[Bool.eq_iff_iff];simp only[Xex,jI];exact(Xg2 _).nodup_iff
theorem Xie:∀ {p:Option (List UInt8)} {l:List Xf},Xce p l=0→∀ e∈l,Xu e.1=0∧0≤e.2.1∧e.2.1≤9
 |p,[],h,e,he=>by cases he
 |p,x::l,h,e,he=>by
  simp only[Xce] at h
  cases hc:(Xd0 p x != 0) with
  |true=>
   rw[hc] at h
   have:Xd0 p x≠0:=by simpa using hc
   exact absurd h this
  |false=>
   rw[hc] at h;rcases List.mem_cons.1 he with rfl | he
   ·have h0:Xd0 p e=0:=by simpa using hc
    unfold Xd0 at h0
    cases h1:(Xu e.1 != 0) with
    |true=>rw[h1] at h0;exact absurd h0 (by simpa using h1)
    |false=>
     rw[h1] at h0
     cases h2:inR e.2.1 0 9 with
     |false=>rw[h2] at h0;cases h0
     |true=>exact⟨by simpa using h1,Xck.1 h2⟩
   ·exact Xie h e he
theorem Xz {x:Xb} (h:Xab x=0):(0≤x.1∧x.1≤2)∧x.2.2.2.2.1.length≤6∧(x.1≠2→x.2.2.2.2.1=[])∧(x.1=2→Xhu x=0)∧(x.1≠1→x.2.1=0∧x.2.2.1=0)∧∀ e∈x.2.2.2.2.1,Xu e.1=0∧0≤e.2.1∧e.2.1≤9:=by
 unfold Xab at h
 cases h1:inR x.1 0 2 with
 |false=>rw[h1] at h;cases h
 |true=>
  rw[h1] at h;simp only[jK,Yvr] at h;have hk:=Xck.1 h1
  have hz:x.1≠1→x.2.1=0∧x.2.2.1=0:=by
   intro e
   rw[show(x.1 != 1)=true by simp[e]] at h
   cases h2:(x.2.1 != 0) with
   |true=>rw[h2] at h;cases h
   |false=>
    cases h3:(x.2.2.1 != 0) with
    |true=>rw[h2,h3] at h;cases h
    |false=>exact⟨by simpa using h2,by simpa using h3⟩
  cases h2:cond (cond (x.1 != 1) (cond (cond (x.2.1 != 0) true (x.2.2.1 != 0)) true (decide ((x.2.2.2.1.length:Int)>0))) false) true (cond (x.1 != 2) (decide ((x.2.2.2.2.1.length:Int)>0)) false) with
  |true=>rw[h2] at h;cases h
  |false=>
   rw[h2] at h
   by_cases e:x.1=2
   ·rw[show(x.1 == 1)=false by simp[e],show(x.1 == 2)=true by simp[e]] at h
    simp only[Yvr,Yvs] at h;have hd:=h;unfold Xhu at h
    cases h3:decide ((x.2.2.2.2.1.length:Int)>6) with
    |true=>rw[h3] at h;cases h
    |false=>
     rw[h3] at h
     exact⟨hk,by simp at h3;omega,fun hh=>absurd e hh,fun _=>hd,hz,Xie h⟩
   ·rw[show(x.1 != 2)=true by simp[e]] at h2
    have:x.2.2.2.2.1=[]:=by
     cases h3:decide ((x.2.2.2.2.1.length:Int)>0) with
     |true=>
      rw[h3] at h2;exfalso
      revert h2
      generalize cond (x.1 != 1) (cond (cond (x.2.1 != 0) true (x.2.2.1 != 0)) true (decide ((x.2.2.2.1.length:Int)>0))) false=b
      cases b<;>intro h2<;>cases h2
     |false=>simp at h3;exact h3
    exact⟨hk,by simp[this],fun _=>this,fun hh=>absurd hh e,hz,by simp[this]⟩
def X3 (l:List Xb) (e:Xf):Bool:=cond (decide (e.2.1≥(l.length:Int))) true ((l.getD e.2.1.toNat Xa).1 == 0)
def Xdh (f:Fs_):Int:=cond (Xw f.1 != 0) (Xw f.1) (cond (cond (cond ((f.1.length:Int) == 0) true ((f.1.getD 0 Xa).1 != 2)) true ((f.2.1.length:Int) != 20)) 1 0)
def Xci (f:Fs_):Int:=cond (Xdh f != 0) (Xdh f)
 (cond (f.2.1.any fun b=>decide ((b.length:Int)>8)) 2 (cond (!Xex f.1) 7 (cond (f.1.any fun x=>x.2.2.2.2.1.any (X3 f.1)) 4 0)))
structure Xds (l:List Xb):Prop where
 ent:∀ x∈l,x.2.2.2.2.1.length≤6∧∀ e∈x.2.2.2.2.1,0≤e.2.1∧e.2.1≤9
theorem Xds.of {l:List Xb} (h:Xw l=0):Xds l:=
 ⟨fun x hx=>⟨(Xz ((Xr h).2 x hx)).2.1,fun e he=>((Xz ((Xr h).2 x hx)).2.2.2.2.2 e he).2⟩⟩
theorem Xlt (f:Fs_) (hok:Xc8 f.1) (hen:Xds f.1) (n:Nat) (hn:n<f.1.length):Xes f (n:Int) 0=some (cond (f.1[n].2.2.2.2.1.any (X3 f.1)) (.inl 4) (.inr ())):=
 Yve f.1[n].2.2.2.2.1 (f:=fun s=>Xes.B f (n:Int) s) (X3 f.1) (4:Int) (fun i hi=>by
  have hx:=hen.ent _ (jE hn);have he:=hx.2 _ (jE hi)
  simp only[Xes.B,Yv7 hn,Yvs,toNat_cast,getD_lt _ hn,jA,Ywa hi,Yv7 hi,getD_lt _ hi,Yvp (by omega:i<4294967296),X3]
  by_cases hh:(f.1[n].2.2.2.2.1[i]).2.1≥(f.1.length:Int)
  ·rw[show decide ((f.1[n].2.2.2.2.1[i]).2.1≥(f.1.length:Int))=true by simp[hh]];rfl
  ·rw[show decide ((f.1[n].2.2.2.2.1[i]).2.1≥(f.1.length:Int))=false by simp;omega,show inB (f.1[n].2.2.2.2.1[i]).2.1 f.1.length=true from Yub he.1 (by omega)]
   rfl) (by
  simp only[Xes.B,Yv7 hn,Yvs,toNat_cast,getD_lt _ hn,jA,Yv5 (jB _),Yvr])
theorem Xlu (f:Fs_) (hb:Bd Xl f):Xdd f=some (Xci f):=by
 simp only[Xdd,Xci,Xdh,Xln f.1 hb.1,jA]
 cases hi:(Xw f.1 != 0) with
 |true=>simp only[Yvs,hi]
 |false=>
  have h0:Xw f.1=0:=by simpa using hi
  have hok:=Xc8.of h0;have hen:=Xds.of h0;simp only[Yvr]
  have e1:cond (!((f.1.length:Int) == 0)) (inB 0 f.1.length) true=true:=by
   cases hl:((f.1.length:Int) == 0) with
   |true=>rfl
   |false=>exact Yv7 (i:=0) (by
     have:(f.1.length:Int)≠0:=by simpa using hl
     omega)
  rw[e1];simp only[Yvs,show(0:Int).toNat=0 from rfl]
  cases hr:cond (cond ((f.1.length:Int) == 0) true ((f.1.getD 0 Xa).1 != 2)) true ((f.2.1.length:Int) != 20) with
  |true=>rfl
  |false=>
   have hd:f.2.1.length=20:=by
    cases h20:((f.2.1.length:Int) != 20) with
    |false=>have:(f.2.1.length:Int)=20:=by simpa using h20
            omega
    |true=>rw[h20] at hr;cases hh:(cond ((f.1.length:Int) == 0) true ((f.1.getD 0 Xa).1 != 2))<;>rw[hh] at hr<;>cases hr
   have h1:Xgd f 0=_:=Yve f.2.1 (fun b=>decide ((b.length:Int)>8)) (2:Int) (fun i hi=>by
    simp only[Xgd.B,Ywa hi,Yv7 hi,Yvs,toNat_cast,getD_lt _ hi,jA,Yvp (by omega:i<4294967296)]) (by
    simp only[Xgd.B,Yv5 (jB _),Yvr])
   have h2:Xge f 0=_:=Yve f.1 (fun x=>x.2.2.2.2.1.any (X3 f.1)) (4:Int) (fun i hi=>by
    have hl:=hok.len
    simp only[Xge.B,Ywa hi,Yvs,Xlt f hok hen i hi,jA,Yvp (by omega:i<4294967296)]
    cases (f.1[i].2.2.2.2.1.any (X3 f.1))<;>rfl) (by
    simp only[Xge.B,Yv5 (jB _),Yvr])
   simp only[Yvr,h1,h2,jA,Xlr f.1 hok];cases f.2.1.any fun b=>decide ((b.length:Int)>8)
   ·simp only[Yvr,Yvz]
    cases Xex f.1
    ·rfl
    ·simp only[jK,Yvr]
     cases f.1.any fun x=>x.2.2.2.2.1.any (X3 f.1)<;>rfl
   ·rfl
theorem Xlv (f:Fs_) (hb:Bd Xl f):Xd6 f=some (Xdh f):=by
 simp only[Xd6,Xdh,Xlo f.1 hb.1,jA]
 cases hi:(Xw f.1 != 0) with
 |true=>simp only[Yvs]
 |false=>
  simp only[Yvr]
  have e1:cond (!((f.1.length:Int) == 0)) (inB 0 f.1.length) true=true:=by
   cases hl:((f.1.length:Int) == 0) with
   |true=>rfl
   |false=>exact Yv7 (i:=0) (by
     have:(f.1.length:Int)≠0:=by simpa using hl
     omega)
  rw[e1];simp only[Yvs,show(0:Int).toNat=0 from rfl,Yux]
theorem Xil {f:Fs_} (h:Xdh f=0):Xw f.1=0∧0<f.1.length∧(f.1.getD 0 Xa).1=2∧f.2.1.length=20:=by
 unfold Xdh at h
 cases hi:(Xw f.1 != 0) with
 |true=>rw[hi] at h;exact absurd h (by simpa using hi)
 |false=>
  rw[hi] at h
  refine⟨by simpa using hi,?_⟩
  cases h1:((f.1.length:Int) == 0) with
  |true=>rw[h1] at h;cases h
  |false=>
   rw[h1] at h
   cases h2:((f.1.getD 0 Xa).1 != 2) with
   |true=>rw[h2] at h;cases h
   |false=>
    rw[h2] at h
    cases h3:((f.2.1.length:Int) != 20) with
    |true=>rw[h3] at h;cases h
    |false=>
     have a1:(f.1.length:Int)≠0:=by simpa using h1
     have a3:(f.2.1.length:Int)=20:=by simpa using h3
     exact⟨by omega,by simpa using h2,by omega⟩
theorem Xlw (f:Fs_) (hok:Xc8 f.1) (hen:Xds f.1) (v2 v3:Int) (x:Xb) (hx:x∈f.1):Xaq f f.1 v2 v3 x.2.2.2.2.1 (x.2.2.2.2.1.length:Int) 0=some (cond (x.2.2.2.2.1.any (X3 f.1)) (.inl 4) (.inr ())):=
 Yve x.2.2.2.2.1 (f:=fun s=>Xaq.B f f.1 v2 v3 x.2.2.2.2.1 (x.2.2.2.2.1.length:Int) s) (X3 f.1) (4:Int) (fun i hi=>by
  have hx:=hen.ent _ hx;have he:=hx.2 _ (jE hi)
  simp only[Xaq.B,Xct,Yvs,toNat_cast,jA,Ywa hi,Yv7 hi,getD_lt _ hi,Yvp (by omega:i<4294967296),X3]
  by_cases hh:(x.2.2.2.2.1[i]).2.1≥(f.1.length:Int)
  ·rw[show decide ((x.2.2.2.2.1[i]).2.1≥(f.1.length:Int))=true by simp[hh]];rfl
  ·rw[show decide ((x.2.2.2.2.1[i]).2.1≥(f.1.length:Int))=false by simp;omega,show inB (x.2.2.2.2.1[i]).2.1 f.1.length=true from Yub he.1 (by omega)]
   rfl) (by
  simp only[Xaq.B,Yv5 (jB _),Yvr])
theorem Xlx (f:Fs_) (hb:Bd Xl f):Xan f=some (Xci f):=by
 simp only[Xan,Xci,Xlv f hb,jA]
 cases hi:(Xdh f != 0) with
 |true=>simp only[Yvs]
 |false=>
  have h0:Xdh f=0:=by simpa using hi
  obtain⟨g1,g2,g3,g4⟩:=Xil h0;have hok:=Xc8.of g1;have hen:=Xds.of g1
  have h1:Xd7 f.2.1 ()=some (f.2.1.any fun b=>decide ((b.length:Int)>8)):=by
   have h:Xcq f.2.1 () (f.2.1.length:Int) 0=_:=Yvf f.2.1 (fun b=>decide ((b.length:Int)>8)) (fun i hi=>by
    simp only[Xcq.B,Ywa hi,Yv7 hi,Yvs,toNat_cast,getD_lt _ hi,Xfx,jA,Yvp (by omega:i<4294967296)]) (by
    simp only[Xcq.B,Yv5 (jB _),Yvr]) 0 (kE _)
   simp only[Xd7,Xcr];rw[Xbb _ _ h,List.drop_zero]
  have h2:Xcu f f.1 (f.1.length:Int) 0=_:=Yve f.1 (fun x=>x.2.2.2.2.1.any (X3 f.1)) (4:Int) (fun i hi=>by
   have hl:=hok.len
   simp only[Xcu.B,Ywa hi,Yv7 hi,Yvs,toNat_cast,getD_lt _ hi,jA,Xlw f hok hen _ _ _ (jE hi),Yvp (by omega:i<4294967296)]
   cases (f.1[i].2.2.2.2.1.any (X3 f.1))<;>rfl) (by
   simp only[Xcu.B,Yv5 (jB _),Yvr])
  simp only[Yvr,h1,h2,jA,Xls f.1 hok];cases f.2.1.any fun b=>decide ((b.length:Int)>8)
  ·simp only[Yvr]
   cases Xex f.1
   ·rfl
   ·simp only[jK,Yvr]
    cases f.1.any fun x=>x.2.2.2.2.1.any (X3 f.1)<;>rfl
  ·rfl
structure X7 (f:Fs_):Prop where
 inod:Xw f.1=0
 pos:0<f.1.length
 root:(f.1.getD 0 Xa).1=2
 dat:f.2.1.length=20
 dl:∀ b∈f.2.1,b.length≤8
 once:Xex f.1=true
 ent:∀ x∈f.1,∀ e∈x.2.2.2.2.1,0≤e.2.1∧e.2.1<(f.1.length:Int)∧(f.1.getD e.2.1.toNat Xa).1≠0
theorem X7.of {f:Fs_} (h:Xci f=0):X7 f:=by
 unfold Xci at h
 cases hi:(Xdh f != 0) with
 |true=>rw[hi] at h;exact absurd h (by simpa using hi)
 |false=>
  rw[hi] at h
  obtain⟨g1,g2,g3,g4⟩:=Xil (by simpa using hi:Xdh f=0)
  cases h1:(f.2.1.any fun b=>decide ((b.length:Int)>8)) with
  |true=>rw[h1] at h;cases h
  |false=>
   rw[h1] at h
   cases h2:Xex f.1 with
   |false=>rw[h2] at h;cases h
   |true=>
    rw[h2] at h
    cases h3:(f.1.any fun x=>x.2.2.2.2.1.any (X3 f.1)) with
    |true=>rw[h3] at h;cases h
    |false=>
     refine⟨g1,g2,g3,g4,fun b hb=>?_,h2,fun x hx e he=>?_⟩
     ·have:=List.any_eq_false.1 h1 b hb
      simp at this;omega
     ·have hh:=List.any_eq_false.1 h3 x hx
      have hh2:(x.2.2.2.2.1.any (X3 f.1))=false:=by simpa using hh
      have hb:=List.any_eq_false.1 hh2 e he
      have hb2:X3 f.1 e=false:=by simpa using hb
      have h0:=((Xds.of g1).ent x hx).2 e he;unfold X3 at hb2
      cases h4:decide (e.2.1≥(f.1.length:Int)) with
      |true=>rw[h4] at hb2;cases hb2
      |false=>
       rw[h4] at hb2
       exact⟨h0.1,by simp at h4;omega,by simpa using hb2⟩
abbrev Xx (l:List Xb) (a:Nat):List Xf:=(l.getD a Xa).2.2.2.2.1
inductive Reach (l:List Xb) (s:Nat):Nat→Prop
 |refl:Reach l s s
 |step {a b:Nat}:Reach l s a→(∃ e∈Xx l a,e.2.1=(b:Int))→Reach l s b
def Xc7 (l:List Xb):Prop:=∀ x∈l,x.2.2.2.2.1.length≤6∧∀ e∈x.2.2.2.2.1,0≤e.2.1∧e.2.1<(l.length:Int)
theorem X7.Xke {f:Fs_} (h:X7 f):Xc7 f.1:=fun x hx=>⟨((Xds.of h.inod).ent x hx).1,fun e he=>⟨(h.ent x hx e he).1,(h.ent x hx e he).2.1⟩⟩
theorem Xao {l:List Xb} (h:Xc7 l) {a:Nat} {e:Xf} (he:e∈Xx l a):0≤e.2.1∧e.2.1<(l.length:Int):=by
 unfold Xx at he
 by_cases ha:a<l.length
 ·rw[getD_lt _ ha] at he;exact(h _ (jE ha)).2 e he
 ·rw[kT,List.getElem?_eq_none (by omega)] at he;cases he
theorem Reach.lt {l:List Xb} (h:Xc7 l) {s a:Nat} (hs:s<l.length) (hr:Reach l s a):a<l.length:=by
 induction hr with
 |refl=>exact hs
 |step _ he _=>obtain⟨e,he,h2⟩:=he;have:=Xao h he;omega
abbrev on (b:List Bool) (i:Nat):Prop:=b.getD i false=true
theorem Xcm {b:List Bool} {i j:Nat}:on (b.set i true) j↔on b j∨(i=j∧i<b.length):=by
 unfold on;rw[kT,kT,List.getElem?_set]
 by_cases e:i=j
 ·subst e
  by_cases h:i<b.length
  ·simp[h]
  ·simp[h]
 ·simp[e]
theorem Xjk {b:List Bool} {i:Nat} (h:on b i):i<b.length:=by
 unfold on at h
 by_cases hh:i<b.length
 ·exact hh
 ·rw[kT,List.getElem?_eq_none (by omega)] at h;cases h
theorem Xkj {b:List Bool} {i:Nat} (h:on b i):b.set i true=b:=by
 have hl:=Xjk h;unfold on at h;rw[getD_lt _ hl] at h
 conv=>lhs;rw[←h]
 exact List.set_getElem_self hl
def Xc4 (b:List Bool) (es:List Xf):List Bool:=es.foldl (fun b e=>b.set e.2.1.toNat true) b
theorem Xdn:∀ (es:List Xf) (b:List Bool),(Xc4 b es).length=b.length
 |[],b=>rfl
 |e::es,b=>by simp only[Xc4,kI];exact(Xdn es _).trans (by simp)
theorem Xdg:∀ (es:List Xf) (b:List Bool) (j:Nat),on (Xc4 b es) j↔on b j∨(j<b.length∧∃ e∈es,e.2.1.toNat=j)
 |[],b,j=>by simp[Xc4]
 |e::es,b,j=>by
  have ih:=Xdg es (b.set e.2.1.toNat true) j;have:on (Xc4 b (e::es)) j↔on (Xc4 (b.set e.2.1.toNat true) es) j:=Iff.rfl;rw[this,ih,Xcm,kC]
  constructor
  ·rintro((h | ⟨h1,h2⟩) | ⟨h1,e',h2,h3⟩)
   ·exact .inl h
   ·exact .inr ⟨by omega,e,jF ..,h1⟩
   ·exact .inr ⟨h1,e',jG _ h2,h3⟩
  ·rintro(h | ⟨h1,e',h2,h3⟩)
   ·exact .inl (.inl h)
   ·rcases List.mem_cons.1 h2 with rfl | h2
    ·exact .inl (.inr ⟨h3,by omega⟩)
    ·exact .inr ⟨h1,e',h2,h3⟩
theorem Xgz:∀ (es:List Xf) (b:List Bool),(∀ e∈es,on b e.2.1.toNat)→Xc4 b es=b
 |[],b,h=>rfl
 |e::es,b,h=>by
  simp only[Xc4,kI];rw[Xkj (h e (jF ..))];exact Xgz es b fun x hx=>h x (jG _ hx)
def X6 (l:List Xb):List Nat→List Bool→List Bool
 |[],b=>b
 |i::is,b=>X6 l is (cond (b.getD i false) (Xc4 b (Xx l i)) b)
def Xdk (l:List Xb) (b:List Bool):Prop:=∀ i,on b i→∀ e∈Xx l i,on b e.2.1.toNat
def Xc9 (l:List Xb) (s:Nat) (b:List Bool):Prop:=∀ j,on b j→Reach l s j
theorem Xd2 (l:List Xb):∀ (is:List Nat) (b:List Bool),(X6 l is b).length=b.length
 |[],b=>rfl
 |i::is,b=>by simp only[X6];rw[Xd2 l is];cases b.getD i false<;>simp[Xdn]
theorem Xa7 (l:List Xb):∀ (is:List Nat) (b:List Bool) (j:Nat),on b j→on (X6 l is b) j
 |[],b,j,h=>h
 |i::is,b,j,h=>by
  refine Xa7 l is _ j ?_;cases b.getD i false
  ·exact h
  ·exact(Xdg _ _ _).2 (.inl h)
theorem Xez {l:List Xb} (hl:Xc7 l) {s:Nat}:∀ (is:List Nat) (b:List Bool),Xc9 l s b→Xc9 l s (X6 l is b)
 |[],b,h=>h
 |i::is,b,h=>by
  refine Xez hl is _ ?_;cases hi:b.getD i false
  ·exact h
  ·intro j hj
   rcases(Xdg _ _ _).1 hj with hj | ⟨_,e,he,h2⟩
   ·exact h j hj
   ·have:=Xao hl he
    exact .step (h i hi) ⟨e,he,by omega⟩
theorem Xf6 {l:List Xb}:∀ (is:List Nat) (b:List Bool) (i:Nat),i∈is→on b i→∀ e∈Xx l i,e.2.1.toNat<b.length→on (X6 l is b) e.2.1.toNat
 |k::is,b,i,hi,hb,e,he,hlt=>by
  rcases List.mem_cons.1 hi with rfl | hi
  ·refine Xa7 l is _ _ ?_
   rw[hb];exact(Xdg _ _ _).2 (.inr ⟨hlt,e,he,rfl⟩)
  ·refine Xf6 is _ i hi ?_ e he ?_
   ·cases b.getD k false
    ·exact hb
    ·exact(Xdg _ _ _).2 (.inl hb)
   ·cases b.getD k false
    ·exact hlt
    ·simpa [Xdn] using hlt
theorem Xad {l:List Xb}:∀ (is:List Nat) (b:List Bool),Xdk l b→X6 l is b=b
 |[],b,h=>rfl
 |i::is,b,h=>by
  simp only[X6];cases hi:b.getD i false
  ·exact Xad is b h
  ·simp only[Yvs]
   rw[Xgz _ _ (h i hi)];exact Xad is b h
theorem Xjb:∀ (b c:List Bool),b.length=c.length→(∀ j,on b j→on c j)→b.count true≤c.count true
 |[],[],_,_=>jB _
 |x::b,y::c,hl,h=>by
  have ih:=Xjb b c (by simpa using hl) fun j hj=>h (j+1) hj
  have h0:=h 0;simp only[List.count_cons]
  cases x<;>cases y<;>simp[on] at h0 ⊢<;>omega
theorem cnt_lt:∀ (b c:List Bool),b.length=c.length→(∀ j,on b j→on c j)→(∃ j,on c j∧¬ on b j)→b.count true<c.count true
 |[],[],_,_,⟨j,h,_⟩=>by have:=Xjk h;simp at this
 |x::b,y::c,hl,h,⟨j,h1,h2⟩=>by
  have h0:=h 0;simp only[List.count_cons]
  cases j with
  |zero=>
   have ih:=Xjb b c (by simpa using hl) fun j hj=>h (j+1) hj
   cases x<;>cases y<;>simp[on] at h1 h2 h0 ⊢<;>omega
  |succ j=>
   have ih:=cnt_lt b c (by simpa using hl) (fun j hj=>h (j+1) hj) ⟨j,h1,h2⟩
   cases x<;>cases y<;>simp[on] at h0 ⊢<;>omega
def X0 (l:List Xb):Nat→List Bool→List Bool
 |0,b=>b
 |n+1,b=>X0 l n (X6 l (List.range l.length) b)
theorem Xdw {l:List Xb} (hl:Xc7 l):∀ (n:Nat) (b:List Bool),b.length=l.length→l.length≤n+b.count true→Xdk l (X0 l n b)∧(X0 l n b).length=l.length∧(∀ j,on b j→on (X0 l n b) j)∧∀ s,Xc9 l s b→Xc9 l s (X0 l n b)
 |0,b,hb,hn=>by
  refine⟨fun i hi e he=>?_,hb,fun _ h=>h,fun _ h=>h⟩
  have hall:b.count true=b.length:=by have:=List.count_le_length (a:=true) (l:=b);omega
  have hlt:=(Xao hl he)
  have:b.getD e.2.1.toNat false=b[e.2.1.toNat]'(by omega):=getD_lt _ _
  show b.getD e.2.1.toNat false=true;rw[this]
  exact(List.count_eq_length.1 hall _ (jE _)).symm
 |n+1,b,hb,hn=>by
  simp only[X0];have hlen:=Xd2 l (List.range l.length) b
  by_cases hc:Xdk l b
  ·rw[Xad _ _ hc]
   have:∀ n,X0 l n b=b:=by
    intro n
    induction n with
    |zero=>rfl
    |succ n ih=>simp only[X0];rw[Xad _ _ hc];exact ih
   rw[this];exact⟨hc,hb,fun _ h=>h,fun _ h=>h⟩
  ·obtain⟨i,h1,e,h2,h3⟩:∃ i,on b i∧∃ e∈Xx l i,¬ on b e.2.1.toNat:=by
    unfold Xdk at hc;simp only[Classical.not_forall] at hc;obtain⟨i,h1,e,h2,h3⟩:=hc;exact⟨i,h1,e,h2,h3⟩
   have hlt:=Xao hl h2;have hi:=Xjk h1
   have hs:=cnt_lt b _ hlen.symm (Xa7 l _ b) ⟨_,Xf6 (List.range l.length) b i (List.mem_range.2 (by omega)) h1 e h2 (by omega),h3⟩
   obtain⟨q1,q2,q3,q4⟩:=Xdw hl n _ (by omega) (by omega:l.length≤n+(X6 l (List.range l.length) b).count true)
   exact⟨q1,q2,fun j hj=>q3 j (Xa7 l _ b j hj),fun s hs=>q4 s (Xez hl _ _ hs)⟩
open Classical in
noncomputable def Xy (l:List Xb) (s:Nat):List Int:=((List.range l.length).filter fun i=>decide (Reach l s i)).map Int.ofNat
theorem Xki {l:List Xb} (hl:Xc7 l) {s:Nat} (hs:s<l.length) {a:Nat}:(a:Int)∈Xy l s↔Reach l s a:=by
 unfold Xy;simp only[kS,List.mem_filter,List.mem_range,jI]
 constructor
 ·rintro⟨i,⟨_,h⟩,e⟩
  have:i=a:=Int.ofNat.inj e;subst this;exact h
 ·intro h;exact⟨a,⟨h.lt hl hs,h⟩,rfl⟩
theorem Xkh {l:List Xb} {s:Nat} {v:Int} (h:v∈Xy l s):0≤v∧v<(l.length:Int):=by
 unfold Xy at h;simp only[kS,List.mem_filter,List.mem_range] at h;obtain⟨i,⟨h1,_⟩,rfl⟩:=h;simp;omega
theorem Xg0 (l:List Xb) (s:Nat):(Xy l s).length≤l.length:=by
 unfold Xy;rw[kP]
 exact jU (List.length_filter_le _ _) (by simp)
open Classical in
theorem Xg1 {l:List Xb} {s:Nat} {b:List Bool} (hb:b.length=l.length) (hc:Xdk l b) (hs:Xc9 l s b) (h0:on b s):((List.range b.length).filter fun i=>b.getD i false).map Int.ofNat=Xy l s:=by
 unfold Xy;rw[hb]
 congr 1
 refine List.filter_congr fun i hi=>?_;clear hi;rw[Bool.eq_iff_iff,jI]
 constructor
 ·exact hs i
 ·intro h
  induction h with
  |refl=>exact h0
  |step _ he ih=>obtain⟨e,he,h2⟩:=he;have:=hc _ ih e he;rw[h2] at this;exact this
theorem Xjj (b:List Bool) {f:Int×List Int→Option ((Int×List Int)⊕List Int)} (hl:b.length≤1000)
  (hs:∀ (i:Nat) (h:i<b.length) (t:List Int),t.length≤i→f ((i:Int),t)=cond b[i] (some (.inl (((i+1:Nat):Int),t++[(i:Int)]))) (some (.inl (((i+1:Nat):Int),t)))) (he:∀ t,f ((b.length:Int),t)=some (.inr t)) :
  Yam f (0,[])=some (((List.range b.length).filter fun i=>b.getD i false).map Int.ofNat):=by
 have h:=Ymt (τ:=List Int) b (f:=f) (fun i t=>((i:Int),t)) (fun i x t=>.inl (cond x (t++[(i:Int)]) t)) id (fun i t=>t.length≤i)
  (fun i hi t ht=>by rw[hs i hi t ht];cases b[i]<;>rfl) (fun i hi t t' ht e=>by cases e;cases b[i]<;>simp<;>omega) (fun t ht=>he t) [] (by simp) (s:=(0,[])) rfl
 rw[h]
 congr 1
 clear h hs he hl
 have:∀ (m:List Bool) (n:Nat) (t:List Int),Ybv (fun i x t=>.inl (cond x (t++[(i:Int)]) t)) id n m t=t++((List.range' n m.length).filter fun i=>m.getD (i-n) false).map Int.ofNat:=by
  intro m
  induction m with
  |nil=>intro n t;simp[Ybv]
  |cons x m ih=>
   intro n t;simp only[Ybv,Yvy];rw[ih,jH,List.range'_succ,List.filter_cons]
   have e:(List.range' (n+1) m.length).filter (fun i=>(x::m).getD (i-n) false)=(List.range' (n+1) m.length).filter (fun i=>m.getD (i-(n+1)) false):=by
    refine List.filter_congr fun i hi=>?_;have:=(List.mem_range'_1.1 hi).1
    rw[show i-n=(i-(n+1))+1 by omega];rfl
   rw[e]
   cases x<;>simp
 rw[this b 0 [],jO,List.range_eq_range'];rfl
theorem Xly (f:Fs_) (hl:Xc7 f.1) (hn:f.1.length≤10) (rd:Int) (i:Nat) (hi:i<f.1.length) (b:List Bool) (hb:b.length=f.1.length):Xdq f rd (i:Int) (0,b)=some (cond (b.getD i false) (Xc4 b (Xx f.1 i)) b):=by
 have hx:=hl _ (jE hi)
 have he:Xx f.1 i=f.1[i].2.2.2.2.1:=by unfold Xx;rw[getD_lt _ hi]
 cases h0:b.getD i false with
 |false=>
  refine Yar ?_
  simp only[Xdq.B,Yv7 (by omega:i<b.length),Yvs,toNat_cast,h0,Yvr,jA]
 |true=>
  rw[he]
  have h:=Yn9 f.1[i].2.2.2.2.1 (f:=fun s=>Xdq.B f rd (i:Int) s.1 s.2) (fun(b:List Bool) e=>b.set e.2.1.toNat true) id (fun k c=>c.length=f.1.length∧on c i) (fun k hk c hc=>by
   have hek:=hx.2 _ (jE hk)
   refine⟨?_,by simpa using hc.1,Xcm.2 (.inl hc.2)⟩
   have h1:c.getD i false=true:=hc.2
   simp only[Xdq.B,Yv7 (by omega:i<c.length),Yvs,toNat_cast,h1,Yv7 hi,getD_lt _ hi,Ywa hk,jA,Yv7 hk,getD_lt _ hk,Yvp (by omega:k<4294967296)]
   rw[show inB (f.1[i].2.2.2.2.1[k]).2.1 c.length=true from Yub hek.1 (by omega)];rfl) (fun c hc=>by
   have h1:c.getD i false=true:=hc.2
   simp only[Xdq.B,Yv7 (by omega:i<c.length),Yvs,toNat_cast,h1,Yv7 hi,getD_lt _ hi,Yv5 (jB _),jA,Yvr,id]) b ⟨hb,h0⟩
  exact h
theorem Xlz (f:Fs_) (hl:Xc7 f.1) (hn:f.1.length≤10) (rd:Int) (b:List Bool) (hb:b.length=f.1.length):Xet f rd (0,b)=some (X6 f.1 (List.range f.1.length) b):=by
 have h:=Ymt (τ:=List Bool) f.1 (f:=fun s=>Xet.B f rd s.1 s.2) (fun i b=>((i:Int),b)) (fun i x b=>.inl (cond (b.getD i false) (Xc4 b (Xx f.1 i)) b)) id (fun i b=>b.length=f.1.length)
  (fun i hi c hc=>by
   simp only[Xet.B,Ywa hi,Yvs,Xly f hl hn rd i hi c hc,jA,Yvp (by omega:i<4294967296),sel]) (fun i hi c c' hc e=>by cases e;cases c.getD i false<;>simp[Xdn,hc]) (fun c hc=>by
   simp only[Xet.B,Yv5 (jB _),Yvr,id]) b hb (s:=(0,b)) rfl
 refine Eq.trans h ?_
 congr 1
 have:∀ (m:List Xb) (n:Nat) (b:List Bool),Ybv (fun i (x:Xb) b=>.inl (cond (b.getD i false) (Xc4 b (Xx f.1 i)) b)) id n m b=X6 f.1 (List.range' n m.length) b:=by
  intro m
  induction m with
  |nil=>intro n b;rfl
  |cons x m ih=>intro n b;simp only[Ybv,Yvy,jH,List.range'_succ,X6];exact ih _ _
 rw[this,List.range_eq_range']
theorem Xl0 (f:Fs_) (hl:Xc7 f.1) (hn:f.1.length≤10) (h0:0<f.1.length):Xhj f=some (Xy f.1 0):=by
 have hz:(List.replicate f.1.length false).length=f.1.length:=by simp
 let b0:=(List.replicate f.1.length false).set 0 true
 have hb0:b0.length=f.1.length:=by simp[b0]
 have hon:on b0 0:=Xcm.2 (.inr ⟨rfl,by omega⟩)
 have hcnt:1≤b0.count true:=by
  have:true∈b0:=by
   have h1:b0[0]'(by omega)=true:=by rw[←getD_lt false (by omega:0<b0.length)];exact hon
   rw[←h1];exact jE _
  exact List.count_pos_iff.2 this
 have hsnd:Xc9 f.1 0 b0:=by
  intro j hj;rcases Xcm.1 hj with h | ⟨rfl,_⟩
  ·unfold on at h;rw[kT,List.getElem?_replicate] at h;split at h<;>simp at h
  ·exact .refl
 obtain⟨q1,q2,q3,q4⟩:=Xdw hl f.1.length b0 hb0 (by omega)
 have h1:Xff f (0,b0)=some (X0 f.1 f.1.length b0):=by
  have h:=Ymt (τ:=List Bool) f.1 (f:=fun s=>Xff.B f s.1 s.2) (fun i b=>((i:Int),b)) (fun i x b=>.inl (X6 f.1 (List.range f.1.length) b)) id (fun i b=>b.length=f.1.length)
   (fun i hi c hc=>by
    simp only[Xff.B,Ywa hi,Yvs,Xlz f hl hn i c hc,jA,Yvp (by omega:i<4294967296),sel]) (fun i hi c c' hc e=>by cases e;rw[Xd2,hc]) (fun c hc=>by
    simp only[Xff.B,Yv5 (jB _),Yvr,id]) b0 hb0 (s:=(0,b0)) rfl
  refine Eq.trans h ?_
  congr 1
  have:∀ (m:List Xb) (n:Nat) (b:List Bool),Ybv (fun i (x:Xb) b=>.inl (X6 f.1 (List.range f.1.length) b)) id n m b=X0 f.1 m.length b:=by
   intro m
   induction m with
   |nil=>intro n b;rfl
   |cons x m ih=>intro n b;simp only[Ybv,Yvy,jH,X0];exact ih _ _
  exact this _ _ _
 have h3:Xfg (X0 f.1 f.1.length b0) (0,[])=some (Xy f.1 0):=by
  have h:=Xjj (X0 f.1 f.1.length b0) (f:=fun s=>Xfg.B (X0 f.1 f.1.length b0) s.1 s.2) (by omega) (fun i hi t ht=>by
   simp only[Xfg.B,Ywa hi,Yv7 hi,Yvs,toNat_cast,getD_lt _ hi,Yvp (by omega:i<4294967296)]
   rw[Xid (by simp;omega)];rfl) (fun t=>by
   simp only[Xfg.B,Yv5 (jB _),Yvr])
  refine Eq.trans h ?_;rw[Xg1 q2 q1 (q4 0 hsnd) (q3 0 hon)]
 simp only[Xhj]
 rw[show(decide ((0:Int)≤(f.1.length:Int))&&(decide ((f.1.length:Int)≤(f.1.length:Int))&&decide ((f.1.length:Int)≤2147483648)))=true by simp;omega]
 rw[show((f.1.length:Int)).toNat=f.1.length from toNat_cast _,hz,show inB 0 f.1.length=true from Yv7 (i:=0) h0];simp only[Yvs,jA,show(0:Int).toNat=0 from rfl];rw[show(List.replicate f.1.length false).set 0 true=b0 from rfl,h1];simp only[jA,h3]
theorem Xix:∀ (b:List Bool) (i:Nat),i<b.length→b.getD i false=false→(b.set i true).count false+1=b.count false
 |x::b,0,h,hf=>by
  have:x=false:=by simpa using hf
  subst this;simp
 |x::b,i+1,h,hf=>by
  have ih:=Xix b i (by simpa using h) (by simpa using hf)
  simp only[List.set_cons_succ,List.count_cons];omega
theorem Xl1 (l:List Xb) (es:List Xf) (v2:Int) (hv:v2=(es.length:Int)) (seen:List Bool) (op:List Int) (h6:es.length≤6) (ho:op.length≤1000):Xar l es v2 seen (0,op)=some (op++es.map fun e=>e.2.1):=by
 subst hv
 exact Yuw es (f:=fun s=>Xar.B l es (es.length:Int) seen s.1 s.2) (fun e=>e.2.1) id op.length (fun i hi t ht=>by
  simp only[Xar.B,Ywa hi,Yv7 hi,Yvs,toNat_cast,getD_lt _ hi,Yvp (by omega:i<4294967296)]
  rw[Xid (by simp;omega)];rfl) (fun t ht=>by
  simp only[Xar.B,Yv5 (jB _),Yvr,id]) op rfl
theorem Xg4 {op:List Int} (h:0<op.length):op.take (op.length-1)++[op.getD (op.length-1) 0]=op:=by
 have h1:op.length-1<op.length:=by omega
 rw[getD_lt _ h1];have:=List.take_append_drop (op.length-1) op
 rw[kZ h1,show op.length-1+1=op.length by omega,List.drop_length] at this
 exact this
theorem Xi9 {l:List Xb} (hl:Xc7 l) (hn:l.length≤10) (s:Nat) (hs:s<l.length):∀ (m:Nat) (seen:List Bool) (op:List Int),7*seen.count false+op.length≤m→m≤100→seen.length=l.length→Xc9 l s seen→
  (∀ v∈op,∃ a:Nat,v=(a:Int)∧Reach l s a)→(∀ i,on seen i→∀ e∈Xx l i,on seen e.2.1.toNat∨e.2.1∈op)→
  ∃ b,Xaf l (seen,op)=some b∧b.length=l.length∧Xdk l b∧Xc9 l s b∧(∀ j,on seen j→on b j)∧∀ v∈op,on b v.toNat
 |m,seen,op,hm,hm2,h1,h2,h3,h4=>by
  by_cases ho:op.length=0
  ·have:op=[]:=List.length_eq_zero_iff.1 ho
   subst this
   refine⟨seen,Yar ?_,h1,fun i hi e he=>?_,h2,fun _ h=>h,fun v hv=>by cases hv⟩
   ·simp only[Xaf.B];rfl
   ·rcases h4 i hi e he with h | h
    ·exact h
    ·cases h
  ·have hpos:0<op.length:=by omega
   have hw:w64 ((op.length:Int)-1)=((op.length-1:Nat):Int):=by rw[Yr8 (by omega) (by omega)];omega
   have hsp:=Xg4 hpos;generalize hv:op.getD (op.length-1) 0=v at hsp;generalize hq:op.take (op.length-1)=q at hsp
   have hql:q.length=op.length-1:=by rw[←hq];simp
   obtain⟨a,rfl,ha⟩:=h3 v (by rw[←hsp];simp)
   have hal:=ha.lt hl hs
   have hB:Xaf.B l seen op=cond (seen.getD a false) (some (.inl (seen,q))) (some (.inl (seen.set a true,q++(Xx l a).map fun e=>e.2.1))):=by
    have e6:(Xx l a).length≤6:=by unfold Xx;rw[getD_lt _ hal];exact(hl _ (jE hal)).1
    simp only[Xaf.B,show decide ((op.length:Int)>0)=true by simp;omega,Yvs,hw,Yv7 (by omega:op.length-1<op.length),toNat_cast,hv,jA]
    rw[show(decide ((0:Int)≤((op.length-1:Nat):Int))&&decide (((op.length-1:Nat):Int)≤(op.length:Int)))=true by rw[jC,jI,jI];omega,List.drop_zero,Nat.sub_zero,hq]
    simp only[Yvs,Yv7 (by omega:a<seen.length),Yv7 hal,Xl1 l (Xx l a) _ rfl _ q e6 (by omega),jA]
   cases hsn:seen.getD a false with
   |true=>
    rw[hsn] at hB
    obtain⟨b,q1,q2,q3,q4,q5,q6⟩:=Xi9 hl hn s hs (m-1) seen q (by omega) (by omega) h1 h2 (fun v hv=>h3 v (by rw[←hsp];simp[hv])) (fun i hi e he=>by
     rcases h4 i hi e he with h | h
     ·exact .inl h
     ·rw[←hsp] at h
      rcases List.mem_append.1 h with h | h
      ·exact .inr h
      ·have:e.2.1=(a:Int):=by simpa using h
       rw[this];exact .inl hsn)
    refine⟨b,?_,q2,q3,q4,q5,fun v hv=>?_⟩
    ·unfold Xaf
     rw[Ybb (f:=fun s=>Xaf.B l s.1 s.2) (s:=(seen,op)) (s':=(seen,q)) hB];exact q1
    ·rw[←hsp] at hv
     rcases List.mem_append.1 hv with h | h
     ·exact q6 v h
     ·have:v=(a:Int):=by simpa using h
      rw[this];exact q5 a hsn
   |false=>
    rw[hsn] at hB
    have e6:(Xx l a).length≤6:=by unfold Xx;rw[getD_lt _ hal];exact(hl _ (jE hal)).1
    have hc:=Xix seen a (by omega) hsn
    have hon:on (seen.set a true) a:=Xcm.2 (.inr ⟨rfl,by omega⟩)
    obtain⟨b,q1,q2,q3,q4,q5,q6⟩:=Xi9 hl hn s hs (m-1) (seen.set a true) (q++(Xx l a).map fun e=>e.2.1) (by simp;omega) (by omega) (by simpa using h1) (fun j hj=>by
      rcases Xcm.1 hj with h | ⟨rfl,_⟩
      ·exact h2 j h
      ·exact ha) (fun v hv=>by
      rcases List.mem_append.1 hv with h | h
      ·exact h3 v (by rw[←hsp];simp[h])
      ·obtain⟨e,he,rfl⟩:=List.mem_map.1 h
       have:=Xao hl he
       exact⟨e.2.1.toNat,by omega,.step ha ⟨e,he,by omega⟩⟩) (fun i hi e he=>by
      rcases Xcm.1 hi with h | ⟨rfl,_⟩
      ·rcases h4 i h e he with h | h
       ·exact .inl (Xcm.2 (.inl h))
       ·rw[←hsp] at h
        rcases List.mem_append.1 h with h | h
        ·exact .inr (jW _ h)
        ·have:e.2.1=(a:Int):=by simpa using h
         rw[this];exact .inl hon
      ·exact .inr (kB _ (List.mem_map.2 ⟨e,he,rfl⟩)))
    refine⟨b,?_,q2,q3,q4,fun j hj=>q5 j (Xcm.2 (.inl hj)),fun v hv=>?_⟩
    ·unfold Xaf
     rw[Ybb (f:=fun s=>Xaf.B l s.1 s.2) (s:=(seen,op)) (s':=(seen.set a true,q++(Xx l a).map fun e=>e.2.1)) hB];exact q1
    ·rw[←hsp] at hv
     rcases List.mem_append.1 hv with h | h
     ·exact q6 v (jW _ h)
     ·have:v=(a:Int):=by simpa using h
      rw[this];exact q5 a hon
termination_by m=>m
decreasing_by all_goals omega
theorem Xl2 {l:List Xb} (hl:Xc7 l) (hn:l.length≤10) (s:Nat) (hs:s<l.length):Xdt l (s:Int)=some (Xy l s):=by
 obtain⟨b,q1,q2,q3,q4,_,q6⟩:=Xi9 hl hn s hs 71 (List.replicate l.length false) [(s:Int)] (by simp;omega) (by omega) (by simp) (fun j hj=>by
   unfold on at hj;rw[kT,List.getElem?_replicate] at hj;split at hj<;>simp at hj) (fun v hv=>⟨s,by simpa using hv,.refl⟩) (fun j hj=>by
   unfold on at hj;rw[kT,List.getElem?_replicate] at hj;split at hj<;>simp at hj)
 have h2:Xbj (b.length:Int) b (0,[])=some (Xy l s):=by
  have h:=Xjj b (f:=fun s=>Xbj.B (b.length:Int) b s.1 s.2) (by omega) (fun i hi t ht=>by
   simp only[Xbj.B,Ywa hi,Yv7 hi,Yvs,toNat_cast,getD_lt _ hi,Yvp (by omega:i<4294967296)]
   rw[Xid (by simp;omega)];rfl) (fun t=>by
   simp only[Xbj.B,Yv5 (jB _),Yvr])
  refine Eq.trans h ?_;rw[Xg1 q2 q3 q4 (q6 _ (jF ..))]
 simp only[Xdt]
 rw[show(decide ((0:Int)≤(l.length:Int))&&(decide ((l.length:Int)≤(l.length:Int))&&decide ((l.length:Int)≤2147483648)))=true by simp;omega,show((l.length:Int)).toNat=l.length from toNat_cast _]
 simp only[Yvs,q1,jA,h2]
def Xiq (l:List Xb):List Int:=l.flatMap fun x=>x.2.2.2.2.1.map fun e=>e.2.1
def Xac (l:List Xb) (a:Int):Int:=(((Xiq l).count a:Nat):Int)
theorem Xgv (a:Int):∀ (l:List Xf) (m:Nat),l.foldl (fun t e=>t+(if e.2.1 == a then 1 else 0)) m=m+(l.map fun e=>e.2.1).count a
 |[],m=>by simp
 |y::l,m=>by rw[kI,Xgv a l,jS,List.count_cons];omega
theorem Xl3 (l:List Xb) (hl:∀ x∈l,x.2.2.2.2.1.length≤6) (hn:l.length≤10) (a:Int):Xhk l a=some (Xac l a):=by
 have h1:∀ (i:Nat) (hi:i<l.length) (n:Nat),n≤1000→Xeu l a (i:Int) ((n:Int),0)=some (((n+(l[i].2.2.2.2.1.map fun e=>e.2.1).count a:Nat):Int)):=by
  intro i hi n hn;have h6:=hl _ (jE hi)
  have h:=Ymt (τ:=Nat) l[i].2.2.2.2.1 (f:=fun s=>Xeu.B l a (i:Int) s.1 s.2) (fun k m=>((m:Int),(k:Int))) (fun _ e m=>.inl (m+(if e.2.1 == a then 1 else 0))) (fun m=>((m:Nat):Int)) (fun k m=>m≤n+k)
   (fun k hk m hm=>by
    simp only[Xeu.B,Yv7 hi,Yvs,toNat_cast,getD_lt _ hi,jA,Ywa hk,Yv7 hk,getD_lt _ hk,Yvp (by omega:k<4294967296),Yvp (by omega:m<4294967296),sel]
    cases h:((l[i].2.2.2.2.1[k]).2.1 == a)<;>simp[h])
   (fun k hk m m' hm e=>by cases e;split<;>omega)
   (fun m hm=>by
    simp only[Xeu.B,Yv7 hi,Yvs,toNat_cast,getD_lt _ hi,jA,Yv5 (jB _),Yvr]) n (by omega) (s:=((n:Int),0)) rfl
  refine Eq.trans h ?_;rw[Yil,Xgv]
 have h:=Ymt (τ:=Nat) l (f:=fun s=>Xfh.B l a s.1 s.2) (fun k m=>((m:Int),(k:Int))) (fun _ x m=>.inl (m+(x.2.2.2.2.1.map fun e=>e.2.1).count a)) (fun m=>((m:Nat):Int)) (fun k m=>m≤6*k)
  (fun k hk m hm=>by
   simp only[Xfh.B,Ywa hk,Yvs,h1 k hk m (by omega),jA,Yvp (by omega:k<4294967296),sel])
  (fun k hk m m' hm e=>by cases e;have:=hl _ (jE hk);have:=List.count_le_length (a:=a) (l:=l[k].2.2.2.2.1.map fun e=>e.2.1);simp at this;omega)
  (fun m hm=>by simp only[Xfh.B,Yv5 (jB _),Yvr]) 0 (by omega) (s:=(0,0)) rfl
 have h':Xfh l a (0,0)=_:=h;simp only[Xhk,h',jA];rw[Yil]
 have:∀ (l:List Xb) (m:Nat),l.foldl (fun t x=>t+(x.2.2.2.2.1.map fun e=>e.2.1).count a) m=m+(Xiq l).count a:=by
  intro l
  induction l with
  |nil=>intro m;simp[Xiq]
  |cons y l ih=>intro m;rw[kI,ih];simp only[Xiq,List.flatMap_cons,List.count_append];omega
 rw[this,jJ];rfl
theorem Xl4 (l:List Xb) (hl:∀ x∈l,x.2.2.2.2.1.length≤6) (hn:l.length≤10) (a:Int):Xd9 l a=some (Xac l a):=by
 have h1:∀ (v v2:Int) (x:Xb) (h6:x.2.2.2.2.1.length≤6) (n:Nat),n≤1000→Xas a l v v2 x.2.2.2.2.1 (x.2.2.2.2.1.length:Int) ((n:Int),0)=some (((n+(x.2.2.2.2.1.map fun e=>e.2.1).count a:Nat):Int)):=by
  intro v v2 x h6 n hn
  have h:=Ymt (τ:=Nat) x.2.2.2.2.1 (f:=fun s=>Xas.B a l v v2 x.2.2.2.2.1 (x.2.2.2.2.1.length:Int) s.1 s.2) (fun k m=>((m:Int),(k:Int))) (fun _ e m=>.inl (m+(if e.2.1 == a then 1 else 0))) (fun m=>((m:Nat):Int)) (fun k m=>m≤n+k)
   (fun k hk m hm=>by
    simp only[Xas.B,Yvs,toNat_cast,jA,Ywa hk,Yv7 hk,getD_lt _ hk,Yvp (by omega:k<4294967296),Yvp (by omega:m<4294967296),sel]
    cases h:((x.2.2.2.2.1[k]).2.1 == a)<;>simp[h])
   (fun k hk m m' hm e=>by cases e;split<;>omega)
   (fun m hm=>by
    simp only[Xas.B,Yv5 (jB _),Yvr]) n (by omega) (s:=((n:Int),0)) rfl
  refine Eq.trans h ?_;rw[Yil,Xgv]
 have h:=Ymt (τ:=Nat) l (f:=fun s=>Xbk.B a l (l.length:Int) s.1 s.2) (fun k m=>((m:Int),(k:Int))) (fun _ x m=>.inl (m+(x.2.2.2.2.1.map fun e=>e.2.1).count a)) (fun m=>((m:Nat):Int)) (fun k m=>m≤6*k)
  (fun k hk m hm=>by
   simp only[Xbk.B,Ywa hk,Yv7 hk,Yvs,toNat_cast,getD_lt _ hk,h1 _ _ _ (hl _ (jE hk)) m (by omega),jA,Yvp (by omega:k<4294967296),sel])
  (fun k hk m m' hm e=>by cases e;have:=hl _ (jE hk);have:=List.count_le_length (a:=a) (l:=l[k].2.2.2.2.1.map fun e=>e.2.1);simp at this;omega)
  (fun m hm=>by simp only[Xbk.B,Yv5 (jB _),Yvr]) 0 (by omega) (s:=(0,0)) rfl
 have h':Xbk a l (l.length:Int) (0,0)=_:=h;simp only[Xd9,h',jA];rw[Yil]
 have:∀ (l:List Xb) (m:Nat),l.foldl (fun t x=>t+(x.2.2.2.2.1.map fun e=>e.2.1).count a) m=m+(Xiq l).count a:=by
  intro l
  induction l with
  |nil=>intro m;simp[Xiq]
  |cons y l ih=>intro m;rw[kI,ih];simp only[Xiq,List.flatMap_cons,List.count_append];omega
 rw[this,jJ];rfl
noncomputable def Xcl (l:List Xb) (i:Nat) (x:Xb):Bool:=
 cond (x.1 == 0) false (cond (x.1 == 1) (cond (Xac l i != x.2.1) true (!(Xy l 0).contains (i:Int))) (cond ((i:Int) == 0) (cond (Xac l i != 0) true (!(Xy l 0).contains (i:Int))) (cond (Xac l i != 1) true (!(Xy l 0).contains (i:Int)))))
noncomputable def Xag (l:List Xb):Bool:=(List.range l.length).any fun i=>Xcl l i (l.getD i Xa)
theorem Xfv {α ρ:Type} (l:List α) (d:α) {f:Int→Option (Int⊕(ρ⊕Unit))} (p:Nat→α→Bool) (r:ρ)
  (hs:∀ (i:Nat) (h:i<l.length),f (i:Int)=cond (p i l[i]) (some (.inr (.inl r))) (some (.inl ((i+1:Nat):Int)))) (he:f (l.length:Int)=some (.inr (.inr ()))) :
  Yam f 0=some (cond ((List.range l.length).any fun i=>p i (l.getD i d)) (.inl r) (.inr ())):=by
 refine Yve (List.range l.length) (fun i=>p i (l.getD i d)) r (fun i hi=>?_) (by rw[kJ];exact he)
 have hi':i<l.length:=by simpa using hi
 rw[hs i hi',kA,getD_lt _ hi']
theorem Xl5 (f:Fs_) (h:X7 f):Xfi f=some (!Xag f.1):=by
 have hn:=(Xc8.of h.inod).len;have h6:∀ x∈f.1,x.2.2.2.2.1.length≤6:=fun x hx=>((Xds.of h.inod).ent x hx).1;have hrl:=Xg0 f.1 0
 have hl:Xgg f (Xy f.1 0) 0=_:=Xfv f.1 Xa (Xcl f.1) false (fun i hi=>by
  simp only[Xgg.B,Ywa hi,Yv7 hi,Yvs,toNat_cast,getD_lt _ hi,Xl3 f.1 h6 hn,Xlf _ _ (by omega:(Xy f.1 0).length≤2147483648),jA,Yvp (by omega:i<4294967296),Xcl]
  cases (f.1[i].1 == 0)
  ·simp only[Yvr]
   cases (f.1[i].1 == 1)
   ·simp only[Yvr]
    cases ((i:Int) == 0)
    ·simp only[Yvr]
     cases (Xac f.1 (i:Int) != 1)
     ·simp only[Yvr]
     ·rfl
    ·simp only[Yvs]
     cases (Xac f.1 (i:Int) != 0)
     ·simp only[Yvr]
     ·rfl
   ·simp only[Yvs]
    cases (Xac f.1 (i:Int) != f.1[i].2.1)
    ·simp only[Yvr]
    ·rfl
  ·rfl) (by simp only[Xgg.B,Yv5 (jB _),Yvr])
 simp only[Xfi,Xl0 f h.Xke hn h.pos,jA,hl,Xag]
 cases (List.range f.1.length).any fun i=>Xcl f.1 i (f.1.getD i Xa)<;>rfl
theorem Xl6 (f:Fs_) (h:X7 f):Xbl f=some (cond (Xag f.1) 1 0):=by
 have hn:=(Xc8.of h.inod).len;have h6:∀ x∈f.1,x.2.2.2.2.1.length≤6:=fun x hx=>((Xds.of h.inod).ent x hx).1;have hrl:=Xg0 f.1 0
 have hl:Xcv f f.1 (f.1.length:Int) (Xy f.1 0) 0=_:=Xfv f.1 Xa (Xcl f.1) (1:Int) (fun i hi=>by
  have hk:=(Xz ((Xr h.inod).2 _ (jE hi))).1
  simp only[Xcv.B,Ywa hi,Yv7 hi,Yvs,toNat_cast,getD_lt _ hi,Xl4 f.1 h6 hn,Xj4 _ _ (by omega:(Xy f.1 0).length≤2147483648),jA,Yvp (by omega:i<4294967296),Xcl]
  generalize hx:f.1[i]=x at hk
  by_cases e0:x.1=0
  ·rw[show(x.1 == 0)=true by simp[e0],show(x.1 == 1)=false by simp[e0],show(x.1 == 2)=false by simp[e0],show(x.1 != 0)=false by simp[e0]];rfl
  ·by_cases e1:x.1=1
   ·rw[show(x.1 == 0)=false by simp[e0],show(x.1 == 1)=true by simp[e1],show(x.1 == 2)=false by simp[e1],show(x.1 != 0)=true by simp[e0],show(x.2.1 != Xac f.1 (i:Int))=(Xac f.1 (i:Int) != x.2.1) by rw[bne,bne,Bool.beq_comm]]
    simp only[Yvs,Yvr]
    cases (Xac f.1 (i:Int) != x.2.1)<;>rfl
   ·have e2:x.1=2:=by omega
    rw[show(x.1 == 0)=false by simp[e0],show(x.1 == 1)=false by simp[e1],show(x.1 == 2)=true by simp[e2],show(x.1 != 0)=true by simp[e0]]
    simp only[Yvs,Yvr]
    cases i with
    |zero=>
     rw[show(((0:Nat):Int) == 0)=true from rfl,show decide (((0:Nat):Int)>0)=false from rfl];simp only[Yvs,Yvr]
     cases (Xac f.1 ((0:Nat):Int) != 0)<;>rfl
    |succ j=>
     rw[show(((j+1:Nat):Int) == 0)=false by simp;omega,show decide (((j+1:Nat):Int)>0)=true by simp]
     simp only[Yvs,Yvr]
     cases (Xac f.1 ((j+1:Nat):Int) != 1)<;>rfl) (by simp only[Xcv.B,Yv5 (jB _),Yvr])
 have hr:Xdt f.1 0=some (Xy f.1 0):=Xl2 h.Xke hn 0 h.pos;simp only[Xbl,hr,jA,hl,Xag]
 cases (List.range f.1.length).any fun i=>Xcl f.1 i (f.1.getD i Xa)<;>rfl
def Xij (a b:Int):Int:=cond (decide (a<b)) a b
theorem Xl7 (a b:Int):Xhl a b=some (Xij a b):=by simp only[Xhl,Xij,Yux]
theorem Xji (a b:Int):cond (decide (a<b)) a b=Xij b a:=by
 unfold Xij
 by_cases h1:a<b
 ·rw[show decide (a<b)=true by simp[h1],show decide (b<a)=false by simp;omega];rfl
 ·by_cases h2:b<a
  ·rw[show decide (a<b)=false by simp;omega,show decide (b<a)=true by simp[h2]];rfl
  ·have:a=b:=by omega
   subst this;simp
def Xdj (x:Xb):Nat→List Int→List Int→List Int
 |_,[],w=>w
 |k,b::bs,w=>Xdj x (k+1) bs (w.set b.toNat (Xij 8 (w64 (x.2.2.1-w64 ((k:Int)*8)))))
def Xg8:List Xb→List Int→List Int
 |[],w=>w
 |x::l,w=>Xg8 l (Xdj x 0 x.2.2.2.1 w)
def Xcj (l:List Xb):List Int:=Xg8 l (List.replicate 20 0)
theorem Xdo (x:Xb):∀ (bs:List Int) (k:Nat) (w:List Int),(Xdj x k bs w).length=w.length
 |[],k,w=>rfl
 |b::bs,k,w=>by simp only[Xdj];rw[Xdo x bs];simp
theorem Xg9:∀ (l:List Xb) (w:List Int),(Xg8 l w).length=w.length
 |[],w=>rfl
 |x::l,w=>by simp only[Xg8];rw[Xg9 l,Xdo]
theorem Xi7 (l:List Xb):(Xcj l).length=20:=by unfold Xcj;rw[Xg9];simp
theorem Xd3 (x:Xb):∀ (bs:List Int) (k:Nat) (w:List Int),Ybv (fun k b w=>.inl (w.set b.toNat (Xij 8 (w64 (x.2.2.1-w64 ((k:Int)*8)))))) id k bs w=Xdj x k bs w
 |[],k,w=>rfl
 |b::bs,k,w=>by simp only[Ybv,Yvy,Xdj];exact Xd3 x bs _ _
theorem Xd4:∀ (l:List Xb) (k:Nat) (w:List Int),Ybv (fun _ x w=>.inl (Xdj x 0 x.2.2.2.1 w)) id k l w=Xg8 l w
 |[],k,w=>rfl
 |x::l,k,w=>by simp only[Ybv,Yvy,Xg8];exact Xd4 l _ _
theorem Xl8 (f:Fs_) (i:Int) (x:Xb) (h4:x.2.2.2.1.length≤4) (hb:∀ b∈x.2.2.2.1,0≤b∧b≤19) (w:List Int) (hw:w.length=20):Xev f i x (0,w)=some (Xdj x 0 x.2.2.2.1 w):=by
 have h:=Ymt (τ:=List Int) x.2.2.2.1 (f:=fun s=>Xev.B f i x s.1 s.2) (fun k w=>((k:Int),w)) (fun k b w=>.inl (w.set b.toNat (Xij 8 (w64 (x.2.2.1-w64 ((k:Int)*8)))))) id (fun k w=>w.length=20)
  (fun k hk w hw=>by
   have h2:=hb _ (jE hk)
   simp only[Xev.B,Ywa hk,Yv7 hk,Yvs,toNat_cast,getD_lt _ hk,Xl7,jA,Yvp (by omega:k<4294967296),sel]
   rw[show inB (x.2.2.2.1[k]) w.length=true from Yub h2.1 (by omega)];rfl) (fun k hk w w' hw e=>by cases e;simpa using hw) (fun w hw=>by
   simp only[Xev.B,Yv5 (jB _),Yvr,id]) w hw (s:=(0,w)) rfl
 rw[Xd3] at h;exact h
theorem Xl9 (l:List Xb) (v v2:Int) (v3:List Int) (x:Xb) (h4:x.2.2.2.1.length≤4) (hb:∀ b∈x.2.2.2.1,0≤b∧b≤19) (w:List Int) (hw:w.length=20):Xat l v v2 x.2.2.2.1 (x.2.2.2.1.length:Int) v3 x (0,w)=some (Xdj x 0 x.2.2.2.1 w):=by
 have h:=Ymt (τ:=List Int) x.2.2.2.1 (f:=fun s=>Xat.B l v v2 x.2.2.2.1 (x.2.2.2.1.length:Int) v3 x s.1 s.2) (fun k w=>((k:Int),w)) (fun k b w=>.inl (w.set b.toNat (Xij 8 (w64 (x.2.2.1-w64 ((k:Int)*8)))))) id (fun k w=>w.length=20)
  (fun k hk w hw=>by
   have h2:=hb _ (jE hk)
   simp only[Xat.B,Ywa hk,Yv7 hk,Yvs,toNat_cast,getD_lt _ hk,Xji,jA,Yvp (by omega:k<4294967296),sel]
   rw[show inB (x.2.2.2.1[k]) 20=true from Yub h2.1 (by omega)];rfl) (fun k hk w w' hw e=>by cases e;simpa using hw) (fun w hw=>by
   simp only[Xat.B,Yv5 (jB _),Yvr,id]) w hw (s:=(0,w)) rfl
 rw[Xd3] at h;exact h
theorem Xma (l:List Xb) (hok:Xc8 l):Xea l=some (Xcj l):=by
 have hl:=hok.len
 have h:=Ymt (τ:=List Int) l (f:=fun s=>Xbm.B l (l.length:Int) (List.replicate 20 0) s.1 s.2) (fun k w=>((k:Int),w)) (fun _ x w=>.inl (Xdj x 0 x.2.2.2.1 w)) id (fun k w=>w.length=20)
  (fun k hk w hw=>by
   have h2:=hok.blk _ (jE hk)
   simp only[Xbm.B,Ywa hk,Yv7 hk,Yvs,toNat_cast,getD_lt _ hk,jA,Xl9 l _ _ _ _ h2.1 h2.2 w hw,Yvp (by omega:k<4294967296),sel]) (fun k hk w w' hw e=>by cases e;rw[Xdo];exact hw) (fun w hw=>by
   simp only[Xbm.B,Yv5 (jB _),Yvr,id]) (List.replicate 20 0) (by simp) (s:=(0,List.replicate 20 0)) rfl
 rw[Xd4] at h;have h':Xbm l (l.length:Int) (List.replicate 20 0) (0,List.replicate 20 0)=some (Xcj l):=h;simp only[Xea,h',jA]
def Xah (f:Fs_):Bool:=(List.range 20).any fun i=>((f.2.1.getD i []).length:Int) != (Xcj f.1).getD i 0
theorem Xmb (f:Fs_) (h:X7 f):Xde f=some (!Xah f):=by
 have hok:=Xc8.of h.inod;have hl:=hok.len;have hd:=h.dat
 have h1:=Ymt (τ:=List Int) f.1 (f:=fun s=>Xfj.B f s.1 s.2) (fun k w=>((k:Int),w)) (fun _ x w=>.inl (Xdj x 0 x.2.2.2.1 w)) id (fun k w=>w.length=20)
  (fun k hk w hw=>by
   have h2:=hok.blk _ (jE hk)
   simp only[Xfj.B,Ywa hk,Yv7 hk,Yvs,toNat_cast,getD_lt _ hk,jA,Xl8 f _ _ h2.1 h2.2 w hw,Yvp (by omega:k<4294967296),sel]) (fun k hk w w' hw e=>by cases e;rw[Xdo];exact hw) (fun w hw=>by
   simp only[Xfj.B,Yv5 (jB _),Yvr,id]) (List.replicate 20 0) (by simp) (s:=(0,List.replicate 20 0)) rfl
 rw[Xd4] at h1;have h1':Xfj f (0,List.replicate 20 0)=some (Xcj f.1):=h1;have hwl:=Xi7 f.1
 have h2:Xgh f (Xcj f.1) 0=_:=Xfv f.2.1 [] (fun i b=>(b.length:Int) != (Xcj f.1).getD i 0) false (fun i hi=>by
  simp only[Xgh.B,Ywa hi,Yv7 hi,Yv7 (by omega:i<(Xcj f.1).length),Yvs,toNat_cast,getD_lt _ hi,jA,Yvp (by omega:i<4294967296)]) (by
  simp only[Xgh.B,Yv5 (jB _),Yvr])
 simp only[Xde];rw[show(decide ((0:Int)≤(20:Int))&&(decide ((20:Int)≤(20:Int))&&decide ((20:Int)≤2147483648)))=true from rfl,show(20:Int).toNat=20 from rfl];simp only[Yvs,h1',jA,h2,Xah,hd]
 cases (List.range 20).any fun i=>((f.2.1.getD i []).length:Int) != (Xcj f.1).getD i 0<;>rfl
theorem Xmc (f:Fs_) (h:X7 f):Xbn f=some (cond (Xah f) 1 0):=by
 have hok:=Xc8.of h.inod;have hd:=h.dat
 have h2:Xda f (Xcj f.1) 0=_:=Yve (List.range 20) (fun i=>((f.2.1.getD i []).length:Int) != (Xcj f.1).getD i 0) (1:Int) (fun i hi=>by
  have hi':i<20:=by simpa using hi
  simp only[Xda.B,show decide ((i:Int)<20)=true by simp;omega,Yv7 hi',Yv7 (by omega:i<f.2.1.length),Yvs,toNat_cast,Xfz,jA,Yvp (by omega:i<4294967296),kA]) (by
  rw[kJ];rfl)
 simp only[Xbn,Xma f.1 hok,jA,h2,Xah]
 cases (List.range 20).any fun i=>((f.2.1.getD i []).length:Int) != (Xcj f.1).getD i 0<;>rfl
noncomputable def fsF (f:Fs_):Int:=cond (Xci f != 0) (Xci f) (cond (Xag f.1) 1 (cond (Xah f) 1 0))
theorem Xj5 (f:Fs_) (hb:Bd Xl f):Xhm f=some (fsF f):=by
 simp only[Xhm,fsF,Xlu f hb,jA]
 cases h:(Xci f != 0) with
 |true=>simp only[Yvs]
 |false=>
  have ht:=X7.of (by simpa using h:Xci f=0)
  simp only[Yvr,Xl5 f ht,Xmb f ht,jA,Bool.not_not,Yux]
theorem Xj6 (f:Fs_) (hb:Bd Xl f):Xeb f=some (fsF f):=by
 simp only[Xeb,fsF,Xlx f hb,jA]
 cases h:(Xci f != 0) with
 |true=>simp only[Yvs]
 |false=>
  have ht:=X7.of (by simpa using h:Xci f=0)
  simp only[Yvr,Xl6 f ht,Xmc f ht,jA]
  cases Xag f.1<;>cases Xah f<;>rfl
structure Xi8 (f:Fs_):Prop where
 tree:X7 f
 lnk:Xag f.1=false
 siz:Xah f=false
theorem Xi8.of {f:Fs_} (h:fsF f=0):Xi8 f:=by
 unfold fsF at h
 cases h0:(Xci f != 0) with
 |true=>rw[h0] at h;exact absurd h (by simpa using h0)
 |false=>
  rw[h0] at h
  cases h1:Xag f.1 with
  |true=>rw[h1] at h;cases h
  |false=>
   rw[h1] at h
   cases h2:Xah f with
   |true=>rw[h2] at h;cases h
   |false=>exact⟨X7.of (by simpa using h0),h1,h2⟩
theorem Xhy (k:IntKind):∀ xs:List Int,(xs.map (wt (.int k))).sum=xs.length
 |[]=>rfl
 |x::xs=>by rw[jS,List.sum_cons,Xhy k xs,Yus,jH];omega
structure Xam (x:Xb):Prop where
 blk:x.2.2.2.1.length≤4
 ent:x.2.2.2.2.1.length≤6
 nam:∀ e∈x.2.2.2.2.1,e.1.length≤4
theorem Xam.of {x:Xb} (h:Xab x=0):Xam x:=
 ⟨(Xa6 h).1,(Xz h).2.1,fun e he=>(Xik ((Xz h).2.2.2.2.2 e he).1).2.1⟩
theorem Xkf {α β:Type}:∀ (l:List α) (a:List α) (b:β),l.foldl (fun(t:List α×β) x=>(t.1++[x],t.2)) (a,b)=(a++l,b)
 |[],a,b=>by simp
 |x::l,a,b=>by rw[kI,Xkf l];simp
theorem Xkg {α β γ:Type}:∀ (l:List α) (a:β) (b:List α) (c:γ),l.foldl (fun(t:β×List α×γ) x=>(t.1,t.2.1++[x],t.2.2)) (a,b,c)=(a,b++l,c)
 |[],a,b,c=>by simp
 |x::l,a,b,c=>by rw[kI,Xkg l];simp
structure FsB (f:Fs_):Prop where
 l:f.1.length≤10
 s:∀ x∈f.1,Xam x
 d:f.2.1.length=20
 dl:∀ b∈f.2.1,b.length≤64
theorem FsB.wt {f:Fs_} (h:FsB f):wt Xl f≤100000:=by
 have e1:∀ w:List Int,(w.map (Mf.wt (.int .i64))).sum=w.length:=fun w=>Xhy .i64 w;have e2:∀ w:List Int,(w.map (Mf.wt (.int .u8))).sum=w.length:=fun w=>Xhy .u8 w
 have h1:=Ytj (Mf.wt Xc) 100 (xs:=f.1) (fun x hx=>by
  have hs:=h.s x hx;have hb:=hs.blk;have he:=hs.ent
  have h2:=Ytj (Mf.wt Xg) 6 (xs:=x.2.2.2.2.1) (fun e hee=>by
   have:=hs.nam e hee
   simp only[Yl4,Yoo,Yus,Ytn];omega)
  have e:Mf.wt Xc x=1+(1+(1+((x.2.2.2.1.map (Mf.wt (.int .i64))).sum+1+((x.2.2.2.2.1.map (Mf.wt Xg)).sum+1+0)))):=rfl;rw[e,e1]
  omega)
 have h2:=Ytj (Mf.wt (.sl (.int .u8))) 65 (xs:=f.2.1) (fun b hb=>by
  have:=h.dl b hb
  rw[Ysb,e2];omega)
 have hl:=h.l;have hd:=h.d;rw[Yl4,Yl4,Ytn,Ysb,Ysb];rw[hd] at h2;have:f.1.length*100≤10*100:=jR _ hl;omega
theorem Xmd {x:Xb} (h:Xam x):Xho x=some x:=by
 have h1:=h.blk;have h2:=h.ent;simp only[Xho,Xh3,jO]
 rw[jZ (by omega:x.2.2.2.1.length≤2147483648)]
 simp only[Yvs,jA]
 rw[jZ (by omega:x.2.2.2.2.1.length≤2147483648)]
 rfl
theorem Xj7 {f:Fs_} (h:FsB f):Xc6 f=some f:=by
 obtain⟨bs,ps,⟨⟩⟩:=f;have hl1:bs.length≤10:=h.l;have hl2:ps.length=20:=h.d
 have h0:Xfn (bs,ps,()) ([],[],()) (0,([],[],()))=some (bs.foldl (fun(t:Fs_) x=>(t.1++[x],t.2)) ([],[],())):=
  Yn9 bs (f:=fun s=>Xfn.B (bs,ps,()) ([],[],()) s.1 s.2) _ (fun t=>t) (fun i t=>t.1.length≤i) (fun i hi t ht=>by
   have hw:=Xmd (h.s _ (jE hi))
   constructor
   ·simp only[Xfn.B,Ywa hi,Yv7 hi,Yvs,toNat_cast,getD_lt _ hi,hw,jA,Yvp (by omega:i<4294967296)]
    rw[show decide ((t.1++[(bs[i].1,bs[i].2.1,bs[i].2.2.1,bs[i].2.2.2.1,bs[i].2.2.2.2.1,bs[i].2.2.2.2.2)]).length≤2147483648)=true by simp;omega];rfl
   ·simp;omega) (fun t ht=>by simp only[Xfn.B,Yv5 (jB _),Yvr]) _ (jB _)
 have h1:Xfo (bs,ps,()) ([],[],()) (0,(bs,[],()))=some (ps.foldl (fun(t:Fs_) x=>(t.1,t.2.1++[x],t.2.2)) (bs,[],())):=
  Yn9 ps (f:=fun s=>Xfo.B (bs,ps,()) ([],[],()) s.1 s.2) _ (fun t=>t) (fun i t=>t.2.1.length≤i) (fun i hi t ht=>by
   have hw:ps[i].length≤64:=h.dl _ (jE hi)
   constructor
   ·simp only[Xfo.B,Ywa hi,Yv7 hi,Yvs,toNat_cast,getD_lt _ hi,jO,jZ (show ps[i].length≤2147483648 by omega),jA,Yvp (by omega:i<4294967296)]
    rw[show decide ((t.2.1++[ps[i]]).length≤2147483648)=true by simp;omega];rfl
   ·simp;omega) (fun t ht=>by simp only[Xfo.B,Yv5 (jB _),Yvr]) _ (jB _)
 rw[Xkf] at h0;rw[Xkg] at h1;simp only[jO] at h0 h1;simp only[Xc6,h0,jA,h1]
def Xv (c:UInt8):List UInt8→List UInt8→List (List UInt8)
 |acc,[]=>[acc]
 |acc,b::l=>match b == c with
  |true=>acc::Xv c [] l
  |false=>Xv c (acc++[b]) l
theorem Xjc (c:UInt8):∀ (l acc:List UInt8),(Xv c acc l).length=l.count c+1:=by
 intro l
 induction l with
 |nil=>intro acc;rfl
 |cons b l ih=>
  intro acc;simp only[Xv]
  cases h:b == c with
  |true=>simp only[jH,ih,List.count_cons,h,if_true]
  |false=>simp[ih,List.count_cons,h]
theorem Xic (c:UInt8):∀ (m l acc:List UInt8),(∀ x∈m,(x == c)=false)→Xv c acc (m++l)=Xv c (acc++m) l:=by
 intro m
 induction m with
 |nil=>intro l acc h;simp
 |cons b m ih=>
  intro l acc h;simp only[jQ,Xv,h b (jF),ih _ _ (fun x hx=>h x (jG _ hx)),kO,jO]
theorem Xiy (c:UInt8) (l acc:List UInt8):Xv c acc (c::l)=acc::Xv c [] l:=by simp[Xv]
theorem Xew (c:UInt8):∀ (l:List UInt8),(Go.Lib.indexByte l c = -1∧l.count c=0∧∀ x∈l,(x == c)=false)∨
  ∃ k:Nat,Go.Lib.indexByte l c=k∧k<l.length∧(∀ x∈l.take k,(x == c)=false)∧l=l.take k++c::l.drop (k+1)∧l.count c=(l.drop (k+1)).count c+1:=by
 intro l
 induction l with
 |nil=>exact .inl ⟨rfl,rfl,fun x hx=>by cases hx⟩
 |cons b l ih=>
  cases h:b == c with
  |true=>
   have e:b=c:=by simpa using h
   subst e
   exact .inr ⟨0,by simp[Go.Lib.indexByte],by simp,by simp,by simp,by simp⟩
  |false=>
   rcases ih with ⟨i1,i2,i3⟩ | ⟨k,i1,i2,i3,i4,i5⟩
   ·refine .inl ⟨by simp[Go.Lib.indexByte,h,i1],by simp[List.count_cons,h,i2],fun x hx=>?_⟩
    rcases List.mem_cons.1 hx with rfl | hx
    ·exact h
    ·exact i3 x hx
   ·refine .inr ⟨k+1,?_,by simpa using i2,fun x hx=>?_,?_,?_⟩
    ·have:¬ ((k:Int) = -1):=by omega
     simp[Go.Lib.indexByte,h,i1,this]
    ·rw[List.take_succ_cons] at hx
     rcases List.mem_cons.1 hx with rfl | hx
     ·exact h
     ·exact i3 x hx
    ·rw[List.take_succ_cons,List.drop_succ_cons,jQ,←i4]
    ·rw[List.drop_succ_cons,List.count_cons,h,i5];simp
theorem Xme (l:List UInt8) (c:UInt8) (hl:l.length≤1048576):Xg3 l (c.toNat:Int)=some (Xv c [] l):=by
 have fin:∀ (fr:Int) (out:List (List UInt8)),Xdz l (c.toNat:Int) (fr,((l.length+1:Nat):Int),out)=some out:=fun fr out=>by
  refine Yar ?_;simp only[Xdz.B]
  rw[show decide (((l.length+1:Nat):Int)≤(l.length:Int))=false by simp;omega]
  rfl
 have key:∀ (m fr i:Nat) (out:List (List UInt8)),m=l.length-i→fr≤i→i≤l.length→out.length≤fr→
   Xdz l (c.toNat:Int) ((fr:Int),(i:Int),out)=some (out++Xv c ((l.take i).drop fr) (l.drop i)):=by
  intro m
  induction m with
  |zero=>
   intro fr i out hm h1 h2 h3
   have hi:i=l.length:=by omega
   subst hi;refine(Ybb (s':=(((l.length+1:Nat):Int),((l.length+1:Nat):Int),out++[(l.take l.length).drop fr])) ?_).trans ?_
   ·simp only[Xdz.B]
    rw[show decide ((l.length:Int)≤(l.length:Int))=true by simp,show((l.length:Int) == (l.length:Int))=true by simp,
     show(decide ((0:Int)≤(l.length:Int))&&true&&(decide ((0:Int)≤(fr:Int))&&decide ((fr:Int)≤(l.length:Int))))=true by simp;omega]
    simp only[Yvs,jK,Yvr,jA,toNat_cast]
    rw[show decide ((out++[(l.take l.length).drop fr]).length≤2147483648)=true by simp;omega,Yvp (by omega)]
    rfl
   ·refine(fin _ _).trans ?_;simp[Xv]
  |succ m ih=>
   intro fr i out hm h1 h2 h3
   have hlt:i<l.length:=by omega
   have hd:l.drop i=l[i]::l.drop (i+1):=kZ hlt
   have hg:((l.getD (i:Int).toNat 0).toNat:Int)=(l[i].toNat:Int):=by simp[List.getD,hlt]
   have hb:inB (i:Int) l.length=true:=Yub (by omega) (by omega)
   have q1:decide ((i:Int)≤(l.length:Int))=true:=by simp;omega
   have q2:((i:Int) == (l.length:Int))=false:=by simp;omega
   cases hc:l[i] == c with
   |true=>
    have e:l[i]=c:=by simpa using hc
    refine(Ybb (s':=(((i+1:Nat):Int),((i+1:Nat):Int),out++[(l.take i).drop fr])) ?_).trans ?_
    ·simp only[Xdz.B]
     rw[q1,q2,hb,hg,e,show((c.toNat:Int) == (c.toNat:Int))=true by simp,
      show(decide ((0:Int)≤(i:Int))&&true&&(decide ((0:Int)≤(fr:Int))&&decide ((fr:Int)≤(i:Int))))=true by simp;omega]
     simp only[Yvs,kQ,Yvr,jA,toNat_cast]
     rw[show decide ((out++[(l.take i).drop fr]).length≤2147483648)=true by simp;omega,Yvp (by omega)]
     rfl
    ·refine(ih (i+1) (i+1) _ (by omega) (jB _) (by omega) (by simp;omega)).trans ?_
     rw[hd,e,Xiy]
     simp
   |false=>
    have ne:¬ l[i].toNat=c.toNat:=fun e=>by
     have:l[i]=c:=UInt8.toNat_inj.1 e;simp[this] at hc
    refine(Ybb (s':=((fr:Int),((i+1:Nat):Int),out)) ?_).trans ?_
    ·simp only[Xdz.B]
     rw[q1,q2,hb,hg,show((l[i].toNat:Int) == (c.toNat:Int))=false by simp;omega]
     simp only[Yvs,kQ,Yvr,jA,toNat_cast]
     rw[Yvp (by omega)]
    ·refine(ih fr (i+1) _ (by omega) (by omega) (by omega) h3).trans ?_
     rw[hd];simp only[Xv,hc]
     congr 2
     rw[List.take_succ_eq_append_getElem hlt,List.drop_append_of_le_length (by simp;omega)]
 simp only[Xg3]
 rw[show((0:Int),(0:Int),([]:List (List UInt8)))=(((0:Nat):Int),((0:Nat):Int),[]) from rfl,key l.length 0 0 [] (by omega) (jB _) (kE _) (jB _)]
 rfl
theorem Xmf (l:List UInt8) (c:UInt8):Xee l [c]=some (Go.Lib.indexByte l c):=by
 have h1:Xk l ((([c]:List UInt8).getD (0:Int).toNat 0).toNat:Int)=some (Go.Lib.indexByte l c):=by
  show some (Go.Lib.indexByte l (c.toNat:Int).toNat.toUInt8)=_
  congr 2
  simp
 simp only[Xee,Xm,jA]
 cases h:([c]:List UInt8) == l with
 |true=>
  have e:[c]=l:=by simpa using h
  subst e
  simp[Go.Lib.indexByte]
 |false=>
  rw[h1];simp[inB]
theorem Xmg (l:List UInt8) (c:UInt8) (hl:l.length≤1048576):Xef l [c]=some (Xv c [] l):=by
 have hcl:l.count c≤l.length:=List.count_le_length
 have key:∀ (m:Nat) (s:List UInt8) (i:Nat) (dn:List (List UInt8)),m=s.count c→i+m=l.count c→dn.length=i→dn++Xv c [] s=Xv c [] l→s.length≤l.length→
   ∃ s' dn',Xbs [c] 0 (l.count c:Int) (s,(i:Int),dn++List.replicate (m+1) [])=some (s',(l.count c:Int),dn'++[([]:List UInt8)])∧dn'.length=l.count c∧dn'++[s']=Xv c [] l:=by
  intro m
  induction m with
  |zero=>
   intro s i dn hm hi hd hc hs
   refine⟨s,dn,Yar ?_,by omega,?_⟩
   ·simp only[Xbs.B]
    rw[show decide ((i:Int)<(l.count c:Int))=false by simp;omega]
    have:(i:Int)=(l.count c:Int):=by omega
    simp[this]
   ·rw[←hc]
    rcases Xew c s with ⟨_,_,q⟩ | ⟨k,_,_,_,_,q⟩
    ·have:=Xic c s [] [] q
     simp only[qC,jO] at this;rw[this];rfl
    ·omega
  |succ m ih=>
   intro s i dn hm hi hd hc hs;rcases Xew c s with ⟨_,q,_⟩ | ⟨k,k1,k2,k3,k4,k5⟩
   ·omega
   ·obtain⟨s',dn',r1,r2,r3⟩:=ih (s.drop (k+1)) (i+1) (dn++[s.take k]) (by omega) (by omega) (by simp;omega)
     (by
      rw[←hc,kO]
      congr 1
      conv=>rhs;rw[k4]
      rw[Xic c _ _ _ k3,Xiy]
      simp) (by simp;omega)
    refine⟨s',dn',(Ybb ?_).trans r1,r2,r3⟩;have hcl2:=hcl;simp only[Xbs.B,Xmf,jA,k1]
    have e0:w64 ((k:Int)+0)=(k:Int):=Yr8 (by omega) (by omega)
    have e1:w64 ((k:Int)+(([c]:List UInt8).length:Int))=((k+1:Nat):Int):=by
     rw[show((k:Int)+(([c]:List UInt8).length:Int))=((k+1:Nat):Int) by simp]
     exact Yr8 (by omega) (by omega)
    rw[show decide ((i:Int)<(l.count c:Int))=true by simp;omega,show decide ((k:Int)<0)=false by simp,e0,e1,
     show(decide ((0:Int)≤(k:Int))&&decide ((k:Int)≤(s.length:Int)))=true by simp;omega,
     show inB (i:Int) (dn++List.replicate (m+1+1) ([]:List UInt8)).length=true from Yub (by omega) (by simp;omega),
     show(decide ((0:Int)≤((k+1:Nat):Int))&&decide (((k+1:Nat):Int)≤(s.length:Int)))=true by simp;omega,
     Yvp (by omega)]
    simp only[Yvs,Yvr,jA,toNat_cast,List.drop_zero,List.take_length]
    have e2:(dn++List.replicate (m+1+1) ([]:List UInt8)).set i (s.take k)=(dn++[s.take k])++List.replicate (m+1) []:=by
     rw[List.set_append,jM (by omega),hd,Nat.sub_self,List.replicate_succ]
     simp
    rw[e2]
 obtain⟨s',dn',r1,r2,r3⟩:=key (l.count c) l 0 [] rfl (by omega) rfl rfl (jB _)
 have hv:(cond (decide (w64 ((l.length:Int)+1)<w64 ((l.count c:Int)+1))) (w64 ((l.length:Int)+1)) (w64 ((l.count c:Int)+1)))=((l.count c+1:Nat):Int):=by
  rw[show((l.length:Int)+1)=((l.length+1:Nat):Int) by simp,show((l.count c:Int)+1)=((l.count c+1:Nat):Int) by simp,Yr8 (x:=((l.length+1:Nat):Int)) (by omega) (by omega),Yr8 (x:=((l.count c+1:Nat):Int)) (by omega) (by omega)]
  rw[show decide (((l.length+1:Nat):Int)<((l.count c+1:Nat):Int))=false by simp;omega]
  rfl
 simp only[Xef,Xcw,Xgr,countP,jA]
 rw[hv,show w64 (((l.count c+1:Nat):Int)-1)=(l.count c:Int) by rw[Yr8 (by omega) (by omega)];omega]
 rw[show((-1:Int) == 0)=false by rfl,show(([c]:List UInt8) == [])=false by rfl,show decide ((-1:Int)<0)=true by rfl,
  show(decide ((0:Int)≤((l.count c+1:Nat):Int))&&(decide (((l.count c+1:Nat):Int)≤((l.count c+1:Nat):Int))&&decide (((l.count c+1:Nat):Int)≤2147483648)))=true by simp;omega]
 simp only[Yvs,Yvr,toNat_cast];simp only[jO] at r1;rw[show((0:Int))=((0:Nat):Int) from rfl] at *;rw[r1];simp only[jA,toNat_cast]
 rw[show inB (l.count c:Int) (dn'++[([]:List UInt8)]).length=true from Yub (by omega) (by simp;omega),Yvp (by omega)]
 have e2:(dn'++[([]:List UInt8)]).set (l.count c) s'=Xv c [] l:=by
  rw[List.set_append,jM (by omega),r2,Nat.sub_self,←r3];rfl
 have e3:(Xv c [] l).length=l.count c+1:=Xjc c l []
 rw[e2,e3,show(decide (((0:Nat):Int)≤((l.count c+1:Nat):Int))&&decide (((l.count c+1:Nat):Int)≤((l.count c+1:Nat):Int)))=true by simp;omega]
 simp only[Yvs,jA,toNat_cast,List.drop_zero,Nat.sub_zero];rw[←e3,List.take_length]
def Xj (l:List Xb) (a:Int):List Xf:=(l.getD a.toNat Xa).2.2.2.2.1
def Xmz (ns:List (List UInt8)):List UInt8:=(ns.map fun n=>47::n).flatten
structure Xc5 (l:List Xb):Prop where
 len:l.length≤10
 pos:0<l.length
 six:∀ x∈l,x.2.2.2.2.1.length≤6
 fil:∀ x∈l,x.1≠2→x.2.2.2.2.1=[]
 nam:∀ x∈l,∀ e∈x.2.2.2.2.1,Xu e.1=0
 ent:∀ x∈l,∀ e∈x.2.2.2.2.1,0≤e.2.1∧e.2.1<(l.length:Int)
theorem Xc5.of {f:Fs_} (h:X7 f):Xc5 f.1 where
 len:=(Xc8.of h.inod).len
 pos:=h.pos
 six:=fun x hx=>(Xz ((Xr h.inod).2 x hx)).2.1
 fil:=fun x hx=>(Xz ((Xr h.inod).2 x hx)).2.2.1
 nam:=fun x hx e he=>((Xz ((Xr h.inod).2 x hx)).2.2.2.2.2 e he).1
 ent:=fun x hx e he=>⟨(h.ent x hx e he).1,(h.ent x hx e he).2.1⟩
theorem getD_in {l:List Xb} {a:Int} (h0:0≤a) (h1:a<(l.length:Int)):l.getD a.toNat Xa∈l:=by
 have h:a.toNat<l.length:=by omega
 rw[getD_lt _ h];exact jE h
theorem Xc5.at_ {l:List Xb} (h:Xc5 l) {a:Int} (h0:0≤a) (h1:a<(l.length:Int)) :
  (Xj l a).length≤6∧((l.getD a.toNat Xa).1≠2→Xj l a=[])∧∀ e∈Xj l a,Xu e.1=0∧0≤e.2.1∧e.2.1<(l.length:Int):=
 have hm:=getD_in h0 h1
 ⟨h.six _ hm,h.fil _ hm,fun e he=>⟨h.nam _ hm e he,(h.ent _ hm e he).1,(h.ent _ hm e he).2⟩⟩
theorem Xg5 {α ρ:Type} (p:α→Bool) (g:α→ρ):∀ (l:List α) (i:Nat),Ybv (τ:=Unit) (fun _ x _=>cond (p x) (.inr (.inl (g x))) (.inl ())) (fun _=>(.inr ():ρ⊕Unit)) i l ()=(match l.find? p with | some x=>.inl (g x) | none=>.inr ())
 |[],i=>rfl
 |x::l,i=>by
  simp only[Ybv,List.find?_cons]
  cases h:p x with
  |true=>rfl
  |false=>simp only[cond_false,sel];exact Xg5 p g l (i+1)
theorem Xjh {α ρ:Type} (l:List α) {f:Int→Option (Int⊕(ρ⊕Unit))} (p:α→Bool) (g:α→ρ)
  (hs:∀ (i:Nat) (h:i<l.length),f (i:Int)=cond (p l[i]) (some (.inr (.inl (g l[i])))) (some (.inl ((i+1:Nat):Int)))) (he:f (l.length:Int)=some (.inr (.inr ()))) :
  Yam f 0=some (match l.find? p with | some x=>.inl (g x) | none=>.inr ()):=by
 have h:=Yiz (τ:=Unit) l (fun i _=>(i:Int)) (fun _ x _=>cond (p x) (.inr (.inl (g x))) (.inl ())) (fun _=>(.inr ():ρ⊕Unit)) (fun i hi t=>by rw[hs i hi];cases (p l[i])<;>rfl) (fun t=>he) () (s:=0) rfl
 rw[h,Xg5]
def X4 (es:List Xf) (n:List UInt8):Int:=match es.find? (fun e=>e.1 == n) with | some e=>e.2.1 | none=>-1
theorem Xgy {α:Type} (p:α→Bool) (d:α):∀ (l:List α) (i:Nat),(match Yn3 p i l with | some j=>(l.find? p=some (l.getD (j-i) d)∧i≤j∧j-i<l.length) | none=>l.find? p=none)
 |[],i=>rfl
 |x::l,i=>by
  simp only[Yn3,List.find?_cons]
  cases h:p x with
  |true=>simp
  |false=>
   simp only[cond_false];have ih:=Xgy p d l (i+1)
   cases hj:Yn3 p (i+1) l with
   |none=>rw[hj] at ih;exact ih
   |some j=>
    rw[hj] at ih;obtain⟨h1,h2,h3⟩:=ih
    have e:j-i=(j-(i+1))+1:=by omega
    refine⟨?_,by omega,by simp only[jH];omega⟩
    rw[h1,e];simp[List.getD]
theorem Xj8 (f:Fs_) (a:Int) (n:List UInt8) (h0:0≤a) (h1:a<(f.1.length:Int)) (hl:(Xj f.1 a).length≤6):Xcy f a n=some (X4 (Xj f.1 a) n):=by
 have h:Xcx n (Xj f.1 a) ((Xj f.1 a).length:Int) 0=_:=Xjh (Xj f.1 a) (fun e=>e.1 == n) (fun e=>e.2.1) (fun i hi=>by
  simp only[Xcx.B,Ywa hi,Yv7 hi,Yvs,toNat_cast,getD_lt _ hi,Yvp (by omega:i<4294967296)]) (by
  simp only[Xcx.B,Yv5 (jB _),Yvr])
 simp only[Xcy,Yub h0 h1,Yvs,jA];unfold X4
 exact(congrArg (fun o=>Option.bind o fun o=>sel o (fun b=>some b) (fun c=>some (-1))) h).trans (by cases (Xj f.1 a).find? (fun e=>e.1 == n)<;>rfl)
theorem Xj9 (es:List Xf) (n:List UInt8) (hl:es.length≤6):Xfl es n=some (match Yn3 (fun e=>e.1 == n) 0 es with | some j=>(j:Int) | none=>-1):=by
 have h:Xgk es n 0=_:=Yvf es (fun e=>e.1 == n) (fun i hi=>by
  simp only[Xgk.B,Ywa hi,Yv7 hi,Yvs,toNat_cast,getD_lt _ hi,Yvp (by omega:i<4294967296)]) (by
  simp only[Xgk.B,Yv5 (jB _),Yvr]) 0 (kE _)
 simp only[Xfl];rw[h,List.drop_zero]
 cases Yn3 (fun e=>e.1 == n) 0 es<;>rfl
def X9 (l:List Xb):List (List UInt8)→Int→Int×Int
 |[],a=>(a,0)
 |n::ns,a=>cond ((l.getD a.toNat Xa).1 != 2) (0,9) (cond (decide (X4 (Xj l a) n<0)) (0,4) (X9 l ns (X4 (Xj l a) n)))
theorem Xii {l:List Xb} (h:Xc5 l) {a:Int} (h0:0≤a) (h1:a<(l.length:Int)) (n:List UInt8) (hn:decide (X4 (Xj l a) n<0)=false):0≤X4 (Xj l a) n∧X4 (Xj l a) n<(l.length:Int):=by
 unfold X4 at *
 cases hf:(Xj l a).find? (fun e=>e.1 == n) with
 |none=>rw[hf] at hn;simp at hn
 |some e=>exact((h.at_ h0 h1).2.2 e (List.mem_of_find?_eq_some hf)).2
def Xdy (l:List Xb) (n:List UInt8) (a:Int):Int⊕((Int×Int)⊕Int):=cond ((l.getD a.toNat Xa).1 != 2) (.inr (.inl (0,9))) (cond (decide (X4 (Xj l a) n<0)) (.inr (.inl (0,4))) (.inl (X4 (Xj l a) n)))
theorem Xfw (l:List Xb):∀ (ns:List (List UInt8)) (i:Nat) (a:Int),sel (Ybv (τ:=Int) (fun _ n a=>Xdy l n a) (fun a=>(.inr a:(Int×Int)⊕Int)) i ns a) (fun b=>b) (fun c=>(c,0))=X9 l ns a
 |[],i,a=>rfl
 |n::ns,i,a=>by
  simp only[Ybv,X9,Xdy]
  cases h1:((l.getD a.toNat Xa).1 != 2) with
  |true=>rfl
  |false=>
   cases h2:decide (X4 (Xj l a) n<0) with
   |true=>rfl
   |false=>simp only[cond_false,sel];exact Xfw l ns (i+1) _
theorem Xin {l:List Xb} (h:Xc5 l) {a t:Int} {n:List UInt8} (h0:0≤a∧a<(l.length:Int)) (e:Xdy l n a=.inl t):0≤t∧t<(l.length:Int):=by
 unfold Xdy at e
 cases h1:((l.getD a.toNat Xa).1 != 2) with
 |true=>rw[h1] at e;cases e
 |false=>
  rw[h1] at e
  cases h2:decide (X4 (Xj l a) n<0) with
  |true=>rw[h2] at e;cases e
  |false=>rw[h2] at e;cases e;exact Xii h h0.1 h0.2 n h2
theorem Xka (f:Fs_) (h:Xc5 f.1) (ns:List (List UInt8)) (hn:ns.length≤1048577):Xal f ns=some (X9 f.1 ns 0):=by
 have hp:=h.pos
 have h1:=Ymt (τ:=Int) ns (f:=fun s=>Xbu.B f ns (ns.length:Int) s.1 s.2) (fun k a=>(a,(k:Int))) (fun _ n a=>Xdy f.1 n a) (fun a=>(.inr a:(Int×Int)⊕Int)) (fun _ a=>0≤a∧a<(f.1.length:Int))
  (fun k hk a ha=>by
   have hq:=h.at_ ha.1 ha.2
   simp only[Xbu.B,Ywa hk,Yv7 hk,Yvs,toNat_cast,getD_lt _ hk,Yub ha.1 ha.2,Xj8 f a _ ha.1 ha.2 hq.1,jA,Yvp (by omega:k<4294967296),Xdy]
   cases ((f.1.getD a.toNat Xa).1 != 2)<;>cases decide (X4 (Xj f.1 a) ns[k]<0)<;>rfl)
  (fun k hk a a' ha e=>Xin h ha e) (fun a ha=>by simp only[Xbu.B,Yv5 (jB _),Yvr]) 0 ⟨Int.le_refl _,by omega⟩ (s:=(0,0)) rfl
 have h1':Xbu f ns (ns.length:Int) (0,0)=_:=h1;simp only[Xal];rw[h1',←Xfw f.1 ns 0 0]
 cases Ybv (τ:=Int) (fun _ n a=>Xdy f.1 n a) (fun a=>(.inr a:(Int×Int)⊕Int)) 0 ns 0<;>rfl
theorem Xkb (f:Fs_) (h:Xc5 f.1) (ns:List (List UInt8)) (hn:ns.length≤1048577):Xdr f ns=some (X9 f.1 ns 0):=by
 have hp:=h.pos
 have h1:=Ymt (τ:=Int) ns (f:=fun s=>Xfm.B f ns s.1 s.2) (fun k a=>(a,(k:Int))) (fun _ n a=>Xdy f.1 n a) (fun a=>(.inr a:(Int×Int)⊕Int)) (fun _ a=>0≤a∧a<(f.1.length:Int))
  (fun k hk a ha=>by
   have hq:=h.at_ ha.1 ha.2;have hx:=Xgy (fun e:Xf=>e.1 == ns[k]) Xn (Xj f.1 a) 0;have e8:=Xj9 (Xj f.1 a) ns[k] hq.1;have en:(f.1.getD a.toNat Xa).2.2.2.2.1=Xj f.1 a:=rfl;simp only[Xfm.B,Ywa hk,Yv7 hk,Yvs,toNat_cast,getD_lt _ hk,Yub ha.1 ha.2,en,e8,jA,Xdy,X4]
   cases hi:Yn3 (fun e:Xf=>e.1 == ns[k]) 0 (Xj f.1 a) with
   |none=>
    rw[hi] at hx;simp only[hx]
    cases ((f.1.getD a.toNat Xa).1 != 2)<;>rfl
   |some j=>
    rw[hi] at hx;obtain⟨x1,x2,x3⟩:=hx
    have hm:(Xj f.1 a).getD j Xn∈Xj f.1 a:=by rw[getD_lt _ (by omega:j<(Xj f.1 a).length)];exact jE _
    have hs:=(hq.2.2 _ hm).2.1;rw[Nat.sub_zero] at x1
    simp only[x1,show decide ((j:Int)<0)=false by simp,show decide (((Xj f.1 a).getD j Xn).2.1<0)=false from qA (by omega),Yvr,toNat_cast,Yv7 (by omega:j<(Xj f.1 a).length),Yvs,jA,Yvp (by omega:k<4294967296)]
    cases ((f.1.getD a.toNat Xa).1 != 2)<;>rfl)
  (fun k hk a a' ha e=>Xin h ha e) (fun a ha=>by simp only[Xfm.B,Yv5 (jB _),Yvr]) 0 ⟨Int.le_refl _,by omega⟩ (s:=(0,0)) rfl
 have h1':Xfm f ns (0,0)=_:=h1;simp only[Xdr];rw[h1',←Xfw f.1 ns 0 0]
 cases Ybv (τ:=Int) (fun _ n a=>Xdy f.1 n a) (fun a=>(.inr a:(Int×Int)⊕Int)) 0 ns 0<;>rfl
def Xjq (p:List UInt8):Bool:=p.isEmpty || p.getD 0 0 != 47 || p.getD (p.length-1) 0 == 47
def Xp (p:List UInt8):List (List UInt8)×Int:=
 cond (decide ((p.length:Int)>30)) ([],2) (cond (p == [47]) ([],0) (cond (Xjq p) ([],5) (cond (decide (((Xv 47 [] (p.drop 1)).length:Int)>6)) ([],2) (cond (Ygp Xu (Xv 47 [] (p.drop 1)) != 0) ([],Ygp Xu (Xv 47 [] (p.drop 1))) (Xv 47 [] (p.drop 1),0)))))
theorem Xdm:∀ (s acc:List UInt8),(Xv 47 acc s).length≤s.length+1∧∀ n∈Xv 47 acc s,n.length≤acc.length+s.length
 |[],acc=>by simp[Xv]
 |x::s,acc=>by
  simp only[Xv]
  cases x == 47 with
  |true=>
   have h:=Xdm s [];simp only[cond_true,jH,List.mem_cons]
   refine⟨by omega,fun n hn=>?_⟩
   rcases hn with rfl | hn
   ·omega
   ·have:=h.2 n hn;simp only[kD] at this;omega
  |false=>
   have h:=Xdm s (acc++[x]);simp only[cond_false,jH,jP,kD] at h ⊢
   refine⟨by omega,fun n hn=>?_⟩
   have:=h.2 n hn;omega
theorem Xi3 (x:UInt8):((x.toNat:Int) == 47)=(x == 47):=by
 rw[Bool.eq_iff_iff];simp only[beq_iff_eq]
 constructor
 ·intro h
  have:x.toNat=47:=by omega
  exact UInt8.toNat_inj.1 this
 ·rintro rfl;rfl
theorem Xmh (ns:List (List UInt8)) (hn:ns.length≤1048576) (hl:∀ n∈ns,n.length≤2147483648):Xfk ns=some (cond (decide ((ns.length:Int)>6)) 2 (Ygp Xu ns)):=by
 have h:Xgi ns 0=_:=Yue ns Xu (fun i hi=>by
  simp only[Xgi.B,Ywa hi,Yv7 hi,Yvs,toNat_cast,getD_lt _ hi,Xj2 _ (hl _ (jE hi)),jA,Yvp (by omega:i<4294967296)]) (by
  simp only[Xgi.B,Yv5 (jB _),Yvr])
 simp only[Xfk];rw[h,Xcg,Xap]
 cases decide ((ns.length:Int)>6)<;>rfl
theorem Xkc (p:List UInt8):∃ ns,Xgj p=some (ns,(Xp p).2)∧((Xp p).2=0→ns=(Xp p).1):=by
 unfold Xp Xgj
 cases h30:decide ((p.length:Int)>30) with
 |true=>exact⟨_,rfl,fun h=>by cases h⟩
 |false=>
  have hl:p.length≤30:=by simp at h30;omega
  simp only[Yvr]
  cases h1:p == ([47]:List UInt8) with
  |true=>exact⟨_,rfl,fun _=>rfl⟩
  |false=>
   simp only[Yvr]
   cases p with
   |nil=>exact⟨_,rfl,fun h=>by cases h⟩
   |cons x t=>
    have hc:=Xdm t []
    have hlt:t.length≤29:=by simp at hl;omega
    have hcut:=Xme t 47 (by omega)
    have hnames:=Xmh (Xv 47 [] t) (by omega) (fun n hn=>by have:=hc.2 n hn;simp at this;omega)
    have e0:(((t.length+1:Nat):Int) == 0)=false:=by rw[beq_eq_false_iff_ne];omega
    have e1:w64 (((t.length+1:Nat):Int)-1)=(t.length:Int):=by rw[Yr8 (by omega) (by omega)];omega
    have e2:inB 0 (t.length+1)=true:=by simp[inB]
    have e3:inB (t.length:Int) (t.length+1)=true:=by simp[inB];omega
    have e4:((x::t).getD (0:Int).toNat 0)=x:=rfl;have e5:(x::t).getD 0 0=x:=rfl
    have e6:(decide ((0:Int)≤1)&&decide ((1:Int)≤((t.length+1:Nat):Int)))=true:=by simp;omega
    have e7:((x::t).take (t.length+1)).drop (1:Int).toNat=t:=by simp
    have ex:(((x.toNat:Nat):Int) != 47)=(x != 47):=congrArg Bool.not (Xi3 x);have hcut':Xg3 t 47=some (Xv 47 [] t):=hcut;simp only[jH,e0,e1,e2,e3,e4,e5,e6,e7,ex,Xi3,kQ,Yvs,Yvr,jA,toNat_cast,Xjq,List.isEmpty_cons,Bool.false_or,Nat.add_sub_cancel,Yuv,List.drop_succ_cons,List.drop_zero,hcut',hnames]
    cases x != 47 with
    |true=>exact⟨_,rfl,fun h=>by cases h⟩
    |false=>
     simp only[kQ,Yvs,Yvr,Bool.false_or,e3]
     cases (x::t).getD t.length 0 == 47 with
     |true=>exact⟨_,rfl,fun h=>by cases h⟩
     |false=>
      simp only[Yvr]
      cases decide (((Xv 47 [] t).length:Int)>6) with
      |true=>exact⟨_,rfl,fun h=>by cases h⟩
      |false=>
       simp only[Yvr]
       cases h5:Ygp Xu (Xv 47 [] t) != 0 with
       |true=>exact⟨_,rfl,fun h=>absurd h (by simpa using h5)⟩
       |false=>exact⟨_,rfl,fun _=>rfl⟩
theorem Xi5 (p:List UInt8):Xec p [47]=some (!p.isEmpty&&p.getD 0 0 == 47):=by
 cases p with
 |nil=>rfl
 |cons x t=>
  have e1:decide (((x::t).length:Int)≥(([47]:List UInt8).length:Int))=true:=by simp;omega
  have e2:(decide ((0:Int)≤(([47]:List UInt8).length:Int))&&decide ((([47]:List UInt8).length:Int)≤((x::t).length:Int)))=true:=by simp;omega
  simp only[Xec,Xh,jA,e1,e2,Yvs];simp
theorem Xi6 (p:List UInt8) (hl:p.length≤30):Xed p [47]=some (!p.isEmpty&&p.getD (p.length-1) 0 == 47):=by
 cases p with
 |nil=>rfl
 |cons x t=>
  have e1:decide (((x::t).length:Int)≥(([47]:List UInt8).length:Int))=true:=by simp;omega
  have e0:w64 (((x::t).length:Int)-(([47]:List UInt8).length:Int))=(t.length:Int):=by
   simp only[jH,kD] at hl ⊢
   rw[Yr8 (by omega) (by omega)];omega
  have e2:(decide ((0:Int)≤(t.length:Int))&&decide ((t.length:Int)≤((x::t).length:Int)))=true:=by simp;omega
  have e3:(x::t).drop t.length=[(x::t).getD t.length 0]:=by
   rw[kZ (by simp),List.drop_eq_nil_of_le (by simp)]
   simp[List.getD]
  simp only[Xed,Xi,jA];rw[e1];simp only[Yvs];rw[e0,e2];simp only[Yvs,toNat_cast,List.take_length,e3,jA,List.isEmpty_cons,kQ,Bool.true_and,jH,Nat.add_sub_cancel]
  rw[show(x::t).take (t.length+1)=x::t from List.take_of_length_le (by simp),e3]
  simp
theorem Xkd (p:List UInt8):Xak p=some (Xp p):=by
 unfold Xp Xak
 cases h30:decide ((p.length:Int)>30) with
 |true=>rfl
 |false=>
  have hl:p.length≤30:=by simp at h30;omega
  simp only[Yvr]
  cases h1:p == ([47]:List UInt8) with
  |true=>rfl
  |false=>
   simp only[Yvr,Xi5,Xi6 p hl,jA]
   cases p with
   |nil=>rfl
   |cons x t=>
    have hc:=Xdm t []
    have hlt:t.length≤29:=by simp at hl;omega
    have hsp:=Xmg t 47 (by omega)
    have e6:(decide ((0:Int)≤1)&&decide ((1:Int)≤((t.length+1:Nat):Int)))=true:=by simp;omega
    have e7:((x::t).take (t.length+1)).drop (1:Int).toNat=t:=by simp
    have hloop:Xbt ((Xv 47 [] t).length:Int) (Xv 47 [] t) 0=some (Ybv (τ:=Unit) (fun _ n _=>cond (Xu n != 0) (.inr (.inl (Xu n,[]))) (.inl ())) (fun _=>(.inr ():(Int×List (List UInt8))⊕Unit)) 0 (Xv 47 [] t) ()):=
     Yiz (τ:=Unit) (Xv 47 [] t) (f:=fun s=>Xbt.B ((Xv 47 [] t).length:Int) (Xv 47 [] t) s) (fun i _=>(i:Int)) (fun _ x _=>cond (Xu x != 0) (.inr (.inl (Xu x,[]))) (.inl ())) (fun _=>(.inr ():(Int×List (List UInt8))⊕Unit)) (fun i hi t'=>by
      have h4:=hc.2 _ (jE hi);simp only[kD] at h4
      simp only[Xbt.B,Ywa hi,Yv7 hi,Yvs,toNat_cast,getD_lt _ hi,Xj3 _ (by omega:((Xv 47 [] t)[i]).length≤2147483648),jA,Yvp (by omega:i<4294967296)]
      cases (Xu (Xv 47 [] t)[i] != 0)<;>rfl) (fun t'=>by simp only[Xbt.B,Yv5 (jB _),Yvr]) () (s:=0) rfl
    have hfold:∀ (l:List (List UInt8)) (i:Nat),Ybv (τ:=Unit) (fun _ n _=>cond (Xu n != 0) (.inr (.inl (Xu n,[]))) (.inl ())) (fun _=>(.inr ():(Int×List (List UInt8))⊕Unit)) i l ()=cond (Ygp Xu l != 0) (.inl (Ygp Xu l,[])) (.inr ()):=by
     intro l
     induction l with
     |nil=>intro i;rfl
     |cons n l ih=>
      intro i;simp only[Ybv,Ygp]
      cases h:Xu n != 0 with
      |true=>simp[sel,h]
      |false=>simp only[Yvr,sel];exact ih (i+1)
    simp only[jH,Xjq,List.isEmpty_cons,kQ,Bool.true_and,Bool.false_or,Nat.add_sub_cancel,e6,e7,hsp,jA,hloop,hfold,Yvs,List.drop_succ_cons,List.drop_zero,show((x::t).getD 0 0)=x from rfl]
    cases hx:x == 47 with
    |false=>simp[bne,hx]
    |true=>
     simp only[bne,hx,jK,Yvr,Bool.false_or]
     cases (x::t).getD t.length 0 == 47 with
     |true=>rfl
     |false=>
      simp only[Yvr]
      cases decide (((Xv 47 [] t).length:Int)>6) with
      |true=>rfl
      |false=>
       simp only[Yvr]
       cases Ygp Xu (Xv 47 [] t) == 0<;>rfl
theorem Xch {p:List UInt8} (h:(Xp p).2=0):(Xp p).1.length≤6∧∀ n∈(Xp p).1,Xu n=0:=by
 unfold Xp at *
 cases h30:decide ((p.length:Int)>30) with
 |true=>rw[h30] at h;cases h
 |false=>
  rw[h30] at h;simp only[Yvr] at h ⊢
  cases h1:p == ([47]:List UInt8) with
  |true=>simp
  |false=>
   rw[h1] at h;simp only[Yvr] at h ⊢
   cases h2:Xjq p with
   |true=>rw[h2] at h;cases h
   |false=>
    rw[h2] at h;simp only[Yvr] at h ⊢
    cases h3:decide (((Xv 47 [] (p.drop 1)).length:Int)>6) with
    |true=>rw[h3] at h;cases h
    |false=>
     rw[h3] at h;simp only[Yvr] at h ⊢
     cases h4:Ygp Xu (Xv 47 [] (p.drop 1)) != 0 with
     |true=>rw[h4] at h;exact absurd h (by simpa using h4)
     |false=>exact⟨by simp at h3;simp;omega,Xdf.1 (by simpa using h4)⟩
def Xa8 (l:List Xb) (p:List UInt8):Int×Int:=cond ((Xp p).2 != 0) (0,(Xp p).2) (X9 l (Xp p).1 0)
def Xt (l:List Xb) (p:List UInt8):Int×List UInt8×Int:=
 cond ((Xp p).2 != 0) (0,[],(Xp p).2) (cond (((Xp p).1.length:Int) == 0) (0,[],4) (cond ((X9 l (Xp p).1.dropLast 0).2 != 0) (0,[],(X9 l (Xp p).1.dropLast 0).2)
  (cond ((l.getD (X9 l (Xp p).1.dropLast 0).1.toNat Xa).1 != 2) (0,[],9) ((X9 l (Xp p).1.dropLast 0).1,(Xp p).1.getLast?.getD [],0))))
theorem Xdi {l:List Xb} (h:Xc5 l):∀ (ns:List (List UInt8)) (a:Int),0≤a∧a<(l.length:Int)→0≤(X9 l ns a).1∧(X9 l ns a).1<(l.length:Int)
 |[],a,ha=>ha
 |n::ns,a,ha=>by
  have hp:=h.pos;simp only[X9]
  cases h1:((l.getD a.toNat Xa).1 != 2) with
  |true=>simp only[Yvs];omega
  |false=>
   cases h2:decide (X4 (Xj l a) n<0) with
   |true=>simp only[Yvs,Yvr];omega
   |false=>simp only[Yvr];exact Xdi h ns _ (Xii h ha.1 ha.2 n h2)
theorem Xjm {l:List Xb} (h:Xc5 l) (p:List UInt8):0≤(Xa8 l p).1∧(Xa8 l p).1<(l.length:Int):=by
 have hp:=h.pos;unfold Xa8
 cases ((Xp p).2 != 0) with
 |true=>simp only[Yvs];omega
 |false=>exact Xdi h _ 0 ⟨Int.le_refl _,by omega⟩
theorem Xmi (f:Fs_) (h:Xc5 f.1) (p:List UInt8):Xeg f p=some (Xa8 f.1 p):=by
 simp only[Xeg,Xkd,jA,Xa8]
 cases hc:((Xp p).2 != 0) with
 |true=>rfl
 |false=>
  have h6:=(Xch (p:=p) (by simpa using hc)).1
  simp only[Yvr,Xka f h _ (by omega:(Xp p).1.length≤1048577),jA]
theorem Xmj (f:Fs_) (h:Xc5 f.1) (p:List UInt8):Xhn f p=some (Xa8 f.1 p):=by
 obtain⟨ns,e,hns⟩:=Xkc p;simp only[Xhn,e,jA,Xa8]
 cases hc:((Xp p).2 != 0) with
 |true=>rfl
 |false=>
  have h0:(Xp p).2=0:=by simpa using hc
  have h6:=(Xch h0).1;rw[hns h0]
  simp only[Yvr,Xkb f h _ (by omega:(Xp p).1.length≤1048577),jA]
theorem Xih {α:Type} {ns:List α} (h:((ns.length:Int) == 0)=false) (hl:ns.length≤6):w64 ((ns.length:Int)-1)=((ns.length-1:Nat):Int)∧inB ((ns.length-1:Nat):Int) ns.length=true∧(decide ((0:Int)≤((ns.length-1:Nat):Int))&&decide (((ns.length-1:Nat):Int)≤(ns.length:Int)))=true:=by
 have h1:ns.length≠0:=fun e=>by rw[e] at h;cases h
 refine⟨by rw[Yr8 (by omega) (by omega)];omega,by simp[inB]<;>omega,by simp<;>omega⟩
theorem Xig (ns:List (List UInt8)):ns.getD (ns.length-1) []=ns.getLast?.getD []:=by
 rw[List.getLast?_eq_getElem?];rfl
theorem Xmk (f:Fs_) (h:Xc5 f.1) (p:List UInt8):Xhp f p=some (Xt f.1 p):=by
 obtain⟨ns,e,hns⟩:=Xkc p;have hp:=h.pos;simp only[Xhp,Xh4,e,jA,Xt]
 cases hc:((Xp p).2 != 0) with
 |true=>simp only[Yvs,jA,hc]
 |false=>
  have h0:(Xp p).2=0:=by simpa using hc
  have h6:=(Xch h0).1;rw[hns h0]
  cases hz:(((Xp p).1.length:Int) == 0) with
  |true=>rfl
  |false=>
   obtain⟨e1,e2,e3⟩:=Xih hz h6;simp only[Yvr,e1,e2,e3,Yvs,jA,toNat_cast,List.drop_zero,Nat.sub_zero,Xig,←List.dropLast_eq_take]
   rw[Xkb f h _ (by simp;omega)]
   have hi:=Xdi h (Xp p).1.dropLast 0 ⟨Int.le_refl _,by omega⟩
   simp only[jA,Yub hi.1 hi.2,Yvs,bne_self_eq_false,Yvr]
   cases (X9 f.1 (Xp p).1.dropLast 0).2 != 0 with
   |true=>rfl
   |false=>
    simp only[Yvr]
    cases ((f.1.getD (X9 f.1 (Xp p).1.dropLast 0).1.toNat Xa).1 != 2)<;>rfl
theorem Xml (f:Fs_) (h:Xc5 f.1) (p:List UInt8):Xeh f p=some (Xt f.1 p):=by
 have hp:=h.pos;simp only[Xeh,Xkd,jA,Xt]
 cases hc:((Xp p).2 != 0) with
 |true=>rfl
 |false=>
  have h0:(Xp p).2=0:=by simpa using hc
  have h6:=(Xch h0).1
  cases hz:(((Xp p).1.length:Int) == 0) with
  |true=>rfl
  |false=>
   obtain⟨e1,e2,e3⟩:=Xih hz h6;simp only[Yvr,e1,e2,e3,Yvs,jA,toNat_cast,List.drop_zero,Nat.sub_zero,Xig,←List.dropLast_eq_take]
   rw[Xka f h _ (by simp;omega)]
   have hi:=Xdi h (Xp p).1.dropLast 0 ⟨Int.le_refl _,by omega⟩
   simp only[jA,Yub hi.1 hi.2,Yvs]
   cases (X9 f.1 (Xp p).1.dropLast 0).2 != 0 with
   |true=>rfl
   |false=>
    simp only[Yvr]
    cases ((f.1.getD (X9 f.1 (Xp p).1.dropLast 0).1.toNat Xa).1 != 2)<;>rfl
theorem Xis {l:List Xb} (h:Xc5 l) {p:List UInt8} (hp:(Xt l p).2.2=0):0≤(Xt l p).1∧(Xt l p).1<(l.length:Int)∧(l.getD (Xt l p).1.toNat Xa).1=2∧Xu (Xt l p).2.1=0:=by
 have hpos:=h.pos;unfold Xt at *
 cases hc:((Xp p).2 != 0) with
 |true=>rw[hc] at hp;exact absurd hp (by simpa using hc)
 |false=>
  rw[hc] at hp
  have h0:(Xp p).2=0:=by simpa using hc
  obtain⟨h6,hn⟩:=Xch h0
  cases hz:(((Xp p).1.length:Int) == 0) with
  |true=>rw[hz] at hp;cases hp
  |false=>
   rw[hz] at hp;simp only[Yvr] at hp ⊢
   cases h1:(X9 l (Xp p).1.dropLast 0).2 != 0 with
   |true=>rw[h1] at hp;exact absurd hp (by simpa using h1)
   |false=>
    rw[h1] at hp;simp only[Yvr] at hp ⊢
    cases h2:((l.getD (X9 l (Xp p).1.dropLast 0).1.toNat Xa).1 != 2) with
    |true=>rw[h2] at hp;cases hp
    |false=>
     have hi:=Xdi h (Xp p).1.dropLast 0 ⟨Int.le_refl _,by omega⟩
     refine⟨hi.1,hi.2,by simpa using h2,?_⟩
     simp only[Yvr]
     cases hl:(Xp p).1.getLast? with
     |none=>
      rw[List.getLast?_eq_none_iff.1 hl] at hz
      cases hz
     |some n=>exact hn n (List.mem_of_getLast? hl)
def Xd1 (f:Fs_) (dir:Int) (nm:List UInt8) (a:Int):Fs_:=(f.1.set dir.toNat (Yqd (f.1.getD dir.toNat Xa) (Ypu (Xj f.1 dir) nm a)),f.2.1,())
theorem Xmm (f:Fs_) {dir:Int} (nm:List UInt8) (a:Int) (h0:0≤dir) (h1:dir<(f.1.length:Int)) (hl:f.1.length≤1048576) (he:(Xj f.1 dir).length≤1048576):Xf2 f dir nm a=some (Xd1 f dir nm a):=by
 have e1:decide (List.length f.1≤1152921504606846976)=true:=jZ (by omega)
 have e2:decide ((Xj f.1 dir).length≤1048576)=true:=jZ he;simp only[Xf2,Yet,e1,Yvs];rw[show decide (List.length (f.1.getD dir.toNat (0,0,0,[],[],())).2.2.2.2.1≤1048576)=true from e2,Yub h0 h1];rfl
theorem Xgq (nm:List UInt8):∀ es:List Xf,Yuc nm es≤es.length
 |[]=>jB _
 |e::es=>by
  simp only[Yuc]
  cases leB e.1 nm with
  |true=>have:=Xgq nm es;simp only[cond_true,jH];omega
  |false=>simp
theorem Xif (nm:List UInt8):∀ (l:List Xf) (i:Nat) (n:Int),n=((i+l.length:Nat):Int)→Ybv (τ:=Unit) (fun i e _=>cond (leB e.1 nm) (.inl ()) (.inr (i:Int))) (fun _=>n) i l ()=((i+Yuc nm l:Nat):Int)
 |[],i,n,h=>by simp[Ybv,Yuc,h]
 |e::l,i,n,h=>by
  simp only[Ybv,Yuc]
  cases leB e.1 nm with
  |true=>
   simp only[cond_true,sel]
   rw[Xif nm l (i+1) n (by rw[h];simp only[jH];omega)]
   omega
  |false=>simp[sel]
theorem Xmn (es:List Xf) (nm:List UInt8) (a:Int) (hl:es.length≤1048576):Xhq es (nm,a,())=some (Ypu es nm a):=by
 have h:Xfp es (nm,a,()) 0=some (Ybv (τ:=Unit) (fun i e _=>cond (leB e.1 nm) (.inl ()) (.inr (i:Int))) (fun _=>(es.length:Int)) 0 es ()):=
  Yiz (τ:=Unit) es (f:=fun s=>Xfp.B es (nm,a,()) s) (fun i _=>(i:Int)) (fun i e _=>cond (leB e.1 nm) (.inl ()) (.inr (i:Int))) (fun _=>(es.length:Int)) (fun i hi t=>by
   simp only[Xfp.B,Ywa hi,Yv7 hi,Yvs,toNat_cast,getD_lt _ hi,jA,Yvp (by omega:i<4294967296)]
   cases leB (es[i]).1 nm<;>rfl) (fun t=>by simp only[Xfp.B,Yv5 (jB _),Yvr,Yvs,jA]) () (s:=0) rfl
 have hi:=Xgq nm es
 rw[Xif nm es 0 _ (by simp),jJ] at h
 simp only[Xhq,h,jA,toNat_cast,jO,List.drop_zero];have hi:=Xgq nm es
 rw[show(decide ((0:Int)≤(Yuc nm es:Int))&&decide ((Yuc nm es:Int)≤(es.length:Int)))=true by simp;omega,jZ (by rw[kK];omega:(es.take (Yuc nm es)).length≤2147483648),
  jZ (by simp;omega:(es.take (Yuc nm es)++[(nm,a,())]).length≤2147483648)]
 simp only[Yvs,jA,List.take_length]
 rw[jZ (by simp;omega:(es.take (Yuc nm es)++[(nm,a,())]++es.drop (Yuc nm es)).length≤2147483648)]
 simp[Ypu]
def Xiw (x:Xb):Xb:=(x.1,w64 (x.2.1+1),x.2.2)
def Xfr (f:Fs_) (dir:Int) (nm:List UInt8) (a:Int):Int×Fs_:=
 cond (decide (X4 (Xj f.1 dir) nm≥0)) (7,f) (cond ((f.1.getD a.toNat Xa).1 == 0) (4,f) (cond (cond (((Xj f.1 dir).length:Int) == 6) true ((f.1.getD a.toNat Xa).2.1 == 60)) (2,f)
  (0,cond ((f.1.getD a.toNat Xa).1 == 1) ((Xd1 f dir nm a).1.set a.toNat (Xiw ((Xd1 f dir nm a).1.getD a.toNat Xa)),(Xd1 f dir nm a).2) (Xd1 f dir nm a))))
theorem Xg6 (f:Fs_) (dir:Int) (nm:List UInt8) (a:Int) (i:Nat):((Xd1 f dir nm a).1.getD i Xa).1=(f.1.getD i Xa).1∧(Xd1 f dir nm a).1.length=f.1.length:=by
 refine⟨?_,by simp[Xd1]⟩
 unfold Xd1
 by_cases h:dir.toNat<f.1.length
 ·by_cases e:dir.toNat=i
  ·subst e
   simp[List.getD,h,Yqd]
  ·simp[List.getD,List.getElem?_set_ne e]
 ·rw[List.set_eq_of_length_le (by omega)]
def atI (es:List Xf) (nm:List UInt8):Int:=match Yn3 (fun e:Xf=>e.1 == nm) 0 es with | some j=>(j:Int) | none=>-1
theorem Xmo (es:List Xf) (nm:List UInt8) (hl:es.length≤6):Xfl es nm=some (atI es nm):=(Xj9 es nm hl).trans (by unfold atI;cases Yn3 (fun e:Xf=>e.1 == nm) 0 es<;>rfl)
theorem Xjg (es:List Xf) (nm:List UInt8) (he:∀ e∈es,0≤e.2.1):decide (atI es nm≥0)=decide (X4 es nm≥0):=by
 have hx:=Xgy (fun e:Xf=>e.1 == nm) Xn es 0;unfold X4 atI
 cases hi:Yn3 (fun e:Xf=>e.1 == nm) 0 es with
 |none=>
  rw[hi] at hx
  simp only[hx]
 |some j=>
  rw[hi] at hx;obtain⟨x1,x2,x3⟩:=hx;rw[x1]
  have hm:es.getD (j-0) Xn∈es:=by rw[getD_lt _ x3];exact jE _
  have:=he _ hm
  rw[jZ (by simp:(j:Int)≥0),jZ (this:(es.getD (j-0) Xn).2.1≥0)]
theorem Xmp (f:Fs_) (ht:Xc5 f.1) {dir a:Int} (nm:List UInt8) (d0:0≤dir) (d1:dir<(f.1.length:Int)) (a0:0≤a) (a1:a<(f.1.length:Int)):Xei f dir nm a=some (Xfr f dir nm a):=by
 have hq:=ht.at_ d0 d1;have hl:=ht.len
 have e1:w64 ((f.1.length:Int)-1)=(f.1.length:Int)-1:=Yr8 (by omega) (by omega)
 have e2:inR a 0 ((f.1.length:Int)-1)=true:=Xck.2 ⟨a0,by omega⟩
 have hp:=Xmm f nm a d0 d1 (by omega) (by omega)
 have en:(f.1.getD dir.toNat Xa).2.2.2.2.1=Xj f.1 dir:=rfl;obtain⟨k1,k2⟩:=Xg6 f dir nm a a.toNat;simp only[Xei,Xj8 f dir nm d0 d1 hq.1,jA,Xfr,Xiw,Xct,Xh1,e1,e2,jK,kQ,Yub a0 a1,Yub d0 d1,Yvs,Yvr,en,Yuv,hp,k1,k2]
 cases decide (X4 (Xj f.1 dir) nm≥0) with
 |true=>rfl
 |false=>
  simp only[Yvr]
  cases (f.1.getD a.toNat Xa).1 == 0 with
  |true=>rfl
  |false=>
   simp only[Yvr]
   cases (((Xj f.1 dir).length:Int) == 6)<;>cases ((f.1.getD a.toNat Xa).2.1 == 60)<;>first | rfl | (cases ((f.1.getD a.toNat Xa).1 == 1)<;>rfl)
structure Xiv (l:List Xb):Prop where
 top:∀ x∈l,x.2.1≤60
 fil:∀ x∈l,x.1≠1→x.2.1=0
theorem Xiv.of {l:List Xb} (h:Xw l=0):Xiv l:=by
 have hf:∀ x∈l,x.1≠1→x.2.1=0:=fun x hx e=>((Xz ((Xr h).2 x hx)).2.2.2.2.1 e).1;refine⟨fun x hx=>?_,hf⟩
 by_cases e:x.1=1
 ·have h1:=(Xa6 ((Xr h).2 x hx)).2.2.2 e
  unfold Xf5 at h1
  cases h2:inR x.2.1 1 60 with
  |false=>rw[h2] at h1;cases h1
  |true=>exact(Xck.1 h2).2
 ·rw[hf x hx e];omega
theorem Xmq (f:Fs_) (ht:Xc5 f.1) (hk:Xiv f.1) {dir a:Int} (nm:List UInt8) (d0:0≤dir) (d1:dir<(f.1.length:Int)) (a0:0≤a) (a1:a<(f.1.length:Int)):Xhr f dir nm a=some (Xfr f dir nm a):=by
 have hq:=ht.at_ d0 d1;have hl:=ht.len
 have e1:w64 ((f.1.length:Int)-1)=(f.1.length:Int)-1:=Yr8 (by omega) (by omega)
 have e2:inR a 0 ((f.1.length:Int)-1)=true:=Xck.2 ⟨a0,by omega⟩
 have hp:=Xmn (Xj f.1 dir) nm a (by omega)
 have en:(f.1.getD dir.toNat Xa).2.2.2.2.1=Xj f.1 dir:=rfl;obtain⟨k1,k2⟩:=Xg6 f dir nm a a.toNat;have hm:=getD_in a0 a1;have hk1:=hk.top _ hm;have hk2:=hk.fil _ hm;have e8:=Xmo (Xj f.1 dir) nm hq.1;have hlook:=Xjg (Xj f.1 dir) nm fun e he=>(hq.2.2 e he).2.1;have eput:∀ (x y z:Int) (u:List Int) (e:Unit),(f.1.set dir.toNat ((f.1.getD dir.toNat Xa).1,(f.1.getD dir.toNat Xa).2.1,(f.1.getD dir.toNat Xa).2.2.1,(f.1.getD dir.toNat Xa).2.2.2.1,Ypu (Xj f.1 dir) nm a,(f.1.getD dir.toNat Xa).2.2.2.2.2))=(Xd1 f dir nm a).1:=fun _ _ _ _ _=>rfl;have eput2:(Xd1 f dir nm a).2=f.2:=rfl;have eput3:((Xd1 f dir nm a).1,f.2)=Xd1 f dir nm a:=rfl;simp only[Xhr,Xh5,Xhz,e1,e2,e8,hlook,Yub d0 d1,Yub a0 a1,en,hp,jA,Yvs,jK,kQ,Yvr,Xfr,Yuv,eput 0 0 0 [] (),k1,k2,Xiw,eput2,eput3]
 cases decide (X4 (Xj f.1 dir) nm≥0) with
 |true=>rfl
 |false=>
  simp only[Yvr]
  cases (f.1.getD a.toNat Xa).1 == 0 with
  |true=>rfl
  |false=>
   simp only[Yvr]
   have h6:decide (((Xj f.1 dir).length:Int)≥6)=(((Xj f.1 dir).length:Int) == 6):=by
    rw[Bool.eq_iff_iff];simp only[jI,beq_iff_eq];omega
   rw[h6]
   cases (((Xj f.1 dir).length:Int) == 6) with
   |true=>rfl
   |false=>
    simp only[kQ,Bool.true_and,Yvr]
    cases h1:((f.1.getD a.toNat Xa).1 == 1) with
    |true=>
     have h60:decide ((f.1.getD a.toNat Xa).2.1≥60)=((f.1.getD a.toNat Xa).2.1 == 60):=by
      rw[Bool.eq_iff_iff];simp only[jI,beq_iff_eq];omega
     rw[h60]
     cases ((f.1.getD a.toNat Xa).2.1 == 60)<;>rfl
    |false=>
     rw[hk2 (by simpa using h1)]
     rfl
theorem FsB.ofT {f:Fs_} (h:X7 f):FsB f:=⟨(Xr h.inod).1,fun x hx=>Xam.of ((Xr h.inod).2 x hx),h.dat,fun b hb=>by have:=h.dl b hb;omega⟩
theorem FsB.set {f:Fs_} (h:FsB f) (i:Nat) {x:Xb} (hx:Xam x) (u:Unit):FsB (f.1.set i x,f.2.1,u):=
 ⟨by simpa using h.l,fun y hy=>by
  rcases List.mem_or_eq_of_mem_set hy with hy | rfl
  ·exact h.s y hy
  ·exact hx,h.d,h.dl⟩
theorem Xam.at_ {f:Fs_} (h:FsB f) (i:Nat):Xam (f.1.getD i Xa):=by
 by_cases hi:i<f.1.length
 ·rw[getD_lt _ hi];exact h.s _ (jE hi)
 ·rw[show f.1.getD i Xa=Xa by simp[List.getD,List.getElem?_eq_none (by omega:f.1.length≤i)]]
  exact⟨by decide,by decide,fun e he=>by cases he⟩
theorem Xje {es:List Xf} {nm:List UInt8} {a:Int} {e:Xf} (h:e∈Ypu es nm a):e∈es∨e=(nm,a,()):=by
 unfold Ypu at h;rcases List.mem_append.1 h with h | h
 ·exact .inl (List.mem_of_mem_take h)
 ·rcases List.mem_cons.1 h with h | h
  ·exact .inr h
  ·exact .inl (List.mem_of_mem_drop h)
theorem Xjd (es:List Xf) (nm:List UInt8) (a:Int):(Ypu es nm a).length=es.length+1:=by
 have:=Xgq nm es;simp[Ypu];omega
theorem Xit {f:Fs_} (h:FsB f) {dir:Int} {nm:List UInt8} (a:Int) (hn:nm.length≤4) (he:(Xj f.1 dir).length<6):FsB (Xd1 f dir nm a):=by
 have hs:=Xam.at_ h dir.toNat;refine FsB.set h dir.toNat (x:=Yqd (f.1.getD dir.toNat Xa) (Ypu (Xj f.1 dir) nm a)) ⟨hs.blk,?_,fun e hm=>?_⟩ ()
 ·show(Ypu (Xj f.1 dir) nm a).length≤6
  rw[Xjd];omega
 ·rcases Xje (show e∈Ypu (Xj f.1 dir) nm a from hm) with hm | rfl
  ·exact hs.nam e hm
  ·exact hn
theorem Xip {f:Fs_} (h:FsB f) {dir:Int} {nm:List UInt8} {a:Int} (hn:nm.length≤4):FsB (Xfr f dir nm a).2:=by
 unfold Xfr
 cases decide (X4 (Xj f.1 dir) nm≥0) with
 |true=>exact h
 |false=>
  cases (f.1.getD a.toNat Xa).1 == 0 with
  |true=>exact h
  |false=>
   have hs:=Xam.at_ h dir.toNat
   cases h6:(((Xj f.1 dir).length:Int) == 6) with
   |true=>exact h
   |false=>
    have h7:(Xj f.1 dir).length≤6:=hs.ent
    have hp:=Xit h (dir:=dir) a hn (by
      have:((Xj f.1 dir).length:Int)≠6:=by simpa using h6
      omega)
    cases ((f.1.getD a.toNat Xa).2.1 == 60) with
    |true=>exact h
    |false=>
     simp only[Yvr]
     cases ((f.1.getD a.toNat Xa).1 == 1) with
     |true=>
      have hq:=Xam.at_ hp a.toNat
      exact FsB.set hp a.toNat (x:=Xiw ((Xd1 f dir nm a).1.getD a.toNat Xa)) ⟨hq.blk,hq.ent,hq.nam⟩ ()
     |false=>exact hp
theorem Xjp {f:Fs_} {dir a:Int} {nm:List UInt8} (h:(Xfr f dir nm a).1≠0):(Xfr f dir nm a).2=f:=by
 revert h
 unfold Xfr
 cases decide (X4 (Xj f.1 dir) nm≥0)<;>cases (f.1.getD a.toNat Xa).1 == 0<;>cases (((Xj f.1 dir).length:Int) == 6)<;>cases ((f.1.getD a.toNat Xa).2.1 == 60)<;>intro h<;>first | rfl | exact absurd rfl h
def Xjt (code rep val:Int) (f:Fs_):Xq:=(code,rep,val,[],[],f,())
theorem Xey {f:Fs_} (h:FsB f) (c r v:Int):wt Xo (Xjt c r v f)≤2147483648:=by
 have:=h.wt;simp only[Xjt,Yl4,Yus,Ytn,Ysb,qB,List.sum_nil] at *;omega
theorem LinkPath.main (f:Fs_) (p t:List UInt8) (hf:Fit Xl f) (hf1:Fit .str p) (hf2:Fit .str t) (hw:wt Xl f≤1048576) (hw1:wt .str p≤1048576) (hw2:wt .str t≤1048576):∃ r,Xgu f p t=some r∧Xcz f p t=some r∧wt Xo r≤2147483648:=by
 have hb:Bd Xl f:=Yos rfl (by omega)
 cases h:(fsF f != 0) with
 |true=>
  refine⟨(fsF f,0,0,[],[],([],[],()),()),?_,?_,by simp[Yl4,Yus,Ytn,Ysb]⟩
  ·simp only[Xgu,Xj5 f hb,jA,h,Yvs]
  ·simp only[Xcz,Xj6 f hb,jA,h,Yvs]
 |false=>
  have h0:fsF f=0:=by simpa using h
  have hT:=(Xi8.of h0).tree;have ht:=Xc5.of hT;have hk:=Xiv.of hT.inod;have hB:=FsB.ofT hT;have hwalk:=Xjm ht p
  have e10:∀ c,Xgl f c=some (Xjt 0 c 0 f):=fun c=>by simp only[Xgl,Xj7 hB,jA,Xjt]
  simp only[Xgu,Xcz,Xj5 f hb,Xj6 f hb,jA,h,Yvr,Xle f hb,Xh6,Xf3,Xmj f ht,Xmi f ht,e10,Xmk f ht,Xml f ht,Xj7 hB,Yub hwalk.1 hwalk.2,Yvs]
  cases h1:((Xa8 f.1 p).2 != 0) with
  |true=>exact⟨_,rfl,rfl,Xey hB _ _ _⟩
  |false=>
   simp only[Yvr]
   cases h2:((f.1.getD (Xa8 f.1 p).1.toNat Xa).1 == 2) with
   |true=>exact⟨_,rfl,rfl,Xey hB _ _ _⟩
   |false=>
    simp only[Yvr]
    cases h3:((Xt f.1 t).2.2 != 0) with
    |true=>exact⟨_,rfl,rfl,Xey hB _ _ _⟩
    |false=>
     obtain⟨p0,p1,p2,p3⟩:=Xis ht (by simpa using h3:(Xt f.1 t).2.2=0)
     have hs:=Xip hB (dir:=(Xt f.1 t).1) (a:=(Xa8 f.1 p).1) (Xik p3).2.1;simp only[Yvr,Xmq f ht hk _ p0 p1 hwalk.1 hwalk.2,Xmp f ht _ p0 p1 hwalk.1 hwalk.2,jA];have hc:(Xfr f (Xt f.1 t).1 (Xt f.1 t).2.1 (Xa8 f.1 p).1).1≠0→(Xfr f (Xt f.1 t).1 (Xt f.1 t).2.1 (Xa8 f.1 p).1).2=f:=fun hne=>Xjp hne
     cases h4:((Xfr f (Xt f.1 t).1 (Xt f.1 t).2.1 (Xa8 f.1 p).1).1 != 0) with
     |true=>
      simp only[Yvs,hc (by simpa using h4)]
      exact⟨_,rfl,rfl,Xey hB _ _ _⟩
     |false=>
      have h5:(Xfr f (Xt f.1 t).1 (Xt f.1 t).2.1 (Xa8 f.1 p).1).1=0:=by simpa using h4
      simp only[Yvr,h5];exact⟨_,rfl,rfl,Xey hs _ _ _⟩
theorem LinkPath.law (x:PT.Els (shs [Xl,.str,.str])) (hf:Yng [Xl,.str,.str] x) (hw:Ypg [Xl,.str,.str] x≤1048576):Xf4 x.1 x.2.1 x.2.2.1=some true:=by
 simp only[Ypg] at hw;have hf0:Fit Xl x.1:=hf.1;have hf1:Fit .str x.2.1:=hf.2.1;have hf2:Fit .str x.2.2.1:=hf.2.2.1
 have hw0:wt Xl x.1≤1048576:=by omega
 have hw1:wt .str x.2.1≤1048576:=by omega
 have hw2:wt .str x.2.2.1≤1048576:=by omega
 clear hw hf;generalize x.2.2.1=a2 at hf2 hw2 ⊢;generalize x.2.1=a1 at hf1 hw1 ⊢;generalize x.1=a0 at hf0 hw0 ⊢;obtain⟨r,hr1,hr2,hr3⟩:=LinkPath.main a0 a1 a2 hf0 hf1 hf2 hw0 hw1 hw2;obtain⟨r_0,r_1,r_2,r_3,r_4,⟨r_5_0,r_5_1,⟨⟩⟩,⟨⟩⟩:=r;replace hr3:wt Xo (r_0,r_1,r_2,r_3,r_4,(r_5_0,r_5_1,()),())≤2147483648:=hr3;replace hr1:Xgu a0 a1 a2=some (r_0,r_1,r_2,r_3,r_4,(r_5_0,r_5_1,()),()):=hr1;replace hr2:Xcz a0 a1 a2=some (r_0,r_1,r_2,r_3,r_4,(r_5_0,r_5_1,()),()):=hr2;have er:=Xk7 (r_0,r_1,r_2,r_3,r_4,(r_5_0,r_5_1,()),()) hr3
 obtain⟨kr,y0,y1,y2,y3,l1,l2,hm,hh⟩:=Xlc r_0 r_1 r_2 r_3 r_4 r_5_0 r_5_1 1 (by omega) (by omega) hr3
 have to0:=Xkz a0 (by omega)
 have eq0:=Xjw a0 (by omega)
 obtain⟨k0,z0_0,z0_1,l0,u0,m0,_⟩:=Xlb a0.1 a0.2.1 1 (by omega) (by show _+((wt Xl a0:Nat):Int)≤_;omega) (by show wt Xl a0≤_;omega)
 have u0:k0≤1+((wt Xl a0:Nat):Int):=u0
 try simp only[Ywj] at m0
 have hsz:∀ g:Option Bool,g=some true→∀ b:Bool,cond b (some true) g=some true:=fun g h b=>by cases b<;>first | rfl | exact h
 simp only[Xf4]
 repeat' (first | with_reducible refine hsz _ ?_ _ | (rw[jA]) | (obtain⟨q,hq⟩:=Xkr a0 _ (by omega);rw[hq,jA];clear hq))
 simp only[er,hm,hh,to0,eq0,m0,hr1,hr2,Ywj,jA,jK,Yvr,Yvs,Yu2,Yut,Yuu,Yvx (by omega:0≤kr),Yvx (by omega:0≤k0)]
end Mf
