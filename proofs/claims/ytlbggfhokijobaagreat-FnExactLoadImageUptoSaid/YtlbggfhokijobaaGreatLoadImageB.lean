import Derived.Test.YtlbggfhokijobaaGreatLoadImageA
noncomputable section
namespace Mf
open Go
set_option linter.unusedVariables false
set_option linter.unusedSimpArgs false
set_option maxRecDepth 100000
theorem Zq216 (a:(List Int)) (n:Int) (hw:wt (.sl (.int .i64)) a≤2147483648):∃ r,Zq0 a n=some r:=by
 simp only[Zq0]
 repeat' (first | with_reducible exact ex_some _ | with_reducible refine ex_bind (ex_some _) fun _=>?_ | with_reducible apply ex_cond)
theorem Zq217 (a:(List (List Int))) (n:Int) (hw:wt (.sl (.sl (.int .i64))) a≤2147483648):∃ r,Zq2 a n=some r:=by
 have hw2:=hw
 simp only[wt_sl,wt_pair,wt_int,wt_bool,wt_str,wt_unit] at hw2
 have hl:a.length≤2147483648:=by have:=len_sum (wt (.sl (.int .i64))) (fun x=>by simp only[wt_sl,wt_pair,wt_int,wt_bool,wt_str,wt_unit];omega) a;omega
 have lp:∀ k,∃ r,Zq1 a (k,0)=some r:=fun k=>by
  refine loop_ex (f:=fun s=>Zq1.B a s.1 s.2) (fun(i:Nat) (k:Int)=>(k,(i:Int))) a.length (fun i k hi=>?_) (fun k=>?_) a.length 0 k (by omega)
  ·have hm:=mem_sum (wt (.sl (.int .i64))) a i hi
   have hb:inB (i:Int) a.length=true:=inB_ok (by omega) (by omega)
   simp only[Zq1.B,lt_dec hi,hb,cond_tt,toNat_cast,getD_lt _ hi,w64_succ (by omega:i<4294967296)]
   repeat' (first | with_reducible exact ex_inr _ | (with_reducible refine .inl ⟨_,rfl,?_⟩;exact⟨_,rfl⟩) | with_reducible refine ex_bind2 (Zq216 _ _ (by first | omega | (simp only[wt_sl,wt_pair,wt_int,wt_bool,wt_str,wt_unit] at hm ⊢;omega))) fun _=>?_ | with_reducible refine ex_bind2 (ex_some _) fun _=>?_ | with_reducible apply ex_cond2)
  ·refine⟨.inr k,?_⟩;simp only[Zq1.B,ge_dec (Nat.le_refl _),cond_ff]
 simp only[Zq2]
 repeat' (first | with_reducible exact ex_some _ | with_reducible refine ex_bind (lp _) fun o=>?_ | with_reducible refine ex_bind (ex_some _) fun _=>?_ | with_reducible apply ex_cond | (cases o<;>exact⟨_,rfl⟩))
theorem Zq218 (a:Put_) (n:Int) (hw:wt tPut_ a≤2147483648):∃ r,Zq3 a n=some r:=by
 simp only[Zq3]
 repeat' (first | with_reducible exact ex_some _ | with_reducible refine ex_bind (Zq216 _ _ (by first | omega | (simp only[wt_sl,wt_pair,wt_int,wt_bool,wt_str,wt_unit] at hw ⊢;omega))) fun _=>?_ | with_reducible refine ex_bind (ex_some _) fun _=>?_ | with_reducible apply ex_cond)
theorem Zq219 (a:(List Put_)) (n:Int) (hw:wt (.sl tPut_) a≤2147483648):∃ r,Zq5 a n=some r:=by
 have hw2:=hw
 simp only[wt_sl,wt_pair,wt_int,wt_bool,wt_str,wt_unit] at hw2
 have hl:a.length≤2147483648:=by have:=len_sum (wt tPut_) (fun x=>by simp only[wt_sl,wt_pair,wt_int,wt_bool,wt_str,wt_unit];omega) a;omega
 have lp:∀ k,∃ r,Zq4 a (k,0)=some r:=fun k=>by
  refine loop_ex (f:=fun s=>Zq4.B a s.1 s.2) (fun(i:Nat) (k:Int)=>(k,(i:Int))) a.length (fun i k hi=>?_) (fun k=>?_) a.length 0 k (by omega)
  ·have hm:=mem_sum (wt tPut_) a i hi
   have hb:inB (i:Int) a.length=true:=inB_ok (by omega) (by omega)
   simp only[Zq4.B,lt_dec hi,hb,cond_tt,toNat_cast,getD_lt _ hi,w64_succ (by omega:i<4294967296)]
   repeat' (first | with_reducible exact ex_inr _ | (with_reducible refine .inl ⟨_,rfl,?_⟩;exact⟨_,rfl⟩) | with_reducible refine ex_bind2 (Zq218 _ _ (by first | omega | (simp only[wt_sl,wt_pair,wt_int,wt_bool,wt_str,wt_unit] at hm ⊢;omega))) fun _=>?_ | with_reducible refine ex_bind2 (ex_some _) fun _=>?_ | with_reducible apply ex_cond2)
  ·refine⟨.inr k,?_⟩;simp only[Zq4.B,ge_dec (Nat.le_refl _),cond_ff]
 simp only[Zq5]
 repeat' (first | with_reducible exact ex_some _ | with_reducible refine ex_bind (lp _) fun o=>?_ | with_reducible refine ex_bind (ex_some _) fun _=>?_ | with_reducible apply ex_cond | (cases o<;>exact⟨_,rfl⟩))
theorem Zq220 (a:Disk_) (n:Int) (hw:wt tDisk_ a≤2147483648):∃ r,Zq6 a n=some r:=by
 simp only[Zq6]
 repeat' (first | with_reducible exact ex_some _ | with_reducible refine ex_bind (Zq217 _ _ (by first | omega | (simp only[wt_sl,wt_pair,wt_int,wt_bool,wt_str,wt_unit] at hw ⊢;omega))) fun _=>?_ | with_reducible refine ex_bind (Zq219 _ _ (by first | omega | (simp only[wt_sl,wt_pair,wt_int,wt_bool,wt_str,wt_unit] at hw ⊢;omega))) fun _=>?_ | with_reducible refine ex_bind (ex_some _) fun _=>?_ | with_reducible apply ex_cond)
theorem Zq221 (a:(List Int)) (hw:wt (.sl (.int .i64)) a≤2147483648):Zq8 a=some a:=by
 have hw2:=hw
 simp only[wt_sl,wt_pair,wt_int,wt_bool,wt_str,wt_unit] at hw2
 have hl:a.length≤2147483648:=by have:=len_sum (wt (.int .i64)) (fun x=>by simp only[wt_sl,wt_pair,wt_int,wt_bool,wt_str,wt_unit];omega) a;omega
 have lp:Zq7 a (0,List.replicate (a.length:Int).toNat 0)=some a:=by
  refine to_list0 a (fun s=>Zq7.B a s.1 s.2) 0 (fun i hi out ho=>?_) (fun out ho=>?_)
  ·have hm:=mem_sum (wt (.int .i64)) a i hi
   have hb:inB (i:Int) a.length=true:=inB_ok (by omega) (by omega)
   have hc:inB (i:Int) out.length=true:=inB_ok (by omega) (by omega)
   simp only[Zq7.B,lt_dec hi,hb,hc,cond_tt,toNat_cast,getD_lt _ hi,Option.bind_some,peta,w64_succ (by omega:i<4294967296)]
  ·simp only[Zq7.B];rw[show decide ((a.length:Int)<(a.length:Int))=false by simp];rfl
 simp only[Zq8]
 rw[show(decide ((0:Int)≤(a.length:Int))&&(decide ((a.length:Int)≤(a.length:Int))&&decide ((a.length:Int)≤2147483648)))=true by simp;omega]
 simp only[cond_tt,Option.bind_some,lp]
theorem Zq222 (a:(List (List Int))) (hw:wt (.sl (.sl (.int .i64))) a≤2147483648):Zq10 a=some a:=by
 have hw2:=hw
 simp only[wt_sl,wt_pair,wt_int,wt_bool,wt_str,wt_unit] at hw2
 have hl:a.length≤2147483648:=by have:=len_sum (wt (.sl (.int .i64))) (fun x=>by simp only[wt_sl,wt_pair,wt_int,wt_bool,wt_str,wt_unit];omega) a;omega
 have lp:Zq9 a (0,List.replicate (a.length:Int).toNat ([]:List Int))=some a:=by
  refine to_list0 a (fun s=>Zq9.B a s.1 s.2) [] (fun i hi out ho=>?_) (fun out ho=>?_)
  ·have hm:=mem_sum (wt (.sl (.int .i64))) a i hi
   have hb:inB (i:Int) a.length=true:=inB_ok (by omega) (by omega)
   have hc:inB (i:Int) out.length=true:=inB_ok (by omega) (by omega)
   have h0:=Zq221 a[i] (by omega)
   simp only[Zq9.B,lt_dec hi,hb,hc,cond_tt,toNat_cast,getD_lt _ hi,h0,Option.bind_some,peta,w64_succ (by omega:i<4294967296)]
  ·simp only[Zq9.B];rw[show decide ((a.length:Int)<(a.length:Int))=false by simp];rfl
 simp only[Zq10]
 rw[show(decide ((0:Int)≤(a.length:Int))&&(decide ((a.length:Int)≤(a.length:Int))&&decide ((a.length:Int)≤2147483648)))=true by simp;omega]
 simp only[cond_tt,Option.bind_some,lp]
theorem Zq223 (a:Put_) (hw:wt tPut_ a≤2147483648):Zq11 a=some a:=by
 obtain⟨x0,x1,⟨⟩⟩:=a
 simp only[wt_sl,wt_pair,wt_int,wt_bool,wt_str,wt_unit] at hw
 have h_x1_0:=Zq221 x1 (by simp only[wt_sl,wt_pair,wt_int,wt_bool,wt_str,wt_unit];omega)
 simp only[Zq11,h_x1_0,Option.bind_some,peta]
theorem Zq224 (a:(List Put_)) (hw:wt (.sl tPut_) a≤2147483648):Zq13 a=some a:=by
 have hw2:=hw
 simp only[wt_sl,wt_pair,wt_int,wt_bool,wt_str,wt_unit] at hw2
 have hl:a.length≤2147483648:=by have:=len_sum (wt tPut_) (fun x=>by simp only[wt_sl,wt_pair,wt_int,wt_bool,wt_str,wt_unit];omega) a;omega
 have lp:Zq12 a (0,List.replicate (a.length:Int).toNat zPut_)=some a:=by
  refine to_list0 a (fun s=>Zq12.B a s.1 s.2) zPut_ (fun i hi out ho=>?_) (fun out ho=>?_)
  ·have hm:=mem_sum (wt tPut_) a i hi
   have hb:inB (i:Int) a.length=true:=inB_ok (by omega) (by omega)
   have hc:inB (i:Int) out.length=true:=inB_ok (by omega) (by omega)
   have h0:=Zq223 a[i] (by omega)
   simp only[Zq12.B,lt_dec hi,hb,hc,cond_tt,toNat_cast,getD_lt _ hi,h0,Option.bind_some,peta,w64_succ (by omega:i<4294967296)]
  ·simp only[Zq12.B];rw[show decide ((a.length:Int)<(a.length:Int))=false by simp];rfl
 simp only[Zq13]
 rw[show(decide ((0:Int)≤(a.length:Int))&&(decide ((a.length:Int)≤(a.length:Int))&&decide ((a.length:Int)≤2147483648)))=true by simp;omega]
 simp only[cond_tt,Option.bind_some,lp]
theorem Zq225 (a:Disk_) (hw:wt tDisk_ a≤2147483648):Zq14 a=some a:=by
 obtain⟨x0,x1,⟨⟩⟩:=a
 simp only[wt_sl,wt_pair,wt_int,wt_bool,wt_str,wt_unit] at hw
 have h_x0_0:=Zq222 x0 (by simp only[wt_sl,wt_pair,wt_int,wt_bool,wt_str,wt_unit];omega)
 have h_x1_1:=Zq224 x1 (by simp only[wt_sl,wt_pair,wt_int,wt_bool,wt_str,wt_unit];omega)
 simp only[Zq14,h_x0_0,h_x1_1,Option.bind_some,peta]
theorem Zq226 (a:(List Int)) (hw:wt (.sl (.int .i64)) a≤2147483648):Zq165 a a=some true:=by
 have hw2:=hw
 simp only[wt_sl,wt_pair,wt_int,wt_bool,wt_str,wt_unit] at hw2
 have hl:a.length≤2147483648:=by have:=len_sum (wt (.int .i64)) (fun x=>by simp only[wt_sl,wt_pair,wt_int,wt_bool,wt_str,wt_unit];omega) a;omega
 have lp:Zq164 a a 0=some (.inr ()):=by
  refine eq_list0 (n:=a.length) (fun s=>Zq164.B a a s) (fun i hi=>?_) ?_
  ·have hm:=mem_sum (wt (.int .i64)) a i hi
   have hb:inB (i:Int) a.length=true:=inB_ok (by omega) (by omega)
   simp only[Zq164.B,lt_dec hi,hb,cond_tt,cond_ff,toNat_cast,getD_lt _ hi,Option.bind_some,Bool.not_true,bne_self,beq_selfS,beq_selfB,w64_succ (by omega:i<4294967296)]
  ·simp only[Zq164.B,ge_dec (Nat.le_refl _),cond_ff]
 simp only[Zq165,bne_self,cond_ff,lp,Option.bind_some,sel]
theorem Zq227 (a:Entry_) (hw:wt tEntry_ a≤2147483648):Zq166 a a=some true:=by
 obtain⟨x0,x1,⟨⟩⟩:=a
 simp only[wt_sl,wt_pair,wt_int,wt_bool,wt_str,wt_unit] at hw
 simp only[Zq166,Option.bind_some,Bool.not_true,bne_self,beq_selfS,beq_selfB,cond_ff,cond_tt]
theorem Zq228 (a:(List Entry_)) (hw:wt (.sl tEntry_) a≤2147483648):Zq168 a a=some true:=by
 have hw2:=hw
 simp only[wt_sl,wt_pair,wt_int,wt_bool,wt_str,wt_unit] at hw2
 have hl:a.length≤2147483648:=by have:=len_sum (wt tEntry_) (fun x=>by simp only[wt_sl,wt_pair,wt_int,wt_bool,wt_str,wt_unit];omega) a;omega
 have lp:Zq167 a a 0=some (.inr ()):=by
  refine eq_list0 (n:=a.length) (fun s=>Zq167.B a a s) (fun i hi=>?_) ?_
  ·have hm:=mem_sum (wt tEntry_) a i hi
   have hb:inB (i:Int) a.length=true:=inB_ok (by omega) (by omega)
   have h0:=Zq227 a[i] (by omega)
   simp only[Zq167.B,lt_dec hi,hb,cond_tt,cond_ff,toNat_cast,getD_lt _ hi,h0,Option.bind_some,Bool.not_true,bne_self,beq_selfS,beq_selfB,w64_succ (by omega:i<4294967296)]
  ·simp only[Zq167.B,ge_dec (Nat.le_refl _),cond_ff]
 simp only[Zq168,bne_self,cond_ff,lp,Option.bind_some,sel]
theorem Zq229 (a:Inode_) (hw:wt tInode_ a≤2147483648):Zq169 a a=some true:=by
 obtain⟨x0,x1,x2,x3,x4,⟨⟩⟩:=a
 simp only[wt_sl,wt_pair,wt_int,wt_bool,wt_str,wt_unit] at hw
 have h_x3_0:=Zq226 x3 (by simp only[wt_sl,wt_pair,wt_int,wt_bool,wt_str,wt_unit];omega)
 have h_x4_1:=Zq228 x4 (by simp only[wt_sl,wt_pair,wt_int,wt_bool,wt_str,wt_unit];omega)
 simp only[Zq169,h_x3_0,h_x4_1,Option.bind_some,Bool.not_true,bne_self,beq_selfS,beq_selfB,cond_ff,cond_tt]
theorem Zq230 (a:(List Inode_)) (hw:wt (.sl tInode_) a≤2147483648):Zq171 a a=some true:=by
 have hw2:=hw
 simp only[wt_sl,wt_pair,wt_int,wt_bool,wt_str,wt_unit] at hw2
 have hl:a.length≤2147483648:=by have:=len_sum (wt tInode_) (fun x=>by simp only[wt_sl,wt_pair,wt_int,wt_bool,wt_str,wt_unit];omega) a;omega
 have lp:Zq170 a a 0=some (.inr ()):=by
  refine eq_list0 (n:=a.length) (fun s=>Zq170.B a a s) (fun i hi=>?_) ?_
  ·have hm:=mem_sum (wt tInode_) a i hi
   have hb:inB (i:Int) a.length=true:=inB_ok (by omega) (by omega)
   have h0:=Zq229 a[i] (by omega)
   simp only[Zq170.B,lt_dec hi,hb,cond_tt,cond_ff,toNat_cast,getD_lt _ hi,h0,Option.bind_some,Bool.not_true,bne_self,beq_selfS,beq_selfB,w64_succ (by omega:i<4294967296)]
  ·simp only[Zq170.B,ge_dec (Nat.le_refl _),cond_ff]
 simp only[Zq171,bne_self,cond_ff,lp,Option.bind_some,sel]
theorem Zq231 (a:(List Int)) (hw:wt (.sl (.int .u8)) a≤2147483648):Zq173 a a=some true:=by
 have hw2:=hw
 simp only[wt_sl,wt_pair,wt_int,wt_bool,wt_str,wt_unit] at hw2
 have hl:a.length≤2147483648:=by have:=len_sum (wt (.int .u8)) (fun x=>by simp only[wt_sl,wt_pair,wt_int,wt_bool,wt_str,wt_unit];omega) a;omega
 have lp:Zq172 a a 0=some (.inr ()):=by
  refine eq_list0 (n:=a.length) (fun s=>Zq172.B a a s) (fun i hi=>?_) ?_
  ·have hm:=mem_sum (wt (.int .u8)) a i hi
   have hb:inB (i:Int) a.length=true:=inB_ok (by omega) (by omega)
   simp only[Zq172.B,lt_dec hi,hb,cond_tt,cond_ff,toNat_cast,getD_lt _ hi,Option.bind_some,Bool.not_true,bne_self,beq_selfS,beq_selfB,w64_succ (by omega:i<4294967296)]
  ·simp only[Zq172.B,ge_dec (Nat.le_refl _),cond_ff]
 simp only[Zq173,bne_self,cond_ff,lp,Option.bind_some,sel]
theorem Zq232 (a:(List (List Int))) (hw:wt (.sl (.sl (.int .u8))) a≤2147483648):Zq175 a a=some true:=by
 have hw2:=hw
 simp only[wt_sl,wt_pair,wt_int,wt_bool,wt_str,wt_unit] at hw2
 have hl:a.length≤2147483648:=by have:=len_sum (wt (.sl (.int .u8))) (fun x=>by simp only[wt_sl,wt_pair,wt_int,wt_bool,wt_str,wt_unit];omega) a;omega
 have lp:Zq174 a a 0=some (.inr ()):=by
  refine eq_list0 (n:=a.length) (fun s=>Zq174.B a a s) (fun i hi=>?_) ?_
  ·have hm:=mem_sum (wt (.sl (.int .u8))) a i hi
   have hb:inB (i:Int) a.length=true:=inB_ok (by omega) (by omega)
   have h0:=Zq231 a[i] (by omega)
   simp only[Zq174.B,lt_dec hi,hb,cond_tt,cond_ff,toNat_cast,getD_lt _ hi,h0,Option.bind_some,Bool.not_true,bne_self,beq_selfS,beq_selfB,w64_succ (by omega:i<4294967296)]
  ·simp only[Zq174.B,ge_dec (Nat.le_refl _),cond_ff]
 simp only[Zq175,bne_self,cond_ff,lp,Option.bind_some,sel]
theorem Zq233 (a:Fs_) (hw:wt tFs_ a≤2147483648):Zq176 a a=some true:=by
 obtain⟨x0,x1,⟨⟩⟩:=a
 simp only[wt_sl,wt_pair,wt_int,wt_bool,wt_str,wt_unit] at hw
 have h_x0_0:=Zq230 x0 (by simp only[wt_sl,wt_pair,wt_int,wt_bool,wt_str,wt_unit];omega)
 have h_x1_1:=Zq232 x1 (by simp only[wt_sl,wt_pair,wt_int,wt_bool,wt_str,wt_unit];omega)
 simp only[Zq176,h_x0_0,h_x1_1,Option.bind_some,Bool.not_true,bne_self,beq_selfS,beq_selfB,cond_ff,cond_tt]
theorem Zq234 (a:FsResult_) (hw:wt tFsResult_ a≤2147483648):Zq177 a a=some true:=by
 obtain⟨x0,x1,⟨⟩⟩:=a
 simp only[wt_sl,wt_pair,wt_int,wt_bool,wt_str,wt_unit] at hw
 have h_x1_0:=Zq233 x1 (by simp only[wt_sl,wt_pair,wt_int,wt_bool,wt_str,wt_unit];omega)
 simp only[Zq177,h_x1_0,Option.bind_some,Bool.not_true,bne_self,beq_selfS,beq_selfB,cond_ff,cond_tt]
theorem Zq235 (a:(List (List Int))) (hw:wt (.sl (.sl (.int .i64))) a≤2147483648):Zq179 a a=some true:=by
 have hw2:=hw
 simp only[wt_sl,wt_pair,wt_int,wt_bool,wt_str,wt_unit] at hw2
 have hl:a.length≤2147483648:=by have:=len_sum (wt (.sl (.int .i64))) (fun x=>by simp only[wt_sl,wt_pair,wt_int,wt_bool,wt_str,wt_unit];omega) a;omega
 have lp:Zq178 a a 0=some (.inr ()):=by
  refine eq_list0 (n:=a.length) (fun s=>Zq178.B a a s) (fun i hi=>?_) ?_
  ·have hm:=mem_sum (wt (.sl (.int .i64))) a i hi
   have hb:inB (i:Int) a.length=true:=inB_ok (by omega) (by omega)
   have h0:=Zq226 a[i] (by omega)
   simp only[Zq178.B,lt_dec hi,hb,cond_tt,cond_ff,toNat_cast,getD_lt _ hi,h0,Option.bind_some,Bool.not_true,bne_self,beq_selfS,beq_selfB,w64_succ (by omega:i<4294967296)]
  ·simp only[Zq178.B,ge_dec (Nat.le_refl _),cond_ff]
 simp only[Zq179,bne_self,cond_ff,lp,Option.bind_some,sel]
theorem Zq236 (a:Put_) (hw:wt tPut_ a≤2147483648):Zq180 a a=some true:=by
 obtain⟨x0,x1,⟨⟩⟩:=a
 simp only[wt_sl,wt_pair,wt_int,wt_bool,wt_str,wt_unit] at hw
 have h_x1_0:=Zq226 x1 (by simp only[wt_sl,wt_pair,wt_int,wt_bool,wt_str,wt_unit];omega)
 simp only[Zq180,h_x1_0,Option.bind_some,Bool.not_true,bne_self,beq_selfS,beq_selfB,cond_ff,cond_tt]
theorem Zq237 (a:(List Put_)) (hw:wt (.sl tPut_) a≤2147483648):Zq182 a a=some true:=by
 have hw2:=hw
 simp only[wt_sl,wt_pair,wt_int,wt_bool,wt_str,wt_unit] at hw2
 have hl:a.length≤2147483648:=by have:=len_sum (wt tPut_) (fun x=>by simp only[wt_sl,wt_pair,wt_int,wt_bool,wt_str,wt_unit];omega) a;omega
 have lp:Zq181 a a 0=some (.inr ()):=by
  refine eq_list0 (n:=a.length) (fun s=>Zq181.B a a s) (fun i hi=>?_) ?_
  ·have hm:=mem_sum (wt tPut_) a i hi
   have hb:inB (i:Int) a.length=true:=inB_ok (by omega) (by omega)
   have h0:=Zq236 a[i] (by omega)
   simp only[Zq181.B,lt_dec hi,hb,cond_tt,cond_ff,toNat_cast,getD_lt _ hi,h0,Option.bind_some,Bool.not_true,bne_self,beq_selfS,beq_selfB,w64_succ (by omega:i<4294967296)]
  ·simp only[Zq181.B,ge_dec (Nat.le_refl _),cond_ff]
 simp only[Zq182,bne_self,cond_ff,lp,Option.bind_some,sel]
theorem Zq238 (a:Disk_) (hw:wt tDisk_ a≤2147483648):Zq183 a a=some true:=by
 obtain⟨x0,x1,⟨⟩⟩:=a
 simp only[wt_sl,wt_pair,wt_int,wt_bool,wt_str,wt_unit] at hw
 have h_x0_0:=Zq235 x0 (by simp only[wt_sl,wt_pair,wt_int,wt_bool,wt_str,wt_unit];omega)
 have h_x1_1:=Zq237 x1 (by simp only[wt_sl,wt_pair,wt_int,wt_bool,wt_str,wt_unit];omega)
 simp only[Zq183,h_x0_0,h_x1_1,Option.bind_some,Bool.not_true,bne_self,beq_selfS,beq_selfB,cond_ff,cond_tt]
theorem Zq239 (a:(List Int)) (k:Int) (hk:0≤k) (hw:k+wt (.sl (.int .i64)) a≤4611686018427387904) (hz:wt (.sl (.int .i64)) a≤2147483648):MH Zq185 Zq204 (wt (.sl (.int .i64)) a) a k:=by
 simp only[wt_sl,wt_pair,wt_int,wt_bool,wt_str,wt_unit] at hw hz
 have hl:a.length≤2147483648:=by have:=len_sum (wt (.int .i64)) (fun x=>by simp only[wt_sl,wt_pair,wt_int,wt_bool,wt_str,wt_unit];omega) a;omega
 have hs:∀ (k:Int) (i:Nat) (a:(List Int)) (h:i<a.length),a.length≤2147483648→0≤k→k+wt (.int .i64) a[i]≤4611686018427387904→wt (.int .i64) a[i]≤2147483648→∃ k2 x2,k≤k2∧k2≤k+wt (.int .i64) a[i]∧Zq184.B k (i:Int) a=some (.inl (k2,((i+1:Nat):Int),a.set i x2))∧∀ b:(List Int),b.length=a.length→b[i]? = some x2→Zq203.B b k (i:Int)=some (.inl (k2,((i+1:Nat):Int))):=by
  clear hw hz hl hk k a
  intro k i a hi hl hk hw hz
  have hb:inB (i:Int) a.length=true:=inB_ok (by omega) (by omega)
  simp only[wt_sl,wt_pair,wt_int,wt_bool,wt_str,wt_unit] at hw hz
  have w1:w64 (k+1)=k+1:=w64s (by omega) (by omega)
  refine⟨k+1,k,by omega,by simp only[wt_sl,wt_pair,wt_int,wt_bool,wt_str,wt_unit];omega,?_,fun b hlb hx=>?_⟩
  ·simp only[Zq184.B,lt_dec hi,hb,cond_tt,toNat_cast,getD_lt _ hi,Option.bind_some,w1,w64_succ (by omega:i<4294967296),List.set_set,List.length_set,getD_set _ _ hi,show(!((3:Int) == 0))=true from rfl]
  ·have hc:inB (i:Int) b.length=true:=inB_ok (by omega) (by omega)
   have hd:decide ((i:Int)<(b.length:Int))=true:=lt_dec (by omega)
   simp only[Zq203.B,hd,hc,cond_tt,cond_ff,toNat_cast,getD_of _ hx,Option.bind_some,bne_self,beq_selfS,beq_selfB,Bool.not_true,w1,w64_succ (by omega:i<4294967296),List.set_set,List.length_set,getD_set _ _ hi,show(!((3:Int) == 0))=true from rfl]
 obtain⟨k2,a2,e1,e2,e3,e4⟩:=mark_list0 (wt (.int .i64)) 4611686018427387904 (fun s=>Zq184.B s.1 s.2.1 s.2.2) (fun b s=>Zq203.B b s.1 s.2) (fun k a=>by simp only[Zq184.B,ge_dec (Nat.le_refl _),cond_ff]) (fun k a=>by simp only[Zq203.B,ge_dec (Nat.le_refl _),cond_ff]) hs k a hl hk (by omega) (by omega)
 refine⟨k2,a2,e1,by simp only[wt_sl,wt_pair,wt_int,wt_bool,wt_str,wt_unit];omega,?_,?_⟩
 ·have:Zq184 (k,0,a)=some (k2,a2):=e3
  simp only[Zq185,this,Option.bind_some]
 ·have:Zq203 a2 (k,0)=some (.inr k2):=e4
  simp only[Zq204,this,Option.bind_some,sel]
theorem Zq240 (a:(List (List Int))) (k:Int) (hk:0≤k) (hw:k+wt (.sl (.sl (.int .i64))) a≤4611686018427387904) (hz:wt (.sl (.sl (.int .i64))) a≤2147483648):MK Zq187 (wt (.sl (.sl (.int .i64))) a) a k:=by
 simp only[wt_sl,wt_pair,wt_int,wt_bool,wt_str,wt_unit] at hw hz
 have hl:a.length≤2147483648:=by have:=len_sum (wt (.sl (.int .i64))) (fun x=>by simp only[wt_sl,wt_pair,wt_int,wt_bool,wt_str,wt_unit];omega) a;omega
 have hs:∀ (k:Int) (i:Nat) (a:(List (List Int))) (h:i<a.length),a.length≤2147483648→0≤k→k+wt (.sl (.int .i64)) a[i]≤4611686018427387904→wt (.sl (.int .i64)) a[i]≤2147483648→∃ k2 x2,k≤k2∧k2≤k+wt (.sl (.int .i64)) a[i]∧Zq186.B k (i:Int) a=some (.inl (k2,((i+1:Nat):Int),a.set i x2)):=by
  clear hw hz hl hk k a
  intro k i a hi hl hk hw hz
  have hb:inB (i:Int) a.length=true:=inB_ok (by omega) (by omega)
  simp only[wt_sl,wt_pair,wt_int,wt_bool,wt_str,wt_unit] at hw hz
  obtain⟨k1,y1,l1,u1,w1⟩:=MH.mk (Zq239 a[i] (k) (by omega) (by simp only[wt_sl,wt_pair,wt_int,wt_bool,wt_str,wt_unit];omega) (by simp only[wt_sl,wt_pair,wt_int,wt_bool,wt_str,wt_unit];omega))
  simp only[wt_sl,wt_pair,wt_int,wt_bool,wt_str,wt_unit] at u1
  refine⟨k1,y1,by omega,by simp only[wt_sl,wt_pair,wt_int,wt_bool,wt_str,wt_unit];omega,?_⟩
  simp only[Zq186.B,lt_dec hi,hb,cond_tt,toNat_cast,getD_lt _ hi,Option.bind_some,w1,w64_succ (by omega:i<4294967296),List.set_set,List.length_set,getD_set _ _ hi,show(!((3:Int) == 0))=true from rfl]
 obtain⟨k2,a2,e1,e2,e3⟩:=mark_only0 (wt (.sl (.int .i64))) 4611686018427387904 (fun s=>Zq186.B s.1 s.2.1 s.2.2) (fun k a=>by simp only[Zq186.B,ge_dec (Nat.le_refl _),cond_ff]) hs k a hl hk (by omega) (by omega)
 refine⟨k2,a2,e1,by simp only[wt_sl,wt_pair,wt_int,wt_bool,wt_str,wt_unit];omega,?_⟩
 have:Zq186 (k,0,a)=some (k2,a2):=e3
 simp only[Zq187,this,Option.bind_some]
theorem Zq241 (a:(List Put_)) (k:Int) (hk:0≤k) (hw:k+wt (.sl tPut_) a≤4611686018427387904) (hz:wt (.sl tPut_) a≤2147483648):MK Zq189 (wt (.sl tPut_) a) a k:=by
 simp only[wt_sl,wt_pair,wt_int,wt_bool,wt_str,wt_unit] at hw hz
 have hl:a.length≤2147483648:=by have:=len_sum (wt tPut_) (fun x=>by simp only[wt_sl,wt_pair,wt_int,wt_bool,wt_str,wt_unit];omega) a;omega
 have hs:∀ (k:Int) (i:Nat) (a:(List Put_)) (h:i<a.length),a.length≤2147483648→0≤k→k+wt tPut_ a[i]≤4611686018427387904→wt tPut_ a[i]≤2147483648→∃ k2 x2,k≤k2∧k2≤k+wt tPut_ a[i]∧Zq188.B k (i:Int) a=some (.inl (k2,((i+1:Nat):Int),a.set i x2)):=by
  clear hw hz hl hk k a
  intro k i a hi hl hk hw hz
  have hb:inB (i:Int) a.length=true:=inB_ok (by omega) (by omega)
  simp only[wt_sl,wt_pair,wt_int,wt_bool,wt_str,wt_unit] at hw hz
  have w1:w64 (k+1)=k+1:=w64s (by omega) (by omega)
  obtain⟨k2,y2,l2,u2,w2⟩:=MH.mk (Zq239 a[i].2.1 (k+1) (by omega) (by simp only[wt_sl,wt_pair,wt_int,wt_bool,wt_str,wt_unit];omega) (by simp only[wt_sl,wt_pair,wt_int,wt_bool,wt_str,wt_unit];omega))
  simp only[wt_sl,wt_pair,wt_int,wt_bool,wt_str,wt_unit] at u2
  refine⟨k2,(k,y2,()),by omega,by simp only[wt_sl,wt_pair,wt_int,wt_bool,wt_str,wt_unit];omega,?_⟩
  simp only[Zq188.B,lt_dec hi,hb,cond_tt,toNat_cast,getD_lt _ hi,Option.bind_some,w1,w2,w64_succ (by omega:i<4294967296),List.set_set,List.length_set,getD_set _ _ hi,show(!((3:Int) == 0))=true from rfl]
 obtain⟨k2,a2,e1,e2,e3⟩:=mark_only0 (wt tPut_) 4611686018427387904 (fun s=>Zq188.B s.1 s.2.1 s.2.2) (fun k a=>by simp only[Zq188.B,ge_dec (Nat.le_refl _),cond_ff]) hs k a hl hk (by omega) (by omega)
 refine⟨k2,a2,e1,by simp only[wt_sl,wt_pair,wt_int,wt_bool,wt_str,wt_unit];omega,?_⟩
 have:Zq188 (k,0,a)=some (k2,a2):=e3
 simp only[Zq189,this,Option.bind_some]
theorem Zq242 (x_0:List (List Int)) (x_1:List Put_) (k:Int) (hk:0≤k) (hw:k+wt tDisk_ (x_0,x_1,())≤4611686018427387904) (hz:wt tDisk_ (x_0,x_1,())≤2147483648):∃ k2 y0 y1,k≤k2∧k2≤k+wt tDisk_ (x_0,x_1,())∧Zq190 (x_0,x_1,()) k=some (k2,(y0,y1,())):=by
 simp only[wt_sl,wt_pair,wt_int,wt_bool,wt_str,wt_unit] at hw hz
 obtain⟨k0,y0,l0,u0,w0⟩:=id (Zq240 x_0 k (by omega) (by simp only[wt_sl,wt_pair,wt_int,wt_bool,wt_str,wt_unit];omega) (by simp only[wt_sl,wt_pair,wt_int,wt_bool,wt_str,wt_unit];omega))
 simp only[wt_sl,wt_pair,wt_int,wt_bool,wt_str,wt_unit] at u0
 obtain⟨k1,y1,l1,u1,w1⟩:=id (Zq241 x_1 k0 (by omega) (by simp only[wt_sl,wt_pair,wt_int,wt_bool,wt_str,wt_unit];omega) (by simp only[wt_sl,wt_pair,wt_int,wt_bool,wt_str,wt_unit];omega))
 simp only[wt_sl,wt_pair,wt_int,wt_bool,wt_str,wt_unit] at u1
 refine⟨k1,y0,y1,by omega,by simp only[wt_sl,wt_pair,wt_int,wt_bool,wt_str,wt_unit];omega,?_⟩
 simp only[Zq190,w0,w1,Option.bind_some,peta]
theorem Zq243:∀ (n:Nat) (k:Int) (out:List UInt8),0≤k→k<10 ^ n→out.length+n≤2147483648→k≤4611686018427387904→∃ s,Zq191 (k,out)=some s∧s.length≤out.length+n
 |0,k,out,h0,h1,h2,h3=>by
  have:k=0:=by simp at h1;omega
  subst this
  exact⟨out,loopL_done (by simp only[Zq191.B];rfl),by omega⟩
 |n+1,k,out,h0,h1,h2,h3=>by
  by_cases hk:k=0
  ·subst hk;exact⟨out,loopL_done (by simp only[Zq191.B];rfl),by omega⟩
  ·have hd:k.tdiv 10=k / 10:=Int.tdiv_eq_ediv_of_nonneg h0
   have hq:w64 (k / 10)=k / 10:=w64_id (by omega) (by omega)
   have hp:k / 10<10 ^ n:=by rw[Int.pow_succ] at h1;omega
   obtain⟨s,hs,hl⟩:=Zq243 n (k / 10) ((([IntKind.u8.wrap (w64 ((48:Int)+(k.tmod 10)))]).map fun n=>UInt8.ofNat n.toNat)++out) (by omega) hp (by simp;omega) (by omega)
   refine⟨s,?_,by simp at hl;omega⟩
   rw[←hs]
   refine loopL_step (s':=(k / 10,_)) ?_
   simp only[Zq191.B,show decide (k>0)=true by simp;omega,cond_tt,show(!((10:Int) == 0))=true from rfl,Option.bind_some,hd,hq]
   rw[show decide ((([IntKind.u8.wrap (w64 ((48:Int)+(k.tmod 10)))]).map fun n=>UInt8.ofNat n.toNat).length+out.length≤2147483648)=true by simp;omega]
   rfl
theorem Zq244 (k:Int) (h:0≤k) (hk:k≤4611686018427387904):∃ s,Zq192 k=some s:=by
 obtain⟨s,hs,hl⟩:=Zq243 19 k [] h (by omega) (by simp) hk
 simp only[Zq192]
 cases decide (k≤0)
 ·simp only[cond_ff,hs,Option.bind_some]
  rw[show decide (([109]:List UInt8).length+s.length≤2147483648)=true by simp at hl ⊢;omega]
  exact⟨_,rfl⟩
 ·exact⟨_,rfl⟩
theorem Zq245 (a:(List Entry_)) (k:Int) (hk:0≤k) (hw:k+wt (.sl tEntry_) a≤4611686018427387904) (hz:wt (.sl tEntry_) a≤2147483648):MH Zq194 Zq206 (wt (.sl tEntry_) a) a k:=by
 simp only[wt_sl,wt_pair,wt_int,wt_bool,wt_str,wt_unit] at hw hz
 have hl:a.length≤2147483648:=by have:=len_sum (wt tEntry_) (fun x=>by simp only[wt_sl,wt_pair,wt_int,wt_bool,wt_str,wt_unit];omega) a;omega
 have hs:∀ (k:Int) (i:Nat) (a:(List Entry_)) (h:i<a.length),a.length≤2147483648→0≤k→k+wt tEntry_ a[i]≤4611686018427387904→wt tEntry_ a[i]≤2147483648→∃ k2 x2,k≤k2∧k2≤k+wt tEntry_ a[i]∧Zq193.B k (i:Int) a=some (.inl (k2,((i+1:Nat):Int),a.set i x2))∧∀ b:(List Entry_),b.length=a.length→b[i]? = some x2→Zq205.B b k (i:Int)=some (.inl (k2,((i+1:Nat):Int))):=by
  clear hw hz hl hk k a
  intro k i a hi hl hk hw hz
  have hb:inB (i:Int) a.length=true:=inB_ok (by omega) (by omega)
  simp only[wt_sl,wt_pair,wt_int,wt_bool,wt_str,wt_unit] at hw hz
  obtain⟨s1,w1⟩:=Zq244 (k) (by omega) (by omega)
  have w2:w64 (k+1)=k+1:=w64s (by omega) (by omega)
  have w3:w64 (k+1+1)=k+1+1:=w64s (by omega) (by omega)
  refine⟨k+1+1,(s1,k+1,()),by omega,by simp only[wt_sl,wt_pair,wt_int,wt_bool,wt_str,wt_unit];omega,?_,fun b hlb hx=>?_⟩
  ·simp only[Zq193.B,lt_dec hi,hb,cond_tt,toNat_cast,getD_lt _ hi,Option.bind_some,w1,w2,w3,w64_succ (by omega:i<4294967296),List.set_set,List.length_set,getD_set _ _ hi,show(!((3:Int) == 0))=true from rfl]
  ·have hc:inB (i:Int) b.length=true:=inB_ok (by omega) (by omega)
   have hd:decide ((i:Int)<(b.length:Int))=true:=lt_dec (by omega)
   simp only[Zq205.B,hd,hc,cond_tt,cond_ff,toNat_cast,getD_of _ hx,Option.bind_some,bne_self,beq_selfS,beq_selfB,Bool.not_true,w1,w2,w3,w64_succ (by omega:i<4294967296),List.set_set,List.length_set,getD_set _ _ hi,show(!((3:Int) == 0))=true from rfl]
 obtain⟨k2,a2,e1,e2,e3,e4⟩:=mark_list0 (wt tEntry_) 4611686018427387904 (fun s=>Zq193.B s.1 s.2.1 s.2.2) (fun b s=>Zq205.B b s.1 s.2) (fun k a=>by simp only[Zq193.B,ge_dec (Nat.le_refl _),cond_ff]) (fun k a=>by simp only[Zq205.B,ge_dec (Nat.le_refl _),cond_ff]) hs k a hl hk (by omega) (by omega)
 refine⟨k2,a2,e1,by simp only[wt_sl,wt_pair,wt_int,wt_bool,wt_str,wt_unit];omega,?_,?_⟩
 ·have:Zq193 (k,0,a)=some (k2,a2):=e3
  simp only[Zq194,this,Option.bind_some]
 ·have:Zq205 a2 (k,0)=some (.inr k2):=e4
  simp only[Zq206,this,Option.bind_some,sel]
theorem Zq246 (a:(List Inode_)) (k:Int) (hk:0≤k) (hw:k+wt (.sl tInode_) a≤4611686018427387904) (hz:wt (.sl tInode_) a≤2147483648):MH Zq196 Zq208 (wt (.sl tInode_) a) a k:=by
 simp only[wt_sl,wt_pair,wt_int,wt_bool,wt_str,wt_unit] at hw hz
 have hl:a.length≤2147483648:=by have:=len_sum (wt tInode_) (fun x=>by simp only[wt_sl,wt_pair,wt_int,wt_bool,wt_str,wt_unit];omega) a;omega
 have hs:∀ (k:Int) (i:Nat) (a:(List Inode_)) (h:i<a.length),a.length≤2147483648→0≤k→k+wt tInode_ a[i]≤4611686018427387904→wt tInode_ a[i]≤2147483648→∃ k2 x2,k≤k2∧k2≤k+wt tInode_ a[i]∧Zq195.B k (i:Int) a=some (.inl (k2,((i+1:Nat):Int),a.set i x2))∧∀ b:(List Inode_),b.length=a.length→b[i]? = some x2→Zq207.B b k (i:Int)=some (.inl (k2,((i+1:Nat):Int))):=by
  clear hw hz hl hk k a
  intro k i a hi hl hk hw hz
  have hb:inB (i:Int) a.length=true:=inB_ok (by omega) (by omega)
  simp only[wt_sl,wt_pair,wt_int,wt_bool,wt_str,wt_unit] at hw hz
  have w1:w64 (k+1)=k+1:=w64s (by omega) (by omega)
  have w2:w64 (k+1+1)=k+1+1:=w64s (by omega) (by omega)
  have w3:w64 (k+1+1+1)=k+1+1+1:=w64s (by omega) (by omega)
  obtain⟨k4,y4,l4,u4,w4,v4⟩:=Zq239 a[i].2.2.2.1 (k+1+1+1) (by omega) (by simp only[wt_sl,wt_pair,wt_int,wt_bool,wt_str,wt_unit];omega) (by simp only[wt_sl,wt_pair,wt_int,wt_bool,wt_str,wt_unit];omega)
  simp only[wt_sl,wt_pair,wt_int,wt_bool,wt_str,wt_unit] at u4
  obtain⟨k5,y5,l5,u5,w5,v5⟩:=Zq245 a[i].2.2.2.2.1 (k4) (by omega) (by simp only[wt_sl,wt_pair,wt_int,wt_bool,wt_str,wt_unit];omega) (by simp only[wt_sl,wt_pair,wt_int,wt_bool,wt_str,wt_unit];omega)
  simp only[wt_sl,wt_pair,wt_int,wt_bool,wt_str,wt_unit] at u5
  refine⟨k5,(k,k+1,k+1+1,y4,y5,()),by omega,by simp only[wt_sl,wt_pair,wt_int,wt_bool,wt_str,wt_unit];omega,?_,fun b hlb hx=>?_⟩
  ·simp only[Zq195.B,lt_dec hi,hb,cond_tt,toNat_cast,getD_lt _ hi,Option.bind_some,w1,w2,w3,v4,w4,v5,w5,w64_succ (by omega:i<4294967296),List.set_set,List.length_set,getD_set _ _ hi,show(!((3:Int) == 0))=true from rfl]
  ·have hc:inB (i:Int) b.length=true:=inB_ok (by omega) (by omega)
   have hd:decide ((i:Int)<(b.length:Int))=true:=lt_dec (by omega)
   simp only[Zq207.B,hd,hc,cond_tt,cond_ff,toNat_cast,getD_of _ hx,Option.bind_some,bne_self,beq_selfS,beq_selfB,Bool.not_true,w1,w2,w3,v4,w4,v5,w5,neg_dec (by omega:0≤k4),neg_dec (by omega:0≤k5),w64_succ (by omega:i<4294967296),List.set_set,List.length_set,getD_set _ _ hi,show(!((3:Int) == 0))=true from rfl]
 obtain⟨k2,a2,e1,e2,e3,e4⟩:=mark_list0 (wt tInode_) 4611686018427387904 (fun s=>Zq195.B s.1 s.2.1 s.2.2) (fun b s=>Zq207.B b s.1 s.2) (fun k a=>by simp only[Zq195.B,ge_dec (Nat.le_refl _),cond_ff]) (fun k a=>by simp only[Zq207.B,ge_dec (Nat.le_refl _),cond_ff]) hs k a hl hk (by omega) (by omega)
 refine⟨k2,a2,e1,by simp only[wt_sl,wt_pair,wt_int,wt_bool,wt_str,wt_unit];omega,?_,?_⟩
 ·have:Zq195 (k,0,a)=some (k2,a2):=e3
  simp only[Zq196,this,Option.bind_some]
 ·have:Zq207 a2 (k,0)=some (.inr k2):=e4
  simp only[Zq208,this,Option.bind_some,sel]
theorem Zq247 (a:(List Int)) (k:Int) (hk:0≤k) (hw:k+wt (.sl (.int .u8)) a≤4611686018427387904) (hz:wt (.sl (.int .u8)) a≤2147483648):MH Zq198 Zq210 (wt (.sl (.int .u8)) a) a k:=by
 simp only[wt_sl,wt_pair,wt_int,wt_bool,wt_str,wt_unit] at hw hz
 have hl:a.length≤2147483648:=by have:=len_sum (wt (.int .u8)) (fun x=>by simp only[wt_sl,wt_pair,wt_int,wt_bool,wt_str,wt_unit];omega) a;omega
 have hs:∀ (k:Int) (i:Nat) (a:(List Int)) (h:i<a.length),a.length≤2147483648→0≤k→k+wt (.int .u8) a[i]≤4611686018427387904→wt (.int .u8) a[i]≤2147483648→∃ k2 x2,k≤k2∧k2≤k+wt (.int .u8) a[i]∧Zq197.B k (i:Int) a=some (.inl (k2,((i+1:Nat):Int),a.set i x2))∧∀ b:(List Int),b.length=a.length→b[i]? = some x2→Zq209.B b k (i:Int)=some (.inl (k2,((i+1:Nat):Int))):=by
  clear hw hz hl hk k a
  intro k i a hi hl hk hw hz
  have hb:inB (i:Int) a.length=true:=inB_ok (by omega) (by omega)
  simp only[wt_sl,wt_pair,wt_int,wt_bool,wt_str,wt_unit] at hw hz
  have w1:w64 (k+1)=k+1:=w64s (by omega) (by omega)
  refine⟨k+1,(IntKind.u8.wrap (k)),by omega,by simp only[wt_sl,wt_pair,wt_int,wt_bool,wt_str,wt_unit];omega,?_,fun b hlb hx=>?_⟩
  ·simp only[Zq197.B,lt_dec hi,hb,cond_tt,toNat_cast,getD_lt _ hi,Option.bind_some,w1,w64_succ (by omega:i<4294967296),List.set_set,List.length_set,getD_set _ _ hi,show(!((3:Int) == 0))=true from rfl]
  ·have hc:inB (i:Int) b.length=true:=inB_ok (by omega) (by omega)
   have hd:decide ((i:Int)<(b.length:Int))=true:=lt_dec (by omega)
   simp only[Zq209.B,hd,hc,cond_tt,cond_ff,toNat_cast,getD_of _ hx,Option.bind_some,bne_self,beq_selfS,beq_selfB,Bool.not_true,w1,w64_succ (by omega:i<4294967296),List.set_set,List.length_set,getD_set _ _ hi,show(!((3:Int) == 0))=true from rfl]
 obtain⟨k2,a2,e1,e2,e3,e4⟩:=mark_list0 (wt (.int .u8)) 4611686018427387904 (fun s=>Zq197.B s.1 s.2.1 s.2.2) (fun b s=>Zq209.B b s.1 s.2) (fun k a=>by simp only[Zq197.B,ge_dec (Nat.le_refl _),cond_ff]) (fun k a=>by simp only[Zq209.B,ge_dec (Nat.le_refl _),cond_ff]) hs k a hl hk (by omega) (by omega)
 refine⟨k2,a2,e1,by simp only[wt_sl,wt_pair,wt_int,wt_bool,wt_str,wt_unit];omega,?_,?_⟩
 ·have:Zq197 (k,0,a)=some (k2,a2):=e3
  simp only[Zq198,this,Option.bind_some]
 ·have:Zq209 a2 (k,0)=some (.inr k2):=e4
  simp only[Zq210,this,Option.bind_some,sel]
theorem Zq248 (a:(List (List Int))) (k:Int) (hk:0≤k) (hw:k+wt (.sl (.sl (.int .u8))) a≤4611686018427387904) (hz:wt (.sl (.sl (.int .u8))) a≤2147483648):MH Zq200 Zq212 (wt (.sl (.sl (.int .u8))) a) a k:=by
 simp only[wt_sl,wt_pair,wt_int,wt_bool,wt_str,wt_unit] at hw hz
 have hl:a.length≤2147483648:=by have:=len_sum (wt (.sl (.int .u8))) (fun x=>by simp only[wt_sl,wt_pair,wt_int,wt_bool,wt_str,wt_unit];omega) a;omega
 have hs:∀ (k:Int) (i:Nat) (a:(List (List Int))) (h:i<a.length),a.length≤2147483648→0≤k→k+wt (.sl (.int .u8)) a[i]≤4611686018427387904→wt (.sl (.int .u8)) a[i]≤2147483648→∃ k2 x2,k≤k2∧k2≤k+wt (.sl (.int .u8)) a[i]∧Zq199.B k (i:Int) a=some (.inl (k2,((i+1:Nat):Int),a.set i x2))∧∀ b:(List (List Int)),b.length=a.length→b[i]? = some x2→Zq211.B b k (i:Int)=some (.inl (k2,((i+1:Nat):Int))):=by
  clear hw hz hl hk k a
  intro k i a hi hl hk hw hz
  have hb:inB (i:Int) a.length=true:=inB_ok (by omega) (by omega)
  simp only[wt_sl,wt_pair,wt_int,wt_bool,wt_str,wt_unit] at hw hz
  obtain⟨k1,y1,l1,u1,w1,v1⟩:=Zq247 a[i] (k) (by omega) (by simp only[wt_sl,wt_pair,wt_int,wt_bool,wt_str,wt_unit];omega) (by simp only[wt_sl,wt_pair,wt_int,wt_bool,wt_str,wt_unit];omega)
  simp only[wt_sl,wt_pair,wt_int,wt_bool,wt_str,wt_unit] at u1
  refine⟨k1,y1,by omega,by simp only[wt_sl,wt_pair,wt_int,wt_bool,wt_str,wt_unit];omega,?_,fun b hlb hx=>?_⟩
  ·simp only[Zq199.B,lt_dec hi,hb,cond_tt,toNat_cast,getD_lt _ hi,Option.bind_some,v1,w1,w64_succ (by omega:i<4294967296),List.set_set,List.length_set,getD_set _ _ hi,show(!((3:Int) == 0))=true from rfl]
  ·have hc:inB (i:Int) b.length=true:=inB_ok (by omega) (by omega)
   have hd:decide ((i:Int)<(b.length:Int))=true:=lt_dec (by omega)
   simp only[Zq211.B,hd,hc,cond_tt,cond_ff,toNat_cast,getD_of _ hx,Option.bind_some,bne_self,beq_selfS,beq_selfB,Bool.not_true,v1,w1,neg_dec (by omega:0≤k1),w64_succ (by omega:i<4294967296),List.set_set,List.length_set,getD_set _ _ hi,show(!((3:Int) == 0))=true from rfl]
 obtain⟨k2,a2,e1,e2,e3,e4⟩:=mark_list0 (wt (.sl (.int .u8))) 4611686018427387904 (fun s=>Zq199.B s.1 s.2.1 s.2.2) (fun b s=>Zq211.B b s.1 s.2) (fun k a=>by simp only[Zq199.B,ge_dec (Nat.le_refl _),cond_ff]) (fun k a=>by simp only[Zq211.B,ge_dec (Nat.le_refl _),cond_ff]) hs k a hl hk (by omega) (by omega)
 refine⟨k2,a2,e1,by simp only[wt_sl,wt_pair,wt_int,wt_bool,wt_str,wt_unit];omega,?_,?_⟩
 ·have:Zq199 (k,0,a)=some (k2,a2):=e3
  simp only[Zq200,this,Option.bind_some]
 ·have:Zq211 a2 (k,0)=some (.inr k2):=e4
  simp only[Zq212,this,Option.bind_some,sel]
theorem Zq249 (x_0:List Inode_) (x_1:List (List Int)) (k:Int) (hk:0≤k) (hw:k+wt tFs_ (x_0,x_1,())≤4611686018427387904) (hz:wt tFs_ (x_0,x_1,())≤2147483648):∃ k2 y0 y1,k≤k2∧k2≤k+wt tFs_ (x_0,x_1,())∧Zq201 (x_0,x_1,()) k=some (k2,(y0,y1,()))∧Zq213 (y0,y1,()) k=some k2:=by
 simp only[wt_sl,wt_pair,wt_int,wt_bool,wt_str,wt_unit] at hw hz
 obtain⟨k0,y0,l0,u0,w0,v0⟩:=Zq246 x_0 k (by omega) (by simp only[wt_sl,wt_pair,wt_int,wt_bool,wt_str,wt_unit];omega) (by simp only[wt_sl,wt_pair,wt_int,wt_bool,wt_str,wt_unit];omega)
 simp only[wt_sl,wt_pair,wt_int,wt_bool,wt_str,wt_unit] at u0
 obtain⟨k1,y1,l1,u1,w1,v1⟩:=Zq248 x_1 k0 (by omega) (by simp only[wt_sl,wt_pair,wt_int,wt_bool,wt_str,wt_unit];omega) (by simp only[wt_sl,wt_pair,wt_int,wt_bool,wt_str,wt_unit];omega)
 simp only[wt_sl,wt_pair,wt_int,wt_bool,wt_str,wt_unit] at u1
 refine⟨k1,y0,y1,by omega,by simp only[wt_sl,wt_pair,wt_int,wt_bool,wt_str,wt_unit];omega,?_,?_⟩
 ·simp only[Zq201,w0,w1,Option.bind_some,peta]
 ·simp only[Zq213,v0,v1,Option.bind_some,cond_ff,neg_dec (by omega:0≤k0),neg_dec (by omega:0≤k1)]
theorem Zq250 (x_0:Int) (x_1_0:List Inode_) (x_1_1:List (List Int)) (k:Int) (hk:0≤k) (hw:k+wt tFsResult_ (x_0,(x_1_0,x_1_1,()),())≤4611686018427387904) (hz:wt tFsResult_ (x_0,(x_1_0,x_1_1,()),())≤2147483648):∃ k2 y0 y1,k≤k2∧k2≤k+wt tFsResult_ (x_0,(x_1_0,x_1_1,()),())∧Zq202 (x_0,(x_1_0,x_1_1,()),()) k=some (k2,(x_0,(y0,y1,()),()))∧Zq214 (x_0,(y0,y1,()),()) k=some k2:=by
 simp only[wt_sl,wt_pair,wt_int,wt_bool,wt_str,wt_unit] at hw hz
 obtain⟨k0,y0,l0,u0,w0,v0⟩:=Zq246 x_1_0 k (by omega) (by simp only[wt_sl,wt_pair,wt_int,wt_bool,wt_str,wt_unit];omega) (by simp only[wt_sl,wt_pair,wt_int,wt_bool,wt_str,wt_unit];omega)
 simp only[wt_sl,wt_pair,wt_int,wt_bool,wt_str,wt_unit] at u0
 obtain⟨k1,y1,l1,u1,w1,v1⟩:=Zq248 x_1_1 k0 (by omega) (by simp only[wt_sl,wt_pair,wt_int,wt_bool,wt_str,wt_unit];omega) (by simp only[wt_sl,wt_pair,wt_int,wt_bool,wt_str,wt_unit];omega)
 simp only[wt_sl,wt_pair,wt_int,wt_bool,wt_str,wt_unit] at u1
 refine⟨k1,y0,y1,by omega,by simp only[wt_sl,wt_pair,wt_int,wt_bool,wt_str,wt_unit];omega,?_,?_⟩
 ·simp only[Zq202,Zq201,w0,w1,Option.bind_some,peta]
 ·simp only[Zq214,Zq213,v0,v1,Option.bind_some,cond_ff,neg_dec (by omega:0≤k0),neg_dec (by omega:0≤k1)]
def inR (v lo hi:Int):Bool:=cond (decide (v≥lo)) (decide (v≤hi)) false
theorem inR_iff {v lo hi:Int}:inR v lo hi=true↔lo≤v∧v≤hi:=by
 unfold inR;by_cases h:v≥lo<;>simp[h]<;>omega
theorem Zq251 (v lo hi:Int):Zq15 v lo hi=some (inR v lo hi):=rfl
theorem Zq252 (v lo hi:Int):Zq81 v lo hi=some (inR v lo hi):=rfl
def wordsF (w:List Int):Int:=cond (decide ((w.length:Int)>64)) 2 (cond (w.any fun x=>!inR x 0 65535) 3 0)
theorem Zq253 (w:List Int):Zq17 w=some (wordsF w):=by
 simp only[Zq17,wordsF]
 by_cases hl:w.length≤64
 ·have h:Zq16 w 0=_:=loop_any w (fun x=>!inR x 0 65535) (3:Int) (fun i hi=>by
   simp only[Zq16.B,lt_dec hi,inB_lt hi,cond_tt,toNat_cast,getD_lt _ hi,Zq251,Option.bind_some,w64_succ (by omega:i<4294967296)]) (by
   simp only[Zq16.B,ge_dec (Nat.le_refl _),cond_ff])
  rw[h,show decide ((w.length:Int)>64)=false by simp;omega]
  cases w.any fun x=>!inR x 0 65535<;>rfl
 ·rw[show decide ((w.length:Int)>64)=true by simp;omega];rfl
theorem Zq254 (w:List Int) (hl:w.length≤2147483648):Zq83 w () (w.length:Int) 0=some (match idxF (fun x=>!inR x 0 65535) 0 w with | some j=>.inl (j:Int) | none=>.inr ()):=
 loop_idx w (f:=fun s=>Zq83.B w () (w.length:Int) s) (fun x=>!inR x 0 65535) (fun i hi=>by
  simp only[Zq83.B,lt_dec hi,inB_lt hi,cond_tt,toNat_cast,getD_lt _ hi,Zq82,Zq252,Option.bind_some,w64_succ (by omega:i<4294967296)]) (by
  simp only[Zq83.B,ge_dec (Nat.le_refl _),cond_ff]) 0 (Nat.zero_le _)
theorem idx_contains {α:Type} (p:α→Bool) (l:List α):((some (match idxF p 0 l with | some j=>.inl (j:Int) | none=>.inr ():Int⊕Unit)).bind fun o=>sel o (fun b=>some b) (fun c=>some (-1))).bind (fun r=>some (decide (r≥0)))=some (l.any p):=by
 cases h:idxF p 0 l with
 |none=>rw[idxF_none.1 h];rfl
 |some j=>
  have:l.any p=true:=by
   cases ha:l.any p with
   |true=>rfl
   |false=>rw[idxF_none.2 ha] at h;cases h
  rw[this]
  simp[sel]
theorem Zq255 (w:List Int):Zq86 w=some (wordsF w):=by
 simp only[Zq86,wordsF,Zq85,Zq84]
 by_cases hl:w.length≤64
 ·rw[show decide ((w.length:Int)>64)=false by simp;omega,Zq254 w (by omega),idx_contains]
  simp only[cond_ff,Option.bind_some]
  cases w.any fun x=>!inR x 0 65535<;>rfl
 ·rw[show decide ((w.length:Int)>64)=true by simp;omega];rfl
theorem wordsF_ok {w:List Int} (h:wordsF w=0):w.length≤64∧∀ x∈w,0≤x∧x≤65535:=by
 unfold wordsF at h
 cases h1:decide ((w.length:Int)>64) with
 |true=>rw[h1] at h;cases h
 |false=>
  rw[h1] at h
  cases h2:(w.any fun x=>!inR x 0 65535) with
  |true=>rw[h2] at h;cases h
  |false=>
   refine⟨by simp at h1;omega,fun x hx=>?_⟩
   have:=List.any_eq_false.1 h2 x hx
   simp only[Bool.not_eq_true,Bool.not_eq_false'] at this
   exact inR_iff.1 (by simpa using this)
theorem sel_first (n:Int) (g:Option Int):((some (cond (n != 0) (.inl n) (.inr ()):Int⊕Unit)).bind fun o=>sel o (fun b=>some b) (fun _=>g))=cond (n != 0) (some n) g:=by
 cases (n != 0)<;>rfl
theorem first_zero (n:Int):cond (n != 0) (some n) (some 0)=some n:=by
 cases h:(n != 0)
 ·have:n=0:=by simpa using h
  rw[this];rfl
 ·rfl
theorem cloneP_ok {α:Type} {xs:List α} (h:xs.length≤2147483648):cloneP xs=some xs:=by
 unfold cloneP;rw[show decide (xs.length≤2147483648)=true by simp;omega];rfl
theorem dlen {n:Nat} (h:n≤2147483648):decide (n≤2147483648)=true:=by simp;omega
def badL (b:UInt8):Bool:=cond (decide ((b.toNat:Int)<97)) true (decide ((b.toNat:Int)>122))
def nameF (s:List UInt8):Int:=cond (s.any badL) 5 (cond (s == []) 5 (cond (decide ((s.length:Int)>4)) 2 0))
theorem Zq256 (s:List UInt8) (hl:s.length≤2147483648):Zq34 s=some (nameF s):=by
 have h:Zq33 s 0=_:=loop_any s badL (5:Int) (fun i hi=>by
  simp only[Zq33.B,lt_dec hi,inB_lt hi,cond_tt,toNat_cast,getD_lt _ hi,Option.bind_some,w64_succ (by omega:i<4294967296),badL,cond_same]) (by
  simp only[Zq33.B,ge_dec (Nat.le_refl _),cond_ff])
 simp only[Zq34,h,Option.bind_some,nameF]
 cases s.any badL
 ·simp only[cond_ff,sel_inr,some_cond]
 ·rfl
theorem Zq257 (s:List UInt8) (hl:s.length≤2147483648):Zq110 s=some (nameF s):=by
 have h:Zq109 s (s.length:Int) 0=_:=loop_any s badL (5:Int) (fun i hi=>by
  simp only[Zq109.B,lt_dec hi,inB_lt hi,cond_tt,toNat_cast,getD_lt _ hi,Option.bind_some,w64_succ (by omega:i<4294967296),badL,cond_same]) (by
  simp only[Zq109.B,ge_dec (Nat.le_refl _),cond_ff])
 simp only[Zq110,h,Option.bind_some,nameF]
 cases s with
 |nil=>rfl
 |cons b s=>
  rw[show((b::s:List UInt8) == [])=false from rfl]
  simp only[cond_ff]
  cases (b::s).any badL
  ·simp only[cond_ff,sel_inr,some_cond]
  ·rfl
theorem nameF_ok {s:List UInt8} (h:nameF s=0):s≠[]∧s.length≤4∧s.any badL=false:=by
 unfold nameF at h
 cases h1:s.any badL with
 |true=>rw[h1] at h;cases h
 |false=>
  rw[h1] at h
  cases h2:(s == []) with
  |true=>rw[h2] at h;cases h
  |false=>
   rw[h2] at h
   cases h3:decide ((s.length:Int)>4) with
   |true=>rw[h3] at h;cases h
   |false=>exact⟨(by intro e;subst e;cases h2),(by simp at h3;omega),rfl⟩
def dupF:List Int→List Int→Bool
 |_,[]=>false
 |a,x::l=>a.contains x || dupF (a++[x]) l
theorem idx_contains' {α:Type} (p:α→Bool) (l:List α) {o:Option (Int⊕Unit)} (h:o=some (match idxF p 0 l with | some j=>.inl (j:Int) | none=>.inr ())):(o.bind fun o=>sel o (fun b=>some b) (fun c=>some (-1))).bind (fun r=>some (decide (r≥0)))=some (l.any p):=by
 rw[h];exact idx_contains p l
theorem Zq258 (l:List Int) (v:Int) (hl:l.length≤2147483648):Zq106 l v=some (l.contains v):=by
 have h:Zq104 l v (l.length:Int) 0=_:=loop_idx l (fun x=>v == x) (fun i hi=>by
  simp only[Zq104.B,lt_dec hi,inB_lt hi,cond_tt,toNat_cast,getD_lt _ hi,Option.bind_some,w64_succ (by omega:i<4294967296)]) (by
  simp only[Zq104.B,ge_dec (Nat.le_refl _),cond_ff]) 0 (Nat.zero_le _)
 simp only[Zq106,Zq105]
 rw[idx_contains' _ _ h,List.any_beq,List.drop_zero]
theorem Zq259 (l:List Int) (v:Int) (hl:l.length≤2147483648):Zq71 l v=some (l.contains v):=by
 have h:Zq70 l v 0=_:=loop_any l (fun x=>x == v) true (fun i hi=>by
  simp only[Zq70.B,lt_dec hi,inB_lt hi,cond_tt,toNat_cast,getD_lt _ hi,Option.bind_some,w64_succ (by omega:i<4294967296)]) (by
  simp only[Zq70.B,ge_dec (Nat.le_refl _),cond_ff])
 simp only[Zq71,h,Option.bind_some]
 rw[←List.any_beq,show(fun x:Int=>x == v)=fun x=>v == x from funext fun x=>Bool.beq_comm]
 cases l.any fun x=>v == x<;>rfl
def forF (n:Int):Int:=w64 ((w64 ((w64 (n+8))-1)).tdiv 8)
def fileF (x:Inode_):Int:=cond (!inR x.2.1 1 60) 3 (cond (!inR x.2.2.1 0 32) 3 (cond ((x.2.2.2.1.length:Int) != forF x.2.2.1) 1 (cond (x.2.2.2.1.any fun b=>!inR b 0 19) 3 (cond (dupF [] x.2.2.2.1) 7 0))))
theorem Zq260 (x:Inode_) (hl:x.2.2.2.1.length≤2147483648) (n:Nat) (hn:n<x.2.2.2.1.length):Zq30 x (n:Int) 0=some (cond ((x.2.2.2.1.take n).contains x.2.2.2.1[n]) (.inl 7) (.inr ())):=by
 have h:Zq30 x (n:Int) 0=_:=loop_any (x.2.2.2.1.take n) (fun y=>y == x.2.2.2.1[n]) (7:Int) (fun i hi=>by
  have hi':i<n:=by simp at hi;omega
  simp only[Zq30.B,lt_dec hi',inB_lt (by omega:i<x.2.2.2.1.length),inB_lt hn,cond_tt,toNat_cast,getD_lt _ (by omega:i<x.2.2.2.1.length),getD_lt _ hn,Option.bind_some,w64_succ (by omega:i<4294967296),List.getElem_take]) (by
  have:(x.2.2.2.1.take n).length=n:=by simp;omega
  rw[this]
  simp only[Zq30.B,ge_dec (Nat.le_refl _),cond_ff])
 rw[h,←List.any_beq,show(fun y:Int=>y == x.2.2.2.1[n])=fun y=>x.2.2.2.1[n] == y from funext fun y=>Bool.beq_comm]
theorem dup_foldE (l:List Int):∀ (k n:Nat),n+k=l.length→foldE (τ:=Unit) (fun i y _=>cond ((l.take i).contains y) (.inr (.inl 7)) (.inl ())) (fun _=>(.inr ():Int⊕Unit)) n (l.drop n) ()=cond (dupF (l.take n) (l.drop n)) (.inl 7) (.inr ())
 |0,n,h=>by
  have:n=l.length:=by omega
  subst this
  simp[foldE,dupF]
 |k+1,n,h=>by
  have hn:n<l.length:=by omega
  rw[List.drop_eq_getElem_cons hn]
  simp only[foldE,dupF]
  have e:l.take n++[l[n]]=l.take (n+1):=by simp
  rw[e]
  cases (l.take n).contains l[n]
  ·simp only[cond_ff,sel_inl,Bool.false_or];exact dup_foldE l k (n+1) (by omega)
  ·rfl
theorem Zq261 (x:Inode_) (hl:x.2.2.2.1.length≤2147483648):Zq32 x=some (fileF x):=by
 have h0:Zq29 x 0=_:=loop_any x.2.2.2.1 (fun b=>!inR b 0 19) (3:Int) (fun i hi=>by
  simp only[Zq29.B,lt_dec hi,inB_lt hi,cond_tt,toNat_cast,getD_lt _ hi,Zq251,Option.bind_some,w64_succ (by omega:i<4294967296)]) (by
  simp only[Zq29.B,ge_dec (Nat.le_refl _),cond_ff])
 have h1:Zq31 x 0=some (cond (dupF [] x.2.2.2.1) (.inl 7) (.inr ())):=by
  have:=loop_list0 (τ:=Unit) x.2.2.2.1 (f:=fun s=>Zq31.B x s) (fun i _=>(i:Int)) (fun i y _=>cond ((x.2.2.2.1.take i).contains y) (.inr (.inl 7)) (.inl ())) (fun _=>(.inr ():Int⊕Unit)) (fun i hi t=>by
   simp only[Zq31.B,lt_dec hi,cond_tt,Zq260 x hl i hi,Option.bind_some,w64_succ (by omega:i<4294967296)]
   cases (x.2.2.2.1.take i).contains x.2.2.2.1[i]<;>rfl) (fun t=>by
   simp only[Zq31.B,ge_dec (Nat.le_refl _),cond_ff]) () (s:=0) rfl
  refine Eq.trans this ?_
  congr 1
  exact dup_foldE x.2.2.2.1 x.2.2.2.1.length 0 (by omega)
 have h8:(!((8:Int) == 0))=true:=rfl
 simp only[Zq32,Zq27,Zq28,Zq251,Option.bind_some,h8,cond_tt,h0,h1,fileF,forF,some_cond]
 cases inR x.2.1 1 60
 ·rfl
 ·cases inR x.2.2.1 0 32
  ·rfl
  ·simp only[Bool.not_true,cond_ff]
   cases ((x.2.2.2.1.length:Int) != w64 ((w64 ((w64 (x.2.2.1+8))-1)).tdiv 8))
   ·simp only[cond_ff]
    cases x.2.2.2.1.any fun b=>!inR b 0 19
    ·simp only[cond_ff,sel_inr]
     cases dupF [] x.2.2.2.1<;>rfl
    ·rfl
   ·rfl
theorem Zq262 (x:Inode_) (hl:x.2.2.2.1.length≤2147483648):Zq108 x=some (fileF x):=by
 have h0:Zq103 x.2.2.2.1 ()=some (x.2.2.2.1.any fun b=>!inR b 0 19):=by
  have h:Zq101 x.2.2.2.1 () (x.2.2.2.1.length:Int) 0=_:=loop_idx x.2.2.2.1 (fun b=>!inR b 0 19) (fun i hi=>by
   simp only[Zq101.B,lt_dec hi,inB_lt hi,cond_tt,toNat_cast,getD_lt _ hi,Zq100,Zq252,Option.bind_some,w64_succ (by omega:i<4294967296)]) (by
   simp only[Zq101.B,ge_dec (Nat.le_refl _),cond_ff]) 0 (Nat.zero_le _)
  simp only[Zq103,Zq102]
  exact idx_contains' _ _ h
 have h1:Zq107 x x.2.2.2.1 (x.2.2.2.1.length:Int) 0=some (cond (dupF [] x.2.2.2.1) (.inl 7) (.inr ())):=by
  have:=loop_list0 (τ:=Unit) x.2.2.2.1 (f:=fun s=>Zq107.B x x.2.2.2.1 (x.2.2.2.1.length:Int) s) (fun i _=>(i:Int)) (fun i y _=>cond ((x.2.2.2.1.take i).contains y) (.inr (.inl 7)) (.inl ())) (fun _=>(.inr ():Int⊕Unit)) (fun i hi t=>by
   have e1:(decide ((0:Int)≤(i:Int))&&decide ((i:Int)≤(x.2.2.2.1.length:Int)))=true:=by simp;omega
   have e2:=Zq258 (x.2.2.2.1.take i) x.2.2.2.1[i] (by simp;omega)
   simp only[Zq107.B,lt_dec hi,inB_lt hi,cond_tt,toNat_cast,getD_lt _ hi,e1,List.drop_zero,e2,Option.bind_some,w64_succ (by omega:i<4294967296)]
   cases (x.2.2.2.1.take i).contains x.2.2.2.1[i]<;>rfl) (fun t=>by
   simp only[Zq107.B,ge_dec (Nat.le_refl _),cond_ff]) () (s:=0) rfl
  refine Eq.trans this ?_
  congr 1
  exact dup_foldE x.2.2.2.1 x.2.2.2.1.length 0 (by omega)
 have h8:(!((8:Int) == 0))=true:=rfl
 simp only[Zq108,Zq99,Zq95,Zq252,Option.bind_some,h8,cond_tt,h0,h1,fileF,forF,some_cond]
 cases inR x.2.1 1 60
 ·rfl
 ·cases inR x.2.2.1 0 32
  ·rfl
  ·simp only[Bool.not_true,cond_ff]
   cases ((x.2.2.2.1.length:Int) != w64 ((w64 ((w64 (x.2.2.1+8))-1)).tdiv 8))
   ·simp only[cond_ff]
    cases x.2.2.2.1.any fun b=>!inR b 0 19
    ·simp only[cond_ff]
     cases dupF [] x.2.2.2.1<;>rfl
    ·rfl
   ·rfl
def entF (prev:Option (List UInt8)) (e:Entry_):Int:=
 cond (nameF e.1 != 0) (nameF e.1) (cond (!inR e.2.1 0 9) 3 (match prev with | none=>0 | some p=>cond (leB p e.1) 0 1))
def entsF:Option (List UInt8)→List Entry_→Int
 |_,[]=>0
 |p,e::l=>cond (entF p e != 0) (entF p e) (entsF (some e.1) l)
def dirF (x:Inode_):Int:=cond (decide ((x.2.2.2.2.1.length:Int)>6)) 2 (entsF none x.2.2.2.2.1)
theorem leB_neg:∀ (a b:List UInt8),(leB a b || a == b) = !leB b a
 |[],[]=>rfl
 |[],_::_=>rfl
 |_::_,[]=>by simp[leB]
 |x::a,y::b=>by
  have ih:=leB_neg a b
  simp only[leB]
  by_cases e:x=y
  ·subst e
   have h:¬ x<x:=UInt8.lt_irrefl x
   simp only[h,decide_false,Bool.false_or,beq_self_eq_true,Bool.true_and]
   rw[←ih,show(x::a == x::b)=(a == b) by simp]
  ·have e':¬ y=x:=fun h=>e h.symm
   rw[show(x == y)=false by simp[e],show(y == x)=false by simp[e'],show(x::a == y::b)=false by simp[e]]
   simp only[Bool.false_and,Bool.or_false]
   by_cases h1:x<y
   ·have:¬ y<x:=fun h=>absurd (UInt8.lt_trans h1 h) (UInt8.lt_irrefl x)
    simp[h1,this]
   ·have:y<x:=by
     rw[UInt8.lt_iff_toNat_lt] at *
     have:x.toNat≠y.toNat:=fun h=>e (UInt8.toNat_inj.1 h)
     omega
    simp[h1,this]
def prevF (l:List Entry_):Nat→Option (List UInt8)
 |0=>none
 |j+1=>(l[j]?).map (·.1)
theorem ents_loop (l:List Entry_):∀ (k n:Nat),n+k=l.length→foldE (τ:=Unit) (fun i e _=>cond (entF (prevF l i) e != 0) (.inr (.inl (entF (prevF l i) e))) (.inl ())) (fun _=>(.inr ():Int⊕Unit)) n (l.drop n) () =
  cond (entsF (prevF l n) (l.drop n) != 0) (.inl (entsF (prevF l n) (l.drop n))) (.inr ())
 |0,n,h=>by
  have:n=l.length:=by omega
  subst this
  simp[foldE,entsF]
 |k+1,n,h=>by
  have hn:n<l.length:=by omega
  have hp:prevF l (n+1)=some l[n].1:=by simp[prevF,hn]
  have ih:=ents_loop l k (n+1) (by omega)
  rw[hp] at ih
  rw[List.drop_eq_getElem_cons hn]
  simp only[foldE,entsF]
  generalize prevF l n=p
  cases hc:(entF p l[n] != 0)
  ·simp only[cond_ff,sel_inl];exact ih
  ·simp only[cond_tt,sel_inr,hc]
theorem Zq263 (x:Inode_) (hb:Bd tInode_ x):Zq36 x=some (dirF x):=by
 simp only[Zq36,dirF]
 cases hd:decide ((x.2.2.2.2.1.length:Int)>6) with
 |true=>rfl
 |false=>
  have hl:x.2.2.2.2.1.length≤6:=by simp at hd;omega
  have h:Zq35 x 0=some (cond (entsF none x.2.2.2.2.1 != 0) (.inl (entsF none x.2.2.2.2.1)) (.inr ())):=by
   have:=loop_list0 (τ:=Unit) x.2.2.2.2.1 (f:=fun s=>Zq35.B x s) (fun i _=>(i:Int)) (fun i e _=>cond (entF (prevF x.2.2.2.2.1 i) e != 0) (.inr (.inl (entF (prevF x.2.2.2.2.1 i) e))) (.inl ())) (fun _=>(.inr ():Int⊕Unit)) (fun i hi t=>by
    have hn:(x.2.2.2.2.1[i]).1.length≤2147483648:=(hb.2.2.2.2.1.2 _ (List.getElem_mem hi)).1
    simp only[Zq35.B,lt_dec hi,inB_lt hi,cond_tt,toNat_cast,getD_lt _ hi,Zq251,Zq256 _ hn,Option.bind_some,w64_succ (by omega:i<4294967296)]
    simp only[entF]
    cases hc:(nameF (x.2.2.2.2.1[i]).1 != 0)
    ·simp only[cond_ff]
     cases inR (x.2.2.2.2.1[i]).2.1 0 9
     ·rfl
     ·simp only[Bool.not_true,cond_ff]
      cases i with
      |zero=>rfl
      |succ j=>
       have hj:j<x.2.2.2.2.1.length:=by omega
       have hw:w64 (((j+1:Nat):Int)-1)=(j:Int):=by rw[w64_id (by omega) (by omega)];omega
       rw[show decide (((j+1:Nat):Int)>0)=true by simp]
       simp only[cond_tt,hw,inB_lt hj,toNat_cast,getD_lt _ hj,prevF,List.getElem?_eq_getElem hj,Option.map_some,leB_neg]
       cases leB (x.2.2.2.2.1[j]).1 (x.2.2.2.2.1[j+1]).1<;>rfl
    ·simp only[cond_tt,hc];rfl) (fun t=>by
    simp only[Zq35.B,ge_dec (Nat.le_refl _),cond_ff]) () (s:=0) rfl
   refine Eq.trans this ?_
   congr 1
   exact ents_loop x.2.2.2.2.1 x.2.2.2.2.1.length 0 (by omega)
  rw[h,cond_ff,cond_ff,sel_first,first_zero]
theorem Zq264 (x:Inode_) (hb:Bd tInode_ x):Zq112 x=some (dirF x):=by
 simp only[Zq112,dirF]
 cases hd:decide ((x.2.2.2.2.1.length:Int)>6) with
 |true=>rfl
 |false=>
  have hl:x.2.2.2.2.1.length≤6:=by simp at hd;omega
  have h:Zq111 x x.2.2.2.2.1 (x.2.2.2.2.1.length:Int) 0=some (cond (entsF none x.2.2.2.2.1 != 0) (.inl (entsF none x.2.2.2.2.1)) (.inr ())):=by
   have:=loop_list0 (τ:=Unit) x.2.2.2.2.1 (f:=fun s=>Zq111.B x x.2.2.2.2.1 (x.2.2.2.2.1.length:Int) s) (fun i _=>(i:Int)) (fun i e _=>cond (entF (prevF x.2.2.2.2.1 i) e != 0) (.inr (.inl (entF (prevF x.2.2.2.2.1 i) e))) (.inl ())) (fun _=>(.inr ():Int⊕Unit)) (fun i hi t=>by
    have hn:(x.2.2.2.2.1[i]).1.length≤2147483648:=(hb.2.2.2.2.1.2 _ (List.getElem_mem hi)).1
    simp only[Zq111.B,lt_dec hi,inB_lt hi,cond_tt,toNat_cast,getD_lt _ hi,Zq252,Zq257 _ hn,Option.bind_some,w64_succ (by omega:i<4294967296)]
    simp only[entF]
    cases hc:(nameF (x.2.2.2.2.1[i]).1 != 0)
    ·simp only[cond_ff]
     cases inR (x.2.2.2.2.1[i]).2.1 0 9
     ·rfl
     ·simp only[Bool.not_true,cond_ff]
      cases i with
      |zero=>rfl
      |succ j=>
       have hj:j<x.2.2.2.2.1.length:=by omega
       have hw:w64 (((j+1:Nat):Int)-1)=(j:Int):=by rw[w64_id (by omega) (by omega)];omega
       rw[show decide (((j+1:Nat):Int)>0)=true by simp]
       simp only[cond_tt,hw,inB_lt hj,toNat_cast,getD_lt _ hj,prevF,List.getElem?_eq_getElem hj,Option.map_some]
       cases leB (x.2.2.2.2.1[j]).1 (x.2.2.2.2.1[j+1]).1<;>rfl
    ·simp only[cond_tt,hc];rfl) (fun t=>by
    simp only[Zq111.B,ge_dec (Nat.le_refl _),cond_ff]) () (s:=0) rfl
   refine Eq.trans this ?_
   congr 1
   exact ents_loop x.2.2.2.2.1 x.2.2.2.2.1.length 0 (by omega)
  rw[h,cond_ff,cond_ff,sel_first,first_zero]
def inodeF (x:Inode_):Int:=
 cond (!inR x.1 0 2) 1 (cond (cond (cond (x.1 != 1) (cond (cond (x.2.1 != 0) true (x.2.2.1 != 0)) true (decide ((x.2.2.2.1.length:Int)>0))) false) true (cond (x.1 != 2) (decide ((x.2.2.2.2.1.length:Int)>0)) false)) 1
  (cond (x.1 == 1) (fileF x) (cond (x.1 == 2) (dirF x) 0)))
theorem Zq265 (x:Inode_) (hb:Bd tInode_ x):Zq37 x=some (inodeF x):=by
 simp only[Zq37,inodeF,Zq251,Zq261 x hb.2.2.2.1.1,Zq263 x hb,Option.bind_some]
 simp only[some_cond]
theorem len_pos (n:Nat):decide ((n:Int)>0) = !((n:Int) == 0):=by
 rw[Bool.eq_iff_iff]
 simp only[decide_eq_true_eq,Bool.not_eq_true',beq_eq_false_iff_ne,ne_eq]
 omega
theorem not_bne (a b:Int):(a == b) = !(a != b):=(Bool.not_not _).symm
theorem Zq266 (x:Inode_) (hb:Bd tInode_ x):Zq113 x=some (inodeF x):=by
 simp only[Zq113,inodeF,Zq252,Zq262 x hb.2.2.2.1.1,Zq264 x hb,Option.bind_some]
 cases inR x.1 0 2
 ·rfl
 ·simp only[Bool.not_true,cond_ff]
  have e1:(cond (cond (x.2.1 == 0) (x.2.2.1 == 0) false) ((x.2.2.2.1.length:Int) == 0) false) = !(cond (cond (x.2.1 != 0) true (x.2.2.1 != 0)) true (decide ((x.2.2.2.1.length:Int)>0))):=by
   rw[show(x.2.1 != 0) = !(x.2.1 == 0) from rfl,show(x.2.2.1 != 0) = !(x.2.2.1 == 0) from rfl,len_pos]
   cases (x.2.1 == 0)<;>cases (x.2.2.1 == 0)<;>cases ((x.2.2.2.1.length:Int) == 0)<;>rfl
  have e2:(!((x.2.2.2.2.1.length:Int) == 0))=decide ((x.2.2.2.2.1.length:Int)>0):=(len_pos _).symm
  rw[e1,e2,Bool.not_not]
  cases (cond (cond (x.2.1 != 0) true (x.2.2.1 != 0)) true (decide ((x.2.2.2.1.length:Int)>0)))<;>cases h1:(x.1 != 1)<;>cases h2:(x.1 != 2)<;>cases hd:decide ((x.2.2.2.2.1.length:Int)>0)<;>simp only[cond_tt,cond_ff]
  all_goals (rw[not_bne x.1 1,not_bne x.1 2,h1,h2])
  all_goals simp only[Bool.not_true,Bool.not_false,cond_tt,cond_ff]
  all_goals first | rfl | skip
  all_goals (
   have hz:x.2.2.2.2.1=[]:=by simp at hd;exact hd
   have:dirF x=0:=by simp[dirF,hz,entsF]
   rw[this])
def inodesF (l:List Inode_):Int:=cond (decide ((l.length:Int)>10)) 2 (firstC inodeF l)
theorem Zq267 (l:List Inode_) (hb:Bd (.sl tInode_) l):Zq47 l=some (inodesF l):=by
 simp only[Zq47,inodesF]
 cases hd:decide ((l.length:Int)>10) with
 |true=>rfl
 |false=>
  have hl:l.length≤10:=by simp at hd;omega
  have h:Zq46 l 0=_:=loop_first l inodeF (fun i hi=>by
   simp only[Zq46.B,lt_dec hi,inB_lt hi,cond_tt,toNat_cast,getD_lt _ hi,Zq265 _ (hb.2 _ (List.getElem_mem hi)),Option.bind_some,w64_succ (by omega:i<4294967296)]) (by
   simp only[Zq46.B,ge_dec (Nat.le_refl _),cond_ff])
  rw[h,cond_ff,cond_ff,sel_first,first_zero]
theorem Zq268 (l:List Inode_) (hb:Bd (.sl tInode_) l):Zq122 l=some (inodesF l):=by
 simp only[Zq122,inodesF]
 cases hd:decide ((l.length:Int)>10) with
 |true=>rfl
 |false=>
  have hl:l.length≤10:=by simp at hd;omega
  have h:Zq121 l (l.length:Int) 0=_:=loop_first l inodeF (fun i hi=>by
   simp only[Zq121.B,lt_dec hi,inB_lt hi,cond_tt,toNat_cast,getD_lt _ hi,Zq266 _ (hb.2 _ (List.getElem_mem hi)),Option.bind_some,w64_succ (by omega:i<4294967296)]) (by
   simp only[Zq121.B,ge_dec (Nat.le_refl _),cond_ff])
  rw[h,cond_ff,cond_ff,sel_first,first_zero]
def allB (l:List Inode_):List Int:=l.flatMap fun x=>x.2.2.2.1
theorem inodeF_file {x:Inode_} (h:inodeF x=0):x.2.2.2.1.length≤4∧(∀ b∈x.2.2.2.1,0≤b∧b≤19)∧(x.1≠1→x.2.2.2.1=[])∧(x.1=1→fileF x=0):=by
 unfold inodeF at h
 cases h1:inR x.1 0 2 with
 |false=>rw[h1] at h;cases h
 |true=>
  rw[h1] at h
  simp only[Bool.not_true,cond_ff] at h
  by_cases e:x.1=1
  ·rw[show(x.1 != 1)=false by simp[e]] at h
   cases h2:cond (cond false (cond (cond (x.2.1 != 0) true (x.2.2.1 != 0)) true (decide ((x.2.2.2.1.length:Int)>0))) false) true (cond (x.1 != 2) (decide ((x.2.2.2.2.1.length:Int)>0)) false) with
   |true=>rw[h2] at h;cases h
   |false=>
    rw[h2,show(x.1 == 1)=true by simp[e]] at h
    simp only[cond_ff,cond_tt] at h
    have hf:=h
    unfold fileF at h
    cases h3:inR x.2.1 1 60 with
    |false=>rw[h3] at h;cases h
    |true=>
     rw[h3] at h
     cases h4:inR x.2.2.1 0 32 with
     |false=>rw[h4] at h;cases h
     |true=>
      rw[h4] at h
      simp only[Bool.not_true,cond_ff] at h
      cases h5:((x.2.2.2.1.length:Int) != forF x.2.2.1) with
      |true=>rw[h5] at h;cases h
      |false=>
       rw[h5] at h
       simp only[cond_ff] at h
       cases h6:(x.2.2.2.1.any fun b=>!inR b 0 19) with
       |true=>rw[h6] at h;cases h
       |false=>
        refine⟨?_,fun b hb=>?_,fun h=>absurd e h,fun _=>hf⟩
        ·have hs:=inR_iff.1 h4
         have:(x.2.2.2.1.length:Int)=forF x.2.2.1:=by simpa using h5
         unfold forF at this
         rw[w64_id (x:=x.2.2.1+8) (by omega) (by omega),w64_id (x:=x.2.2.1+8-1) (by omega) (by omega),Int.tdiv_eq_ediv_of_nonneg (by omega),w64_id (by omega) (by omega)] at this
         omega
        ·have:=List.any_eq_false.1 h6 b hb
         exact inR_iff.1 (by simpa using this)
  ·rw[show(x.1 != 1)=true by simp[e]] at h
   cases h2:decide ((x.2.2.2.1.length:Int)>0) with
   |true=>
    rw[h2] at h
    simp only[cond_tt,cond_same] at h
    cases h
   |false=>
    have hz:x.2.2.2.1=[]:=by simp at h2;exact h2
    exact⟨by simp[hz],by simp[hz],fun _=>hz,fun h=>absurd h e⟩
theorem firstC_zero {α:Type} {c:α→Int}:∀ {l:List α},firstC c l=0↔∀ x∈l,c x=0
 |[]=>by simp[firstC]
 |x::l=>by
  simp only[firstC,List.mem_cons,forall_eq_or_imp]
  cases h:(c x != 0)
  ·have:c x=0:=by simpa using h
   simp only[cond_ff,this,true_and];exact firstC_zero
  ·have:c x≠0:=by simpa using h
   simp only[cond_tt];exact⟨fun e=>absurd e this,fun e=>absurd e.1 this⟩
theorem inodesF_ok {l:List Inode_} (h:inodesF l=0):l.length≤10∧∀ x∈l,inodeF x=0:=by
 unfold inodesF at h
 cases h1:decide ((l.length:Int)>10) with
 |true=>rw[h1] at h;cases h
 |false=>rw[h1] at h;exact⟨by simp at h1;omega,firstC_zero.1 h⟩
structure InOk (l:List Inode_):Prop where
 len:l.length≤10
 blk:∀ x∈l,x.2.2.2.1.length≤4∧∀ b∈x.2.2.2.1,0≤b∧b≤19
theorem InOk.of {l:List Inode_} (h:inodesF l=0):InOk l:=
 ⟨(inodesF_ok h).1,fun x hx=>⟨(inodeF_file ((inodesF_ok h).2 x hx)).1,(inodeF_file ((inodesF_ok h).2 x hx)).2.1⟩⟩
theorem allB_len:∀ {l:List Inode_},(∀ x∈l,x.2.2.2.1.length≤4)→(allB l).length≤4*l.length
 |[],h=>by simp[allB]
 |x::l,h=>by
  have h1:=h x (List.mem_cons_self ..)
  have:=allB_len (l:=l) fun y hy=>h y (List.mem_cons_of_mem _ hy)
  simp only[allB,List.flatMap_cons,List.length_append,List.length_cons] at *
  omega
theorem InOk.all {l:List Inode_} (h:InOk l):(allB l).length≤40∧∀ b∈allB l,0≤b∧b≤19:=by
 refine⟨by have:=allB_len (l:=l) fun x hx=>(h.blk x hx).1;have:=h.len;omega,fun b hb=>?_⟩
 obtain⟨x,hx,hb⟩:=List.mem_flatMap.1 hb
 exact(h.blk x hx).2 b hb
theorem Zq269 (l:List Inode_) (at_:Int) (i:Nat) (hi:i<l.length) (n:Nat) (hb:l[i].2.2.2.1.length≤4) (hn:n≤1000):Zq48 l at_ (i:Int) ((n:Int),0)=some (((n+l[i].2.2.2.1.count at_:Nat):Int)):=by
 have h:=loop_listI0 (τ:=Nat) l[i].2.2.2.1 (f:=fun s=>Zq48.B l at_ (i:Int) s.1 s.2) (fun k m=>((m:Int),(k:Int))) (fun _ y m=>.inl (m+(if y == at_ then 1 else 0))) (fun m=>((m:Nat):Int)) (fun k m=>m≤n+k)
  (fun k hk m hm=>by
   simp only[Zq48.B,inB_lt hi,cond_tt,toNat_cast,getD_lt _ hi,Option.bind_some,lt_dec hk,inB_lt hk,getD_lt _ hk,w64_succ (by omega:k<4294967296),w64_succ (by omega:m<4294967296),sel]
   cases h:(l[i].2.2.2.1[k] == at_)<;>simp[h])
  (fun k hk m m' hm e=>by cases e;split<;>omega)
  (fun m hm=>by
   simp only[Zq48.B,inB_lt hi,cond_tt,toNat_cast,getD_lt _ hi,Option.bind_some,ge_dec (Nat.le_refl _),cond_ff]) n (by omega) (s:=((n:Int),0)) rfl
 refine Eq.trans h ?_
 rw[foldE_fold]
 congr 2
 have:∀ (l:List Int) (m:Nat),l.foldl (fun t y=>t+(if y == at_ then 1 else 0)) m=m+l.count at_:=by
  intro l
  induction l with
  |nil=>intro m;simp
  |cons y l ih=>intro m;rw[List.foldl_cons,ih,List.count_cons];omega
 exact this _ _
theorem Zq270 (l:List Inode_) (hok:InOk l) (at_:Int):Zq50 l at_=some ((((allB l).count at_:Nat):Int)):=by
 have h:=loop_listI0 (τ:=Nat) l (f:=fun s=>Zq49.B l at_ s.1 s.2) (fun k m=>((m:Int),(k:Int))) (fun _ x m=>.inl (m+x.2.2.2.1.count at_)) (fun m=>((m:Nat):Int)) (fun k m=>m≤4*k)
  (fun k hk m hm=>by
   have hl:=hok.len
   simp only[Zq49.B,lt_dec hk,cond_tt,Zq269 l at_ k hk m (hok.blk _ (List.getElem_mem hk)).1 (by omega),Option.bind_some,w64_succ (by omega:k<4294967296),sel])
  (fun k hk m m' hm e=>by cases e;have:=(hok.blk _ (List.getElem_mem hk)).1;have:=List.count_le_length (a:=at_) (l:=l[k].2.2.2.1);omega)
  (fun m hm=>by simp only[Zq49.B,ge_dec (Nat.le_refl _),cond_ff]) 0 (by omega) (s:=(0,0)) rfl
 have h':Zq49 l at_ (0,0)=_:=h
 simp only[Zq50,h',Option.bind_some]
 rw[foldE_fold]
 have:∀ (l:List Inode_) (m:Nat),l.foldl (fun t x=>t+x.2.2.2.1.count at_) m=m+(allB l).count at_:=by
  intro l
  induction l with
  |nil=>intro m;simp[allB]
  |cons y l ih=>intro m;rw[List.foldl_cons,ih];simp only[allB,List.flatMap_cons,List.count_append];omega
 rw[this,Nat.zero_add]
def r20:List Int:=(List.range 20).map Int.ofNat
theorem r20_len:r20.length=20:=by simp[r20]
theorem r20_get (k:Nat) (h:k<r20.length):r20[k]=(k:Int):=by simp[r20]
theorem r20_mem (a:Int):a∈r20↔0≤a∧a≤19:=by
 simp only[r20,List.mem_map,List.mem_range]
 constructor
 ·rintro⟨k,h1,rfl⟩;simp;omega
 ·intro h;exact⟨a.toNat,by omega,by simp;omega⟩
def usedF (l:List Inode_):List Int:=r20.filter fun b=>(allB l).contains b
def onceF (l:List Inode_):Bool:=decide (allB l).Nodup
theorem Zq271 (l:List Inode_) (hok:InOk l):Zq52 l=some (usedF l,onceF l):=by
 have h:=loop_listI0 (τ:=Bool×List Int) r20 (f:=fun s=>Zq51.B l s.1 s.2.1 s.2.2) (fun k t=>(t.1,((k:Int),t.2))) (fun _ b t=>.inl (t.1&&decide ((allB l).count b≤1),cond ((allB l).contains b) (t.2++[b]) t.2)) (fun t=>t) (fun k t=>t.2.length≤k)
  (fun k hk t ht=>by
   have hk':k<20:=by rw[r20_len] at hk;exact hk
   rw[r20_get k hk]
   have h20:decide ((k:Int)<20)=true:=by simp;omega
   simp only[Zq51.B,h20,cond_tt,Zq270 l hok,Option.bind_some,w64_succ (by omega:k<4294967296),sel]
   have e1:decide ((((allB l).count (k:Int):Nat):Int)>0)=(allB l).contains (k:Int):=by
    rw[Bool.eq_iff_iff]
    simp only[decide_eq_true_eq,List.contains_iff_mem,←List.count_pos_iff]
    omega
   have e2:cond t.1 (decide ((((allB l).count (k:Int):Nat):Int)≤1)) false=(t.1&&decide ((allB l).count (k:Int)≤1)):=by
    cases t.1
    ·rfl
    ·simp only[cond_tt,Bool.true_and];rw[Bool.eq_iff_iff];simp;omega
   rw[e1,e2,dlen (by simp;omega)]
   cases (allB l).contains (k:Int)<;>rfl)
  (fun k hk t t' ht e=>by cases e;simp only;cases (allB l).contains _<;>simp<;>omega)
  (fun t ht=>by
   rw[r20_len];rfl) (true,[]) (by simp) (s:=(true,0,[])) rfl
 have h':Zq51 l (true,0,[])=_:=h
 simp only[Zq52,h',Option.bind_some]
 rw[foldE_fold]
 have hf:∀ (m:List Int) (t:Bool×List Int),m.foldl (fun t b=>(t.1&&decide ((allB l).count b≤1),cond ((allB l).contains b) (t.2++[b]) t.2)) t=(t.1&&m.all fun b=>decide ((allB l).count b≤1),t.2++m.filter fun b=>(allB l).contains b):=by
  intro m
  induction m with
  |nil=>intro t;simp
  |cons b m ih=>
   intro t
   rw[List.foldl_cons,ih,List.all_cons,List.filter_cons]
   cases (allB l).contains b<;>simp[Bool.and_assoc]
 rw[hf]
 simp only[Bool.true_and,List.nil_append]
 congr 2
 rw[Bool.eq_iff_iff]
 simp only[onceF,List.all_eq_true,decide_eq_true_eq,List.nodup_iff_count]
 constructor
 ·intro h a
  by_cases ha:a∈allB l
  ·have:=hok.all.2 a ha
   exact h a ((r20_mem a).2 this)
  ·rw[List.count_eq_zero.2 ha];omega
 ·intro h a _;exact h a
theorem compact_l1 (s0:List Int) (k0:Nat) (h0:0<k0) (h1:k0<s0.length) (hl:s0.length≤2147483648):∀ (m j k:Nat) (s:List Int),j+m=s0.length-k0→0<j→s.length=s0.length→k<k0+j→∃ (k':Nat) (s':List Int),Zq129 k0 (s0.length-k0) ((k:Int),(j:Int),s)=some ((k':Int),s')∧s'.length=s0.length∧k'<s0.length
 |0,j,k,s,hj,h2,h3,h4=>by
  refine⟨k,s,loopL_done ?_,h3,by omega⟩
  simp only[Zq129.B,show decide ((j:Int)<((s0.length-k0:Nat):Int))=false by simp;omega,cond_ff]
 |m+1,j,k,s,hj,h2,h3,h4=>by
  have hw:w64 ((j:Int)-1)=((j-1:Nat):Int):=by rw[w64_id (by omega) (by omega)];omega
  have hst:∃ k' s',Zq129.B k0 (s0.length-k0) (k:Int) (j:Int) s=some (.inl ((k':Nat),((j+1:Nat):Int),s'))∧s'.length=s0.length∧k'<k0+(j+1):=by
   simp only[Zq129.B,show decide ((j:Int)<((s0.length-k0:Nat):Int))=true by simp;omega,inB_lt (by omega:j<s0.length-k0),hw,inB_lt (by omega:j-1<s0.length-k0),inB_lt (by omega:k<s.length),cond_tt,Option.bind_some,toNat_cast,w64_succ (by omega:j<4294967296),w64_succ (by omega:k<4294967296)]
   cases (s.getD (k0+j) 0 != s.getD (k0+(j-1)) 0)
   ·exact⟨k,s,rfl,h3,by omega⟩
   ·exact⟨k+1,_,rfl,by simpa using h3,by omega⟩
  obtain⟨k1,s1,e1,e2,e3⟩:=hst
  obtain⟨k',s',q1,q2,q3⟩:=compact_l1 s0 k0 h0 h1 hl m (j+1) k1 s1 (by omega) (by omega) e2 (by omega)
  refine⟨k',s',?_,q2,q3⟩
  unfold Zq129
  rw[loopL_step (s':=((k1:Int),((j+1:Nat):Int),s1)) e1]
  exact q1
theorem compact_l0 (s:List Int) (hl:s.length≤2147483648):∀ (m n:Nat),n+m=s.length→0<n→
  (Zq130 s (n:Int)=some (.inr ())∧∀ i,n≤i→(h:i<s.length)→s[i]≠s[i-1])∨(∃ (k:Nat) (s':List Int),Zq130 s (n:Int)=some (.inl (0,k-0,s'))∧s'.length=s.length∧k<s.length∧∃ i,n≤i∧∃ h:i<s.length,s[i]=s[i-1])
 |0,n,hn,h0=>by
  have:n=s.length:=by omega
  subst this
  refine .inl ⟨loopL_done ?_,fun i h1 h2=>by omega⟩
  simp only[Zq130.B,ge_dec (Nat.le_refl _),cond_ff]
 |m+1,n,hn,h0=>by
  have hlt:n<s.length:=by omega
  have hw:w64 ((n:Int)-1)=((n-1:Nat):Int):=by rw[w64_id (by omega) (by omega)];omega
  by_cases he:s[n]=s[n-1]
  ·refine .inr ?_
   obtain⟨k',s',q1,q2,q3⟩:=compact_l1 s n h0 hlt hl (s.length-n-1) 1 n s (by omega) (by omega) rfl (by omega)
   refine⟨k',splice s' k' (List.replicate (s'.length-k') 0),loopL_done ?_,by simp[splice];omega,q3,n,Nat.le_refl _,hlt,he⟩
   have q1':Zq129 n (s.length-n) ((n:Int),1,s)=some ((k':Int),s'):=q1
   simp only[Zq130.B,lt_dec hlt,inB_lt hlt,hw,inB_lt (by omega:n-1<s.length),cond_tt,Option.bind_some,toNat_cast,getD_lt _ hlt,getD_lt _ (by omega:n-1<s.length),he,beq_self_eq_true,q1']
   rw[show(decide ((0:Int)≤(n:Int))&&decide ((n:Int)≤(s.length:Int)))=true by simp;omega,show(decide ((0:Int)≤(k':Int))&&decide ((k':Int)≤(s'.length:Int)))=true by simp;omega,
    show(decide ((0:Int)≤(k':Int))&&decide ((k':Int)≤((splice s' k' (List.replicate (s'.length-k') 0)).length:Int)))=true by simp[splice];omega]
   rfl
  ·have hst:Zq130.B s (n:Int)=some (.inl ((n+1:Nat):Int)):=by
    simp only[Zq130.B,lt_dec hlt,inB_lt hlt,hw,inB_lt (by omega:n-1<s.length),cond_tt,Option.bind_some,toNat_cast,getD_lt _ hlt,getD_lt _ (by omega:n-1<s.length),w64_succ (by omega:n<4294967296)]
    rw[show(s[n] == s[n-1])=false by simp[he]]
    rfl
   unfold Zq130
   rw[loopL_step (f:=fun s_1=>Zq130.B s s_1) hst]
   rcases compact_l0 s hl m (n+1) (by omega) (by omega) with ⟨q1,q2⟩ | ⟨k,s',q1,q2,q3,i,q4,q5,q6⟩
   ·refine .inl ⟨q1,fun i h1 h2=>?_⟩
    by_cases e:i=n
    ·subst e;exact he
    ·exact q2 i (by omega) h2
   ·exact .inr ⟨k,s',q1,q2,q3,i,by omega,q5,q6⟩
theorem compact_eq (s:List Int) (hl:s.length≤2147483648) (hs:s.Pairwise fun a b=>a≤b):∃ r,Zq131 s=some r∧((r.length:Int) == (s.length:Int))=decide s.Nodup:=by
 simp only[Zq131]
 by_cases h2:s.length<2
 ·rw[show decide ((s.length:Int)<2)=true by simp;omega]
  refine⟨s,rfl,?_⟩
  have:s.Nodup:=by
   match s,h2 with
   |[],_=>simp
   |[x],_=>simp
  simp[this]
 ·rw[show decide ((s.length:Int)<2)=false by simp;omega]
  simp only[cond_ff]
  have hle:∀ i j,(hij:i≤j)→(hj:j<s.length)→s[i]≤s[j]:=by
   intro i j hij hj
   rcases Nat.lt_or_eq_of_le hij with h | h
   ·exact List.pairwise_iff_getElem.1 hs i j _ hj h
   ·subst h;exact Int.le_refl _
  rcases compact_l0 s hl (s.length-1) 1 (by omega) (by omega) with ⟨q1,q2⟩ | ⟨k,s',q1,q2,q3,i,q4,q5,q6⟩
  ·have q1':Zq130 s 1=some (.inr ()):=q1
   rw[q1']
   refine⟨s,rfl,?_⟩
   have:s.Nodup:=by
    rw[List.Nodup,List.pairwise_iff_getElem]
    intro i j hi hj hij he
    have h1:=hle i (j-1) (by omega) (by omega)
    have h2:=hle (j-1) j (by omega) hj
    exact q2 j (by omega) hj (by omega)
   simp[this]
  ·have q1':Zq130 s 1=some (.inl (0,k-0,s')):=q1
   rw[q1']
   refine⟨_,rfl,?_⟩
   have:¬ s.Nodup:=by
    intro hn
    exact List.pairwise_iff_getElem.1 hn (i-1) i (by omega) q5 (by omega) q6.symm
   simp only[this,decide_false]
   have hlen:((List.drop 0 s').take (k-0)).length=k:=by simp;omega
   rw[hlen]
   simp;omega
def sortF (l:List Int):List Int:=l.mergeSort fun x y=>decide (x≤y)
theorem sortF_sorted (l:List Int):(sortF l).Pairwise fun a b=>a≤b:=by
 have:=List.pairwise_mergeSort (le:=fun x y:Int=>decide (x≤y)) (fun a b c h1 h2=>by simp at *;omega) (fun a b=>by simp;omega) l
 simpa [sortF] using this
theorem sortF_perm (l:List Int):(sortF l).Perm l:=List.mergeSort_perm _ _
theorem sortF_len (l:List Int):(sortF l).length=l.length:=(sortF_perm l).length_eq
theorem sortP_eq {l:List Int} (h:l.length≤2147483648):sortP l=some (sortF l):=by
 unfold sortP sortF;rw[dlen h];rfl
theorem Zq272 (l:List Inode_) (hok:InOk l):Zq133 l=some (sortF (allB l),onceF l):=by
 have hall:=hok.all
 have h:Zq132 l (l.length:Int) (0,[])=some (l.foldl (fun t x=>t++x.2.2.2.1) []):=
  loop_foldI l (f:=fun s=>Zq132.B l (l.length:Int) s.1 s.2) (fun t x=>t++x.2.2.2.1) id (fun i t=>t.length≤4*i) (fun i hi t ht=>by
   have h4:=(hok.blk _ (List.getElem_mem hi)).1
   have hl:=hok.len
   refine⟨?_,by simp;omega⟩
   simp only[Zq132.B,lt_dec hi,inB_lt hi,cond_tt,toNat_cast,getD_lt _ hi,Option.bind_some,w64_succ (by omega:i<4294967296)]
   rw[dlen (by simp;omega)];rfl) (fun t ht=>by
   simp only[Zq132.B,ge_dec (Nat.le_refl _),cond_ff,id]) [] (by simp)
 have h2:∀ (l:List Inode_) (t:List Int),l.foldl (fun t x=>t++x.2.2.2.1) t=t++allB l:=by
  intro l
  induction l with
  |nil=>intro t;simp[allB]
  |cons x l ih=>intro t;rw[List.foldl_cons,ih];simp[allB]
 rw[h2,List.nil_append] at h
 obtain⟨r,hr1,hr2⟩:=compact_eq (sortF (allB l)) (by rw[sortF_len];omega) (sortF_sorted _)
 simp only[Zq133,h,Option.bind_some,Zq128,sortP_eq (by omega:(allB l).length≤2147483648),Zq94,cloneP_ok (by rw[sortF_len];omega:(sortF (allB l)).length≤2147483648),hr1,hr2]
 congr 2
 rw[Bool.eq_iff_iff]
 simp only[onceF,decide_eq_true_eq]
 exact(sortF_perm _).nodup_iff
theorem entsF_ok:∀ {p:Option (List UInt8)} {l:List Entry_},entsF p l=0→∀ e∈l,nameF e.1=0∧0≤e.2.1∧e.2.1≤9
 |p,[],h,e,he=>by cases he
 |p,x::l,h,e,he=>by
  simp only[entsF] at h
  cases hc:(entF p x != 0) with
  |true=>
   rw[hc] at h
   have:entF p x≠0:=by simpa using hc
   exact absurd h this
  |false=>
   rw[hc] at h
   rcases List.mem_cons.1 he with rfl | he
   ·have h0:entF p e=0:=by simpa using hc
    unfold entF at h0
    cases h1:(nameF e.1 != 0) with
    |true=>rw[h1] at h0;exact absurd h0 (by simpa using h1)
    |false=>
     rw[h1] at h0
     cases h2:inR e.2.1 0 9 with
     |false=>rw[h2] at h0;cases h0
     |true=>exact⟨by simpa using h1,inR_iff.1 h2⟩
   ·exact entsF_ok h e he
theorem inodeF_dir {x:Inode_} (h:inodeF x=0):(0≤x.1∧x.1≤2)∧x.2.2.2.2.1.length≤6∧(x.1≠2→x.2.2.2.2.1=[])∧(x.1=2→dirF x=0)∧(x.1≠1→x.2.1=0∧x.2.2.1=0)∧∀ e∈x.2.2.2.2.1,nameF e.1=0∧0≤e.2.1∧e.2.1≤9:=by
 unfold inodeF at h
 cases h1:inR x.1 0 2 with
 |false=>rw[h1] at h;cases h
 |true=>
  rw[h1] at h
  simp only[Bool.not_true,cond_ff] at h
  have hk:=inR_iff.1 h1
  have hz:x.1≠1→x.2.1=0∧x.2.2.1=0:=by
   intro e
   rw[show(x.1 != 1)=true by simp[e]] at h
   cases h2:(x.2.1 != 0) with
   |true=>rw[h2] at h;cases h
   |false=>
    cases h3:(x.2.2.1 != 0) with
    |true=>rw[h2,h3] at h;cases h
    |false=>exact⟨by simpa using h2,by simpa using h3⟩
  cases h2:cond (cond (x.1 != 1) (cond (cond (x.2.1 != 0) true (x.2.2.1 != 0)) true (decide ((x.2.2.2.1.length:Int)>0))) false) true (cond (x.1 != 2) (decide ((x.2.2.2.2.1.length:Int)>0)) false) with
  |true=>rw[h2] at h;cases h
  |false=>
   rw[h2] at h
   by_cases e:x.1=2
   ·rw[show(x.1 == 1)=false by simp[e],show(x.1 == 2)=true by simp[e]] at h
    simp only[cond_ff,cond_tt] at h
    have hd:=h
    unfold dirF at h
    cases h3:decide ((x.2.2.2.2.1.length:Int)>6) with
    |true=>rw[h3] at h;cases h
    |false=>
     rw[h3] at h
     exact⟨hk,by simp at h3;omega,fun hh=>absurd e hh,fun _=>hd,hz,entsF_ok h⟩
   ·rw[show(x.1 != 2)=true by simp[e]] at h2
    have:x.2.2.2.2.1=[]:=by
     cases h3:decide ((x.2.2.2.2.1.length:Int)>0) with
     |true=>
      rw[h3] at h2
      exfalso
      revert h2
      generalize cond (x.1 != 1) (cond (cond (x.2.1 != 0) true (x.2.2.1 != 0)) true (decide ((x.2.2.2.1.length:Int)>0))) false=b
      cases b<;>intro h2<;>cases h2
     |false=>simp at h3;exact h3
    exact⟨hk,by simp[this],fun _=>this,fun hh=>absurd hh e,hz,by simp[this]⟩
def entBad (l:List Inode_) (e:Entry_):Bool:=cond (decide (e.2.1≥(l.length:Int))) true ((l.getD e.2.1.toNat zInode_).1 == 0)
def rootF (f:Fs_):Int:=cond (inodesF f.1 != 0) (inodesF f.1) (cond (cond (cond ((f.1.length:Int) == 0) true ((f.1.getD 0 zInode_).1 != 2)) true ((f.2.1.length:Int) != 20)) 1 0)
def treeF (f:Fs_):Int:=cond (rootF f != 0) (rootF f)
 (cond (f.2.1.any fun b=>decide ((b.length:Int)>8)) 2 (cond (!onceF f.1) 7 (cond (f.1.any fun x=>x.2.2.2.2.1.any (entBad f.1)) 4 0)))
structure EntOk (l:List Inode_):Prop where
 ent:∀ x∈l,x.2.2.2.2.1.length≤6∧∀ e∈x.2.2.2.2.1,0≤e.2.1∧e.2.1≤9
theorem EntOk.of {l:List Inode_} (h:inodesF l=0):EntOk l:=
 ⟨fun x hx=>⟨(inodeF_dir ((inodesF_ok h).2 x hx)).2.1,fun e he=>((inodeF_dir ((inodesF_ok h).2 x hx)).2.2.2.2.2 e he).2⟩⟩
theorem Zq273 (f:Fs_) (hok:InOk f.1) (hen:EntOk f.1) (n:Nat) (hn:n<f.1.length):Zq54 f (n:Int) 0=some (cond (f.1[n].2.2.2.2.1.any (entBad f.1)) (.inl 4) (.inr ())):=
 loop_any f.1[n].2.2.2.2.1 (f:=fun s=>Zq54.B f (n:Int) s) (entBad f.1) (4:Int) (fun i hi=>by
  have hx:=hen.ent _ (List.getElem_mem hn)
  have he:=hx.2 _ (List.getElem_mem hi)
  simp only[Zq54.B,inB_lt hn,cond_tt,toNat_cast,getD_lt _ hn,Option.bind_some,lt_dec hi,inB_lt hi,getD_lt _ hi,w64_succ (by omega:i<4294967296),entBad]
  by_cases hh:(f.1[n].2.2.2.2.1[i]).2.1≥(f.1.length:Int)
  ·rw[show decide ((f.1[n].2.2.2.2.1[i]).2.1≥(f.1.length:Int))=true by simp[hh]];rfl
  ·rw[show decide ((f.1[n].2.2.2.2.1[i]).2.1≥(f.1.length:Int))=false by simp;omega,show inB (f.1[n].2.2.2.2.1[i]).2.1 f.1.length=true from inB_ok he.1 (by omega)]
   rfl) (by
  simp only[Zq54.B,inB_lt hn,cond_tt,toNat_cast,getD_lt _ hn,Option.bind_some,ge_dec (Nat.le_refl _),cond_ff])
theorem Zq274 (f:Fs_) (hb:Bd tFs_ f):Zq56 f=some (treeF f):=by
 simp only[Zq56,treeF,rootF,Zq267 f.1 hb.1,Option.bind_some]
 cases hi:(inodesF f.1 != 0) with
 |true=>simp only[cond_tt,hi]
 |false=>
  have h0:inodesF f.1=0:=by simpa using hi
  have hok:=InOk.of h0
  have hen:=EntOk.of h0
  simp only[cond_ff]
  have e1:cond (!((f.1.length:Int) == 0)) (inB 0 f.1.length) true=true:=by
   cases hl:((f.1.length:Int) == 0) with
   |true=>rfl
   |false=>exact inB_lt (i:=0) (by have:(f.1.length:Int)≠0:=by simpa using hl
                                   omega)
  rw[e1]
  simp only[cond_tt,show(0:Int).toNat=0 from rfl]
  cases hr:cond (cond ((f.1.length:Int) == 0) true ((f.1.getD 0 zInode_).1 != 2)) true ((f.2.1.length:Int) != 20) with
  |true=>rfl
  |false=>
   have hd:f.2.1.length=20:=by
    cases h20:((f.2.1.length:Int) != 20) with
    |false=>have:(f.2.1.length:Int)=20:=by simpa using h20
            omega
    |true=>rw[h20] at hr;cases hh:(cond ((f.1.length:Int) == 0) true ((f.1.getD 0 zInode_).1 != 2))<;>rw[hh] at hr<;>cases hr
   have h1:Zq53 f 0=_:=loop_any f.2.1 (fun b=>decide ((b.length:Int)>8)) (2:Int) (fun i hi=>by
    simp only[Zq53.B,lt_dec hi,inB_lt hi,cond_tt,toNat_cast,getD_lt _ hi,Option.bind_some,w64_succ (by omega:i<4294967296)]) (by
    simp only[Zq53.B,ge_dec (Nat.le_refl _),cond_ff])
   have h2:Zq55 f 0=_:=loop_any f.1 (fun x=>x.2.2.2.2.1.any (entBad f.1)) (4:Int) (fun i hi=>by
    have hl:=hok.len
    simp only[Zq55.B,lt_dec hi,cond_tt,Zq273 f hok hen i hi,Option.bind_some,w64_succ (by omega:i<4294967296)]
    cases (f.1[i].2.2.2.2.1.any (entBad f.1))<;>rfl) (by
    simp only[Zq55.B,ge_dec (Nat.le_refl _),cond_ff])
   simp only[cond_ff,h1,h2,Option.bind_some,Zq271 f.1 hok]
   cases f.2.1.any fun b=>decide ((b.length:Int)>8)
   ·simp only[cond_ff,sel_inr]
    cases onceF f.1
    ·rfl
    ·simp only[Bool.not_true,cond_ff]
     cases f.1.any fun x=>x.2.2.2.2.1.any (entBad f.1)<;>rfl
   ·rfl
theorem Zq275 (f:Fs_) (hb:Bd tFs_ f):Zq123 f=some (rootF f):=by
 simp only[Zq123,rootF,Zq268 f.1 hb.1,Option.bind_some]
 cases hi:(inodesF f.1 != 0) with
 |true=>simp only[cond_tt]
 |false=>
  simp only[cond_ff]
  have e1:cond (!((f.1.length:Int) == 0)) (inB 0 f.1.length) true=true:=by
   cases hl:((f.1.length:Int) == 0) with
   |true=>rfl
   |false=>exact inB_lt (i:=0) (by have:(f.1.length:Int)≠0:=by simpa using hl
                                   omega)
  rw[e1]
  simp only[cond_tt,show(0:Int).toNat=0 from rfl,some_cond]
theorem rootF_ok {f:Fs_} (h:rootF f=0):inodesF f.1=0∧0<f.1.length∧(f.1.getD 0 zInode_).1=2∧f.2.1.length=20:=by
 unfold rootF at h
 cases hi:(inodesF f.1 != 0) with
 |true=>rw[hi] at h;exact absurd h (by simpa using hi)
 |false=>
  rw[hi] at h
  refine⟨by simpa using hi,?_⟩
  cases h1:((f.1.length:Int) == 0) with
  |true=>rw[h1] at h;cases h
  |false=>
   rw[h1] at h
   cases h2:((f.1.getD 0 zInode_).1 != 2) with
   |true=>rw[h2] at h;cases h
   |false=>
    rw[h2] at h
    cases h3:((f.2.1.length:Int) != 20) with
    |true=>rw[h3] at h;cases h
    |false=>
     have a1:(f.1.length:Int)≠0:=by simpa using h1
     have a3:(f.2.1.length:Int)=20:=by simpa using h3
     exact⟨by omega,by simpa using h2,by omega⟩
theorem Zq276 (f:Fs_) (hok:InOk f.1) (hen:EntOk f.1) (v2 v3:Int) (x:Inode_) (hx:x∈f.1):Zq135 f f.1 v2 v3 x.2.2.2.2.1 (x.2.2.2.2.1.length:Int) 0=some (cond (x.2.2.2.2.1.any (entBad f.1)) (.inl 4) (.inr ())):=
 loop_any x.2.2.2.2.1 (f:=fun s=>Zq135.B f f.1 v2 v3 x.2.2.2.2.1 (x.2.2.2.2.1.length:Int) s) (entBad f.1) (4:Int) (fun i hi=>by
  have hx:=hen.ent _ hx
  have he:=hx.2 _ (List.getElem_mem hi)
  simp only[Zq135.B,Zq134,cond_tt,toNat_cast,Option.bind_some,lt_dec hi,inB_lt hi,getD_lt _ hi,w64_succ (by omega:i<4294967296),entBad]
  by_cases hh:(x.2.2.2.2.1[i]).2.1≥(f.1.length:Int)
  ·rw[show decide ((x.2.2.2.2.1[i]).2.1≥(f.1.length:Int))=true by simp[hh]];rfl
  ·rw[show decide ((x.2.2.2.2.1[i]).2.1≥(f.1.length:Int))=false by simp;omega,show inB (x.2.2.2.2.1[i]).2.1 f.1.length=true from inB_ok he.1 (by omega)]
   rfl) (by
  simp only[Zq135.B,ge_dec (Nat.le_refl _),cond_ff])
theorem Zq277 (f:Fs_) (hb:Bd tFs_ f):Zq137 f=some (treeF f):=by
 simp only[Zq137,treeF,Zq275 f hb,Option.bind_some]
 cases hi:(rootF f != 0) with
 |true=>simp only[cond_tt]
 |false=>
  have h0:rootF f=0:=by simpa using hi
  obtain⟨g1,g2,g3,g4⟩:=rootF_ok h0
  have hok:=InOk.of g1
  have hen:=EntOk.of g1
  have h1:Zq127 f.2.1 ()=some (f.2.1.any fun b=>decide ((b.length:Int)>8)):=by
   have h:Zq125 f.2.1 () (f.2.1.length:Int) 0=_:=loop_idx f.2.1 (fun b=>decide ((b.length:Int)>8)) (fun i hi=>by
    simp only[Zq125.B,lt_dec hi,inB_lt hi,cond_tt,toNat_cast,getD_lt _ hi,Zq124,Option.bind_some,w64_succ (by omega:i<4294967296)]) (by
    simp only[Zq125.B,ge_dec (Nat.le_refl _),cond_ff]) 0 (Nat.zero_le _)
   simp only[Zq127,Zq126]
   rw[idx_contains' _ _ h,List.drop_zero]
  have h2:Zq136 f f.1 (f.1.length:Int) 0=_:=loop_any f.1 (fun x=>x.2.2.2.2.1.any (entBad f.1)) (4:Int) (fun i hi=>by
   have hl:=hok.len
   simp only[Zq136.B,lt_dec hi,inB_lt hi,cond_tt,toNat_cast,getD_lt _ hi,Option.bind_some,Zq276 f hok hen _ _ _ (List.getElem_mem hi),w64_succ (by omega:i<4294967296)]
   cases (f.1[i].2.2.2.2.1.any (entBad f.1))<;>rfl) (by
   simp only[Zq136.B,ge_dec (Nat.le_refl _),cond_ff])
  simp only[cond_ff,h1,h2,Option.bind_some,Zq272 f.1 hok]
  cases f.2.1.any fun b=>decide ((b.length:Int)>8)
  ·simp only[cond_ff]
   cases onceF f.1
   ·rfl
   ·simp only[Bool.not_true,cond_ff]
    cases f.1.any fun x=>x.2.2.2.2.1.any (entBad f.1)<;>rfl
  ·rfl
structure TreeOk (f:Fs_):Prop where
 inod:inodesF f.1=0
 pos:0<f.1.length
 root:(f.1.getD 0 zInode_).1=2
 dat:f.2.1.length=20
 dl:∀ b∈f.2.1,b.length≤8
 once:onceF f.1=true
 ent:∀ x∈f.1,∀ e∈x.2.2.2.2.1,0≤e.2.1∧e.2.1<(f.1.length:Int)∧(f.1.getD e.2.1.toNat zInode_).1≠0
theorem TreeOk.of {f:Fs_} (h:treeF f=0):TreeOk f:=by
 unfold treeF at h
 cases hi:(rootF f != 0) with
 |true=>rw[hi] at h;exact absurd h (by simpa using hi)
 |false=>
  rw[hi] at h
  obtain⟨g1,g2,g3,g4⟩:=rootF_ok (by simpa using hi:rootF f=0)
  cases h1:(f.2.1.any fun b=>decide ((b.length:Int)>8)) with
  |true=>rw[h1] at h;cases h
  |false=>
   rw[h1] at h
   cases h2:onceF f.1 with
   |false=>rw[h2] at h;cases h
   |true=>
    rw[h2] at h
    cases h3:(f.1.any fun x=>x.2.2.2.2.1.any (entBad f.1)) with
    |true=>rw[h3] at h;cases h
    |false=>
     refine⟨g1,g2,g3,g4,fun b hb=>?_,h2,fun x hx e he=>?_⟩
     ·have:=List.any_eq_false.1 h1 b hb
      simp at this;omega
     ·have hh:=List.any_eq_false.1 h3 x hx
      have hh2:(x.2.2.2.2.1.any (entBad f.1))=false:=by simpa using hh
      have hb:=List.any_eq_false.1 hh2 e he
      have hb2:entBad f.1 e=false:=by simpa using hb
      have h0:=((EntOk.of g1).ent x hx).2 e he
      unfold entBad at hb2
      cases h4:decide (e.2.1≥(f.1.length:Int)) with
      |true=>rw[h4] at hb2;cases hb2
      |false=>
       rw[h4] at hb2
       exact⟨h0.1,by simp at h4;omega,by simpa using hb2⟩
abbrev entsOf (l:List Inode_) (a:Nat):List Entry_:=(l.getD a zInode_).2.2.2.2.1
inductive Reach (l:List Inode_) (s:Nat):Nat→Prop
 |refl:Reach l s s
 |step {a b:Nat}:Reach l s a→(∃ e∈entsOf l a,e.2.1=(b:Int))→Reach l s b
def EntIn (l:List Inode_):Prop:=∀ x∈l,x.2.2.2.2.1.length≤6∧∀ e∈x.2.2.2.2.1,0≤e.2.1∧e.2.1<(l.length:Int)
theorem TreeOk.entIn {f:Fs_} (h:TreeOk f):EntIn f.1:=fun x hx=>⟨((EntOk.of h.inod).ent x hx).1,fun e he=>⟨(h.ent x hx e he).1,(h.ent x hx e he).2.1⟩⟩
theorem entsOf_mem {l:List Inode_} (h:EntIn l) {a:Nat} {e:Entry_} (he:e∈entsOf l a):0≤e.2.1∧e.2.1<(l.length:Int):=by
 unfold entsOf at he
 by_cases ha:a<l.length
 ·rw[getD_lt _ ha] at he;exact(h _ (List.getElem_mem ha)).2 e he
 ·rw[List.getD_eq_getElem?_getD,List.getElem?_eq_none (by omega)] at he;cases he
theorem Reach.lt {l:List Inode_} (h:EntIn l) {s a:Nat} (hs:s<l.length) (hr:Reach l s a):a<l.length:=by
 induction hr with
 |refl=>exact hs
 |step _ he _=>obtain⟨e,he,h2⟩:=he;have:=entsOf_mem h he;omega
abbrev on (b:List Bool) (i:Nat):Prop:=b.getD i false=true
theorem on_set {b:List Bool} {i j:Nat}:on (b.set i true) j↔on b j∨(i=j∧i<b.length):=by
 unfold on
 rw[List.getD_eq_getElem?_getD,List.getD_eq_getElem?_getD,List.getElem?_set]
 by_cases e:i=j
 ·subst e
  by_cases h:i<b.length
  ·simp[h]
  ·simp[h]
 ·simp[e]
theorem on_lt {b:List Bool} {i:Nat} (h:on b i):i<b.length:=by
 unfold on at h
 by_cases hh:i<b.length
 ·exact hh
 ·rw[List.getD_eq_getElem?_getD,List.getElem?_eq_none (by omega)] at h;cases h
theorem set_on {b:List Bool} {i:Nat} (h:on b i):b.set i true=b:=by
 have hl:=on_lt h
 unfold on at h
 rw[getD_lt _ hl] at h
 conv=>lhs;rw[←h]
 exact List.set_getElem_self hl
def markE (b:List Bool) (es:List Entry_):List Bool:=es.foldl (fun b e=>b.set e.2.1.toNat true) b
theorem markE_len:∀ (es:List Entry_) (b:List Bool),(markE b es).length=b.length
 |[],b=>rfl
 |e::es,b=>by simp only[markE,List.foldl_cons];exact(markE_len es _).trans (by simp)
theorem markE_on:∀ (es:List Entry_) (b:List Bool) (j:Nat),on (markE b es) j↔on b j∨(j<b.length∧∃ e∈es,e.2.1.toNat=j)
 |[],b,j=>by simp[markE]
 |e::es,b,j=>by
  have ih:=markE_on es (b.set e.2.1.toNat true) j
  have:on (markE b (e::es)) j↔on (markE (b.set e.2.1.toNat true) es) j:=Iff.rfl
  rw[this,ih,on_set,List.length_set]
  constructor
  ·rintro((h | ⟨h1,h2⟩) | ⟨h1,e',h2,h3⟩)
   ·exact .inl h
   ·exact .inr ⟨by omega,e,List.mem_cons_self ..,h1⟩
   ·exact .inr ⟨h1,e',List.mem_cons_of_mem _ h2,h3⟩
  ·rintro(h | ⟨h1,e',h2,h3⟩)
   ·exact .inl (.inl h)
   ·rcases List.mem_cons.1 h2 with rfl | h2
    ·exact .inl (.inr ⟨h3,by omega⟩)
    ·exact .inr ⟨h1,e',h2,h3⟩
theorem markE_same:∀ (es:List Entry_) (b:List Bool),(∀ e∈es,on b e.2.1.toNat)→markE b es=b
 |[],b,h=>rfl
 |e::es,b,h=>by
  simp only[markE,List.foldl_cons]
  rw[set_on (h e (List.mem_cons_self ..))]
  exact markE_same es b fun x hx=>h x (List.mem_cons_of_mem _ hx)
def roundN (l:List Inode_):List Nat→List Bool→List Bool
 |[],b=>b
 |i::is,b=>roundN l is (cond (b.getD i false) (markE b (entsOf l i)) b)
def ClosedB (l:List Inode_) (b:List Bool):Prop:=∀ i,on b i→∀ e∈entsOf l i,on b e.2.1.toNat
def SoundB (l:List Inode_) (s:Nat) (b:List Bool):Prop:=∀ j,on b j→Reach l s j
theorem roundN_len (l:List Inode_):∀ (is:List Nat) (b:List Bool),(roundN l is b).length=b.length
 |[],b=>rfl
 |i::is,b=>by simp only[roundN];rw[roundN_len l is];cases b.getD i false<;>simp[markE_len]
theorem roundN_mono (l:List Inode_):∀ (is:List Nat) (b:List Bool) (j:Nat),on b j→on (roundN l is b) j
 |[],b,j,h=>h
 |i::is,b,j,h=>by
  refine roundN_mono l is _ j ?_
  cases b.getD i false
  ·exact h
  ·exact(markE_on _ _ _).2 (.inl h)
theorem roundN_sound {l:List Inode_} (hl:EntIn l) {s:Nat}:∀ (is:List Nat) (b:List Bool),SoundB l s b→SoundB l s (roundN l is b)
 |[],b,h=>h
 |i::is,b,h=>by
  refine roundN_sound hl is _ ?_
  cases hi:b.getD i false
  ·exact h
  ·intro j hj
   rcases(markE_on _ _ _).1 hj with hj | ⟨_,e,he,h2⟩
   ·exact h j hj
   ·have:=entsOf_mem hl he
    exact .step (h i hi) ⟨e,he,by omega⟩
theorem roundN_next {l:List Inode_}:∀ (is:List Nat) (b:List Bool) (i:Nat),i∈is→on b i→∀ e∈entsOf l i,e.2.1.toNat<b.length→on (roundN l is b) e.2.1.toNat
 |k::is,b,i,hi,hb,e,he,hlt=>by
  rcases List.mem_cons.1 hi with rfl | hi
  ·refine roundN_mono l is _ _ ?_
   rw[hb]
   exact(markE_on _ _ _).2 (.inr ⟨hlt,e,he,rfl⟩)
  ·refine roundN_next is _ i hi ?_ e he ?_
   ·cases b.getD k false
    ·exact hb
    ·exact(markE_on _ _ _).2 (.inl hb)
   ·cases b.getD k false
    ·exact hlt
    ·simpa [markE_len] using hlt
theorem roundN_closed {l:List Inode_}:∀ (is:List Nat) (b:List Bool),ClosedB l b→roundN l is b=b
 |[],b,h=>rfl
 |i::is,b,h=>by
  simp only[roundN]
  cases hi:b.getD i false
  ·exact roundN_closed is b h
  ·simp only[cond_tt]
   rw[markE_same _ _ (h i hi)];exact roundN_closed is b h
theorem cnt_le:∀ (b c:List Bool),b.length=c.length→(∀ j,on b j→on c j)→b.count true≤c.count true
 |[],[],_,_=>Nat.le_refl _
 |x::b,y::c,hl,h=>by
  have ih:=cnt_le b c (by simpa using hl) fun j hj=>h (j+1) hj
  have h0:=h 0
  simp only[List.count_cons]
  cases x<;>cases y<;>simp[on] at h0 ⊢<;>omega
theorem cnt_lt:∀ (b c:List Bool),b.length=c.length→(∀ j,on b j→on c j)→(∃ j,on c j∧¬ on b j)→b.count true<c.count true
 |[],[],_,_,⟨j,h,_⟩=>by have:=on_lt h;simp at this
 |x::b,y::c,hl,h,⟨j,h1,h2⟩=>by
  have h0:=h 0
  simp only[List.count_cons]
  cases j with
  |zero=>
   have ih:=cnt_le b c (by simpa using hl) fun j hj=>h (j+1) hj
   cases x<;>cases y<;>simp[on] at h1 h2 h0 ⊢<;>omega
  |succ j=>
   have ih:=cnt_lt b c (by simpa using hl) (fun j hj=>h (j+1) hj) ⟨j,h1,h2⟩
   cases x<;>cases y<;>simp[on] at h0 ⊢<;>omega
def roundsN (l:List Inode_):Nat→List Bool→List Bool
 |0,b=>b
 |n+1,b=>roundsN l n (roundN l (List.range l.length) b)
theorem rounds_closed {l:List Inode_} (hl:EntIn l):∀ (n:Nat) (b:List Bool),b.length=l.length→l.length≤n+b.count true→ClosedB l (roundsN l n b)∧(roundsN l n b).length=l.length∧(∀ j,on b j→on (roundsN l n b) j)∧∀ s,SoundB l s b→SoundB l s (roundsN l n b)
 |0,b,hb,hn=>by
  refine⟨fun i hi e he=>?_,hb,fun _ h=>h,fun _ h=>h⟩
  have hall:b.count true=b.length:=by have:=List.count_le_length (a:=true) (l:=b);omega
  have hlt:=(entsOf_mem hl he)
  have:b.getD e.2.1.toNat false=b[e.2.1.toNat]'(by omega):=getD_lt _ _
  show b.getD e.2.1.toNat false=true
  rw[this]
  exact(List.count_eq_length.1 hall _ (List.getElem_mem _)).symm
 |n+1,b,hb,hn=>by
  simp only[roundsN]
  have hlen:=roundN_len l (List.range l.length) b
  by_cases hc:ClosedB l b
  ·rw[roundN_closed _ _ hc]
   have:∀ n,roundsN l n b=b:=by
    intro n
    induction n with
    |zero=>rfl
    |succ n ih=>simp only[roundsN];rw[roundN_closed _ _ hc];exact ih
   rw[this]
   exact⟨hc,hb,fun _ h=>h,fun _ h=>h⟩
  ·obtain⟨i,h1,e,h2,h3⟩:∃ i,on b i∧∃ e∈entsOf l i,¬ on b e.2.1.toNat:=by
    unfold ClosedB at hc
    simp only[Classical.not_forall] at hc
    obtain⟨i,h1,e,h2,h3⟩:=hc
    exact⟨i,h1,e,h2,h3⟩
   have hlt:=entsOf_mem hl h2
   have hi:=on_lt h1
   have hs:=cnt_lt b _ hlen.symm (roundN_mono l _ b) ⟨_,roundN_next (List.range l.length) b i (List.mem_range.2 (by omega)) h1 e h2 (by omega),h3⟩
   obtain⟨q1,q2,q3,q4⟩:=rounds_closed hl n _ (by omega) (by omega:l.length≤n+(roundN l (List.range l.length) b).count true)
   exact⟨q1,q2,fun j hj=>q3 j (roundN_mono l _ b j hj),fun s hs=>q4 s (roundN_sound hl _ _ hs)⟩
open Classical in
noncomputable def reachF (l:List Inode_) (s:Nat):List Int:=((List.range l.length).filter fun i=>decide (Reach l s i)).map Int.ofNat
theorem reachF_mem {l:List Inode_} (hl:EntIn l) {s:Nat} (hs:s<l.length) {a:Nat}:(a:Int)∈reachF l s↔Reach l s a:=by
 unfold reachF
 simp only[List.mem_map,List.mem_filter,List.mem_range,decide_eq_true_eq]
 constructor
 ·rintro⟨i,⟨_,h⟩,e⟩
  have:i=a:=Int.ofNat.inj e
  subst this;exact h
 ·intro h;exact⟨a,⟨h.lt hl hs,h⟩,rfl⟩
theorem reachF_bnd {l:List Inode_} {s:Nat} {v:Int} (h:v∈reachF l s):0≤v∧v<(l.length:Int):=by
 unfold reachF at h
 simp only[List.mem_map,List.mem_filter,List.mem_range] at h
 obtain⟨i,⟨h1,_⟩,rfl⟩:=h
 simp;omega
theorem reachF_len (l:List Inode_) (s:Nat):(reachF l s).length≤l.length:=by
 unfold reachF
 rw[List.length_map]
 exact Nat.le_trans (List.length_filter_le _ _) (by simp)
open Classical in
theorem reach_list {l:List Inode_} {s:Nat} {b:List Bool} (hb:b.length=l.length) (hc:ClosedB l b) (hs:SoundB l s b) (h0:on b s):((List.range b.length).filter fun i=>b.getD i false).map Int.ofNat=reachF l s:=by
 unfold reachF
 rw[hb]
 congr 1
 refine List.filter_congr fun i hi=>?_
 clear hi
 rw[Bool.eq_iff_iff,decide_eq_true_eq]
 constructor
 ·exact hs i
 ·intro h
  induction h with
  |refl=>exact h0
  |step _ he ih=>obtain⟨e,he,h2⟩:=he;have:=hc _ ih e he;rw[h2] at this;exact this
theorem onList (b:List Bool) {f:Int×List Int→Option ((Int×List Int)⊕List Int)} (hl:b.length≤1000)
  (hs:∀ (i:Nat) (h:i<b.length) (t:List Int),t.length≤i→f ((i:Int),t)=cond b[i] (some (.inl (((i+1:Nat):Int),t++[(i:Int)]))) (some (.inl (((i+1:Nat):Int),t)))) (he:∀ t,f ((b.length:Int),t)=some (.inr t)) :
  loopL f (0,[])=some (((List.range b.length).filter fun i=>b.getD i false).map Int.ofNat):=by
 have h:=loop_listI0 (τ:=List Int) b (f:=f) (fun i t=>((i:Int),t)) (fun i x t=>.inl (cond x (t++[(i:Int)]) t)) id (fun i t=>t.length≤i)
  (fun i hi t ht=>by rw[hs i hi t ht];cases b[i]<;>rfl) (fun i hi t t' ht e=>by cases e;cases b[i]<;>simp<;>omega) (fun t ht=>he t) [] (by simp) (s:=(0,[])) rfl
 rw[h]
 congr 1
 clear h hs he hl
 have:∀ (m:List Bool) (n:Nat) (t:List Int),foldE (fun i x t=>.inl (cond x (t++[(i:Int)]) t)) id n m t=t++((List.range' n m.length).filter fun i=>m.getD (i-n) false).map Int.ofNat:=by
  intro m
  induction m with
  |nil=>intro n t;simp[foldE]
  |cons x m ih=>
   intro n t
   simp only[foldE,sel_inl]
   rw[ih,List.length_cons,List.range'_succ,List.filter_cons]
   have e:(List.range' (n+1) m.length).filter (fun i=>(x::m).getD (i-n) false)=(List.range' (n+1) m.length).filter (fun i=>m.getD (i-(n+1)) false):=by
    refine List.filter_congr fun i hi=>?_
    have:=(List.mem_range'_1.1 hi).1
    rw[show i-n=(i-(n+1))+1 by omega];rfl
   rw[e]
   cases x<;>simp
 rw[this b 0 [],List.nil_append,List.range_eq_range']
 rfl
theorem Zq278 (f:Fs_) (hl:EntIn f.1) (hn:f.1.length≤10) (rd:Int) (i:Nat) (hi:i<f.1.length) (b:List Bool) (hb:b.length=f.1.length):Zq62 f rd (i:Int) (0,b)=some (cond (b.getD i false) (markE b (entsOf f.1 i)) b):=by
 have hx:=hl _ (List.getElem_mem hi)
 have he:entsOf f.1 i=f.1[i].2.2.2.2.1:=by unfold entsOf;rw[getD_lt _ hi]
 cases h0:b.getD i false with
 |false=>
  refine loopL_done ?_
  simp only[Zq62.B,inB_lt (by omega:i<b.length),cond_tt,toNat_cast,h0,cond_ff,Option.bind_some]
 |true=>
  rw[he]
  have h:=loop_foldI f.1[i].2.2.2.2.1 (f:=fun s=>Zq62.B f rd (i:Int) s.1 s.2) (fun(b:List Bool) e=>b.set e.2.1.toNat true) id (fun k c=>c.length=f.1.length∧on c i) (fun k hk c hc=>by
   have hek:=hx.2 _ (List.getElem_mem hk)
   refine⟨?_,by simpa using hc.1,on_set.2 (.inl hc.2)⟩
   have h1:c.getD i false=true:=hc.2
   simp only[Zq62.B,inB_lt (by omega:i<c.length),cond_tt,toNat_cast,h1,inB_lt hi,getD_lt _ hi,lt_dec hk,Option.bind_some,inB_lt hk,getD_lt _ hk,w64_succ (by omega:k<4294967296)]
   rw[show inB (f.1[i].2.2.2.2.1[k]).2.1 c.length=true from inB_ok hek.1 (by omega)];rfl) (fun c hc=>by
   have h1:c.getD i false=true:=hc.2
   simp only[Zq62.B,inB_lt (by omega:i<c.length),cond_tt,toNat_cast,h1,inB_lt hi,getD_lt _ hi,ge_dec (Nat.le_refl _),Option.bind_some,cond_ff,id]) b ⟨hb,h0⟩
  exact h
theorem Zq279 (f:Fs_) (hl:EntIn f.1) (hn:f.1.length≤10) (rd:Int) (b:List Bool) (hb:b.length=f.1.length):Zq63 f rd (0,b)=some (roundN f.1 (List.range f.1.length) b):=by
 have h:=loop_listI0 (τ:=List Bool) f.1 (f:=fun s=>Zq63.B f rd s.1 s.2) (fun i b=>((i:Int),b)) (fun i x b=>.inl (cond (b.getD i false) (markE b (entsOf f.1 i)) b)) id (fun i b=>b.length=f.1.length)
  (fun i hi c hc=>by
   simp only[Zq63.B,lt_dec hi,cond_tt,Zq278 f hl hn rd i hi c hc,Option.bind_some,w64_succ (by omega:i<4294967296),sel]) (fun i hi c c' hc e=>by cases e;cases c.getD i false<;>simp[markE_len,hc]) (fun c hc=>by
   simp only[Zq63.B,ge_dec (Nat.le_refl _),cond_ff,id]) b hb (s:=(0,b)) rfl
 refine Eq.trans h ?_
 congr 1
 have:∀ (m:List Inode_) (n:Nat) (b:List Bool),foldE (fun i (x:Inode_) b=>.inl (cond (b.getD i false) (markE b (entsOf f.1 i)) b)) id n m b=roundN f.1 (List.range' n m.length) b:=by
  intro m
  induction m with
  |nil=>intro n b;rfl
  |cons x m ih=>intro n b;simp only[foldE,sel_inl,List.length_cons,List.range'_succ,roundN];exact ih _ _
 rw[this,List.range_eq_range']
theorem Zq280 (f:Fs_) (hl:EntIn f.1) (hn:f.1.length≤10) (h0:0<f.1.length):Zq66 f=some (reachF f.1 0):=by
 have hz:(List.replicate f.1.length false).length=f.1.length:=by simp
 let b0:=(List.replicate f.1.length false).set 0 true
 have hb0:b0.length=f.1.length:=by simp[b0]
 have hon:on b0 0:=on_set.2 (.inr ⟨rfl,by omega⟩)
 have hcnt:1≤b0.count true:=by
  have:true∈b0:=by
   have h1:b0[0]'(by omega)=true:=by rw[←getD_lt false (by omega:0<b0.length)];exact hon
   rw[←h1];exact List.getElem_mem _
  exact List.count_pos_iff.2 this
 have hsnd:SoundB f.1 0 b0:=by
  intro j hj
  rcases on_set.1 hj with h | ⟨rfl,_⟩
  ·unfold on at h;rw[List.getD_eq_getElem?_getD,List.getElem?_replicate] at h;split at h<;>simp at h
  ·exact .refl
 obtain⟨q1,q2,q3,q4⟩:=rounds_closed hl f.1.length b0 hb0 (by omega)
 have h1:Zq64 f (0,b0)=some (roundsN f.1 f.1.length b0):=by
  have h:=loop_listI0 (τ:=List Bool) f.1 (f:=fun s=>Zq64.B f s.1 s.2) (fun i b=>((i:Int),b)) (fun i x b=>.inl (roundN f.1 (List.range f.1.length) b)) id (fun i b=>b.length=f.1.length)
   (fun i hi c hc=>by
    simp only[Zq64.B,lt_dec hi,cond_tt,Zq279 f hl hn i c hc,Option.bind_some,w64_succ (by omega:i<4294967296),sel]) (fun i hi c c' hc e=>by cases e;rw[roundN_len,hc]) (fun c hc=>by
    simp only[Zq64.B,ge_dec (Nat.le_refl _),cond_ff,id]) b0 hb0 (s:=(0,b0)) rfl
  refine Eq.trans h ?_
  congr 1
  have:∀ (m:List Inode_) (n:Nat) (b:List Bool),foldE (fun i (x:Inode_) b=>.inl (roundN f.1 (List.range f.1.length) b)) id n m b=roundsN f.1 m.length b:=by
   intro m
   induction m with
   |nil=>intro n b;rfl
   |cons x m ih=>intro n b;simp only[foldE,sel_inl,List.length_cons,roundsN];exact ih _ _
  exact this _ _ _
 have h3:Zq65 (roundsN f.1 f.1.length b0) (0,[])=some (reachF f.1 0):=by
  have h:=onList (roundsN f.1 f.1.length b0) (f:=fun s=>Zq65.B (roundsN f.1 f.1.length b0) s.1 s.2) (by omega) (fun i hi t ht=>by
   simp only[Zq65.B,lt_dec hi,inB_lt hi,cond_tt,toNat_cast,getD_lt _ hi,w64_succ (by omega:i<4294967296)]
   rw[dlen (by simp;omega)];rfl) (fun t=>by
   simp only[Zq65.B,ge_dec (Nat.le_refl _),cond_ff])
  refine Eq.trans h ?_
  rw[reach_list q2 q1 (q4 0 hsnd) (q3 0 hon)]
 simp only[Zq66]
 rw[show(decide ((0:Int)≤(f.1.length:Int))&&(decide ((f.1.length:Int)≤(f.1.length:Int))&&decide ((f.1.length:Int)≤2147483648)))=true by simp;omega]
 rw[show((f.1.length:Int)).toNat=f.1.length from toNat_cast _,hz,show inB 0 f.1.length=true from inB_lt (i:=0) h0]
 simp only[cond_tt,Option.bind_some,show(0:Int).toNat=0 from rfl]
 rw[show(List.replicate f.1.length false).set 0 true=b0 from rfl,h1]
 simp only[Option.bind_some,h3]
theorem cnt_set:∀ (b:List Bool) (i:Nat),i<b.length→b.getD i false=false→(b.set i true).count false+1=b.count false
 |x::b,0,h,hf=>by
  have:x=false:=by simpa using hf
  subst this;simp
 |x::b,i+1,h,hf=>by
  have ih:=cnt_set b i (by simpa using h) (by simpa using hf)
  simp only[List.set_cons_succ,List.count_cons]
  omega
theorem Zq281 (l:List Inode_) (es:List Entry_) (v2:Int) (hv:v2=(es.length:Int)) (seen:List Bool) (op:List Int) (h6:es.length≤6) (ho:op.length≤1000):Zq145 l es v2 seen (0,op)=some (op++es.map fun e=>e.2.1):=by
 subst hv
 exact loop_mapI es (f:=fun s=>Zq145.B l es (es.length:Int) seen s.1 s.2) (fun e=>e.2.1) id op.length (fun i hi t ht=>by
  simp only[Zq145.B,lt_dec hi,inB_lt hi,cond_tt,toNat_cast,getD_lt _ hi,w64_succ (by omega:i<4294967296)]
  rw[dlen (by simp;omega)];rfl) (fun t ht=>by
  simp only[Zq145.B,ge_dec (Nat.le_refl _),cond_ff,id]) op rfl
theorem getLast_split {op:List Int} (h:0<op.length):op.take (op.length-1)++[op.getD (op.length-1) 0]=op:=by
 have h1:op.length-1<op.length:=by omega
 rw[getD_lt _ h1]
 have:=List.take_append_drop (op.length-1) op
 rw[List.drop_eq_getElem_cons h1,show op.length-1+1=op.length by omega,List.drop_length] at this
 exact this
theorem Zq282 {l:List Inode_} (hl:EntIn l) (hn:l.length≤10) (s:Nat) (hs:s<l.length):∀ (m:Nat) (seen:List Bool) (op:List Int),7*seen.count false+op.length≤m→m≤100→seen.length=l.length→SoundB l s seen→
  (∀ v∈op,∃ a:Nat,v=(a:Int)∧Reach l s a)→(∀ i,on seen i→∀ e∈entsOf l i,on seen e.2.1.toNat∨e.2.1∈op)→
  ∃ b,Zq146 l (seen,op)=some b∧b.length=l.length∧ClosedB l b∧SoundB l s b∧(∀ j,on seen j→on b j)∧∀ v∈op,on b v.toNat
 |m,seen,op,hm,hm2,h1,h2,h3,h4=>by
  by_cases ho:op.length=0
  ·have:op=[]:=List.length_eq_zero_iff.1 ho
   subst this
   refine⟨seen,loopL_done ?_,h1,fun i hi e he=>?_,h2,fun _ h=>h,fun v hv=>by cases hv⟩
   ·simp only[Zq146.B];rfl
   ·rcases h4 i hi e he with h | h
    ·exact h
    ·cases h
  ·have hpos:0<op.length:=by omega
   have hw:w64 ((op.length:Int)-1)=((op.length-1:Nat):Int):=by rw[w64_id (by omega) (by omega)];omega
   have hsp:=getLast_split hpos
   generalize hv:op.getD (op.length-1) 0=v at hsp
   generalize hq:op.take (op.length-1)=q at hsp
   have hql:q.length=op.length-1:=by rw[←hq];simp
   obtain⟨a,rfl,ha⟩:=h3 v (by rw[←hsp];simp)
   have hal:=ha.lt hl hs
   have hB:Zq146.B l seen op=cond (seen.getD a false) (some (.inl (seen,q))) (some (.inl (seen.set a true,q++(entsOf l a).map fun e=>e.2.1))):=by
    have e6:(entsOf l a).length≤6:=by unfold entsOf;rw[getD_lt _ hal];exact(hl _ (List.getElem_mem hal)).1
    simp only[Zq146.B,show decide ((op.length:Int)>0)=true by simp;omega,cond_tt,hw,inB_lt (by omega:op.length-1<op.length),toNat_cast,hv,Option.bind_some]
    rw[show(decide ((0:Int)≤((op.length-1:Nat):Int))&&decide (((op.length-1:Nat):Int)≤(op.length:Int)))=true by rw[Bool.and_eq_true,decide_eq_true_eq,decide_eq_true_eq];omega,List.drop_zero,Nat.sub_zero,hq]
    simp only[cond_tt,inB_lt (by omega:a<seen.length),inB_lt hal,Zq281 l (entsOf l a) _ rfl _ q e6 (by omega),Option.bind_some]
   cases hsn:seen.getD a false with
   |true=>
    rw[hsn] at hB
    obtain⟨b,q1,q2,q3,q4,q5,q6⟩:=Zq282 hl hn s hs (m-1) seen q (by omega) (by omega) h1 h2 (fun v hv=>h3 v (by rw[←hsp];simp[hv])) (fun i hi e he=>by
     rcases h4 i hi e he with h | h
     ·exact .inl h
     ·rw[←hsp] at h
      rcases List.mem_append.1 h with h | h
      ·exact .inr h
      ·have:e.2.1=(a:Int):=by simpa using h
       rw[this];exact .inl hsn)
    refine⟨b,?_,q2,q3,q4,q5,fun v hv=>?_⟩
    ·unfold Zq146
     rw[loopL_step (f:=fun s=>Zq146.B l s.1 s.2) (s:=(seen,op)) (s':=(seen,q)) hB];exact q1
    ·rw[←hsp] at hv
     rcases List.mem_append.1 hv with h | h
     ·exact q6 v h
     ·have:v=(a:Int):=by simpa using h
      rw[this];exact q5 a hsn
   |false=>
    rw[hsn] at hB
    have e6:(entsOf l a).length≤6:=by unfold entsOf;rw[getD_lt _ hal];exact(hl _ (List.getElem_mem hal)).1
    have hc:=cnt_set seen a (by omega) hsn
    have hon:on (seen.set a true) a:=on_set.2 (.inr ⟨rfl,by omega⟩)
    obtain⟨b,q1,q2,q3,q4,q5,q6⟩:=Zq282 hl hn s hs (m-1) (seen.set a true) (q++(entsOf l a).map fun e=>e.2.1) (by simp;omega) (by omega) (by simpa using h1) (fun j hj=>by
      rcases on_set.1 hj with h | ⟨rfl,_⟩
      ·exact h2 j h
      ·exact ha) (fun v hv=>by
      rcases List.mem_append.1 hv with h | h
      ·exact h3 v (by rw[←hsp];simp[h])
      ·obtain⟨e,he,rfl⟩:=List.mem_map.1 h
       have:=entsOf_mem hl he
       exact⟨e.2.1.toNat,by omega,.step ha ⟨e,he,by omega⟩⟩) (fun i hi e he=>by
      rcases on_set.1 hi with h | ⟨rfl,_⟩
      ·rcases h4 i h e he with h | h
       ·exact .inl (on_set.2 (.inl h))
       ·rw[←hsp] at h
        rcases List.mem_append.1 h with h | h
        ·exact .inr (List.mem_append_left _ h)
        ·have:e.2.1=(a:Int):=by simpa using h
         rw[this];exact .inl hon
      ·exact .inr (List.mem_append_right _ (List.mem_map.2 ⟨e,he,rfl⟩)))
    refine⟨b,?_,q2,q3,q4,fun j hj=>q5 j (on_set.2 (.inl hj)),fun v hv=>?_⟩
    ·unfold Zq146
     rw[loopL_step (f:=fun s=>Zq146.B l s.1 s.2) (s:=(seen,op)) (s':=(seen.set a true,q++(entsOf l a).map fun e=>e.2.1)) hB];exact q1
    ·rw[←hsp] at hv
     rcases List.mem_append.1 hv with h | h
     ·exact q6 v (List.mem_append_left _ h)
     ·have:v=(a:Int):=by simpa using h
      rw[this];exact q5 a hon
termination_by m=>m
decreasing_by all_goals omega
theorem Zq283 {l:List Inode_} (hl:EntIn l) (hn:l.length≤10) (s:Nat) (hs:s<l.length):Zq148 l (s:Int)=some (reachF l s):=by
 obtain⟨b,q1,q2,q3,q4,_,q6⟩:=Zq282 hl hn s hs 71 (List.replicate l.length false) [(s:Int)] (by simp;omega) (by omega) (by simp) (fun j hj=>by
   unfold on at hj;rw[List.getD_eq_getElem?_getD,List.getElem?_replicate] at hj;split at hj<;>simp at hj) (fun v hv=>⟨s,by simpa using hv,.refl⟩) (fun j hj=>by
   unfold on at hj;rw[List.getD_eq_getElem?_getD,List.getElem?_replicate] at hj;split at hj<;>simp at hj)
 have h2:Zq147 (b.length:Int) b (0,[])=some (reachF l s):=by
  have h:=onList b (f:=fun s=>Zq147.B (b.length:Int) b s.1 s.2) (by omega) (fun i hi t ht=>by
   simp only[Zq147.B,lt_dec hi,inB_lt hi,cond_tt,toNat_cast,getD_lt _ hi,w64_succ (by omega:i<4294967296)]
   rw[dlen (by simp;omega)];rfl) (fun t=>by
   simp only[Zq147.B,ge_dec (Nat.le_refl _),cond_ff])
  refine Eq.trans h ?_
  rw[reach_list q2 q3 q4 (q6 _ (List.mem_cons_self ..))]
 simp only[Zq148]
 rw[show(decide ((0:Int)≤(l.length:Int))&&(decide ((l.length:Int)≤(l.length:Int))&&decide ((l.length:Int)≤2147483648)))=true by simp;omega,show((l.length:Int)).toNat=l.length from toNat_cast _]
 simp only[cond_tt,q1,Option.bind_some,h2]
def allE (l:List Inode_):List Int:=l.flatMap fun x=>x.2.2.2.2.1.map fun e=>e.2.1
def linksF (l:List Inode_) (a:Int):Int:=(((allE l).count a:Nat):Int)
theorem cnt_fold (a:Int):∀ (l:List Entry_) (m:Nat),l.foldl (fun t e=>t+(if e.2.1 == a then 1 else 0)) m=m+(l.map fun e=>e.2.1).count a
 |[],m=>by simp
 |y::l,m=>by rw[List.foldl_cons,cnt_fold a l,List.map_cons,List.count_cons];omega
theorem Zq284 (l:List Inode_) (hl:∀ x∈l,x.2.2.2.2.1.length≤6) (hn:l.length≤10) (a:Int):Zq69 l a=some (linksF l a):=by
 have h1:∀ (i:Nat) (hi:i<l.length) (n:Nat),n≤1000→Zq67 l a (i:Int) ((n:Int),0)=some (((n+(l[i].2.2.2.2.1.map fun e=>e.2.1).count a:Nat):Int)):=by
  intro i hi n hn
  have h6:=hl _ (List.getElem_mem hi)
  have h:=loop_listI0 (τ:=Nat) l[i].2.2.2.2.1 (f:=fun s=>Zq67.B l a (i:Int) s.1 s.2) (fun k m=>((m:Int),(k:Int))) (fun _ e m=>.inl (m+(if e.2.1 == a then 1 else 0))) (fun m=>((m:Nat):Int)) (fun k m=>m≤n+k)
   (fun k hk m hm=>by
    simp only[Zq67.B,inB_lt hi,cond_tt,toNat_cast,getD_lt _ hi,Option.bind_some,lt_dec hk,inB_lt hk,getD_lt _ hk,w64_succ (by omega:k<4294967296),w64_succ (by omega:m<4294967296),sel]
    cases h:((l[i].2.2.2.2.1[k]).2.1 == a)<;>simp[h])
   (fun k hk m m' hm e=>by cases e;split<;>omega)
   (fun m hm=>by
    simp only[Zq67.B,inB_lt hi,cond_tt,toNat_cast,getD_lt _ hi,Option.bind_some,ge_dec (Nat.le_refl _),cond_ff]) n (by omega) (s:=((n:Int),0)) rfl
  refine Eq.trans h ?_
  rw[foldE_fold,cnt_fold]
 have h:=loop_listI0 (τ:=Nat) l (f:=fun s=>Zq68.B l a s.1 s.2) (fun k m=>((m:Int),(k:Int))) (fun _ x m=>.inl (m+(x.2.2.2.2.1.map fun e=>e.2.1).count a)) (fun m=>((m:Nat):Int)) (fun k m=>m≤6*k)
  (fun k hk m hm=>by
   simp only[Zq68.B,lt_dec hk,cond_tt,h1 k hk m (by omega),Option.bind_some,w64_succ (by omega:k<4294967296),sel])
  (fun k hk m m' hm e=>by cases e;have:=hl _ (List.getElem_mem hk);have:=List.count_le_length (a:=a) (l:=l[k].2.2.2.2.1.map fun e=>e.2.1);simp at this;omega)
  (fun m hm=>by simp only[Zq68.B,ge_dec (Nat.le_refl _),cond_ff]) 0 (by omega) (s:=(0,0)) rfl
 have h':Zq68 l a (0,0)=_:=h
 simp only[Zq69,h',Option.bind_some]
 rw[foldE_fold]
 have:∀ (l:List Inode_) (m:Nat),l.foldl (fun t x=>t+(x.2.2.2.2.1.map fun e=>e.2.1).count a) m=m+(allE l).count a:=by
  intro l
  induction l with
  |nil=>intro m;simp[allE]
  |cons y l ih=>intro m;rw[List.foldl_cons,ih];simp only[allE,List.flatMap_cons,List.count_append];omega
 rw[this,Nat.zero_add];rfl
theorem Zq285 (l:List Inode_) (hl:∀ x∈l,x.2.2.2.2.1.length≤6) (hn:l.length≤10) (a:Int):Zq151 l a=some (linksF l a):=by
 have h1:∀ (v v2:Int) (x:Inode_) (h6:x.2.2.2.2.1.length≤6) (n:Nat),n≤1000→Zq149 a l v v2 x.2.2.2.2.1 (x.2.2.2.2.1.length:Int) ((n:Int),0)=some (((n+(x.2.2.2.2.1.map fun e=>e.2.1).count a:Nat):Int)):=by
  intro v v2 x h6 n hn
  have h:=loop_listI0 (τ:=Nat) x.2.2.2.2.1 (f:=fun s=>Zq149.B a l v v2 x.2.2.2.2.1 (x.2.2.2.2.1.length:Int) s.1 s.2) (fun k m=>((m:Int),(k:Int))) (fun _ e m=>.inl (m+(if e.2.1 == a then 1 else 0))) (fun m=>((m:Nat):Int)) (fun k m=>m≤n+k)
   (fun k hk m hm=>by
    simp only[Zq149.B,cond_tt,toNat_cast,Option.bind_some,lt_dec hk,inB_lt hk,getD_lt _ hk,w64_succ (by omega:k<4294967296),w64_succ (by omega:m<4294967296),sel]
    cases h:((x.2.2.2.2.1[k]).2.1 == a)<;>simp[h])
   (fun k hk m m' hm e=>by cases e;split<;>omega)
   (fun m hm=>by
    simp only[Zq149.B,ge_dec (Nat.le_refl _),cond_ff]) n (by omega) (s:=((n:Int),0)) rfl
  refine Eq.trans h ?_
  rw[foldE_fold,cnt_fold]
 have h:=loop_listI0 (τ:=Nat) l (f:=fun s=>Zq150.B a l (l.length:Int) s.1 s.2) (fun k m=>((m:Int),(k:Int))) (fun _ x m=>.inl (m+(x.2.2.2.2.1.map fun e=>e.2.1).count a)) (fun m=>((m:Nat):Int)) (fun k m=>m≤6*k)
  (fun k hk m hm=>by
   simp only[Zq150.B,lt_dec hk,inB_lt hk,cond_tt,toNat_cast,getD_lt _ hk,h1 _ _ _ (hl _ (List.getElem_mem hk)) m (by omega),Option.bind_some,w64_succ (by omega:k<4294967296),sel])
  (fun k hk m m' hm e=>by cases e;have:=hl _ (List.getElem_mem hk);have:=List.count_le_length (a:=a) (l:=l[k].2.2.2.2.1.map fun e=>e.2.1);simp at this;omega)
  (fun m hm=>by simp only[Zq150.B,ge_dec (Nat.le_refl _),cond_ff]) 0 (by omega) (s:=(0,0)) rfl
 have h':Zq150 a l (l.length:Int) (0,0)=_:=h
 simp only[Zq151,h',Option.bind_some]
 rw[foldE_fold]
 have:∀ (l:List Inode_) (m:Nat),l.foldl (fun t x=>t+(x.2.2.2.2.1.map fun e=>e.2.1).count a) m=m+(allE l).count a:=by
  intro l
  induction l with
  |nil=>intro m;simp[allE]
  |cons y l ih=>intro m;rw[List.foldl_cons,ih];simp only[allE,List.flatMap_cons,List.count_append];omega
 rw[this,Nat.zero_add];rfl
noncomputable def linkBad (l:List Inode_) (i:Nat) (x:Inode_):Bool:=
 cond (x.1 == 0) false (cond (x.1 == 1) (cond (linksF l i != x.2.1) true (!(reachF l 0).contains (i:Int))) (cond ((i:Int) == 0) (cond (linksF l i != 0) true (!(reachF l 0).contains (i:Int))) (cond (linksF l i != 1) true (!(reachF l 0).contains (i:Int)))))
noncomputable def linksBad (l:List Inode_):Bool:=(List.range l.length).any fun i=>linkBad l i (l.getD i zInode_)
theorem loop_anyI {α ρ:Type} (l:List α) (d:α) {f:Int→Option (Int⊕(ρ⊕Unit))} (p:Nat→α→Bool) (r:ρ)
  (hs:∀ (i:Nat) (h:i<l.length),f (i:Int)=cond (p i l[i]) (some (.inr (.inl r))) (some (.inl ((i+1:Nat):Int)))) (he:f (l.length:Int)=some (.inr (.inr ()))) :
  loopL f 0=some (cond ((List.range l.length).any fun i=>p i (l.getD i d)) (.inl r) (.inr ())):=by
 refine loop_any (List.range l.length) (fun i=>p i (l.getD i d)) r (fun i hi=>?_) (by rw[List.length_range];exact he)
 have hi':i<l.length:=by simpa using hi
 rw[hs i hi',List.getElem_range,getD_lt _ hi']
theorem Zq286 (f:Fs_) (h:TreeOk f):Zq73 f=some (!linksBad f.1):=by
 have hn:=(InOk.of h.inod).len
 have h6:∀ x∈f.1,x.2.2.2.2.1.length≤6:=fun x hx=>((EntOk.of h.inod).ent x hx).1
 have hrl:=reachF_len f.1 0
 have hl:Zq72 f (reachF f.1 0) 0=_:=loop_anyI f.1 zInode_ (linkBad f.1) false (fun i hi=>by
  simp only[Zq72.B,lt_dec hi,inB_lt hi,cond_tt,toNat_cast,getD_lt _ hi,Zq284 f.1 h6 hn,Zq259 _ _ (by omega:(reachF f.1 0).length≤2147483648),Option.bind_some,w64_succ (by omega:i<4294967296),linkBad]
  cases (f.1[i].1 == 0)
  ·simp only[cond_ff]
   cases (f.1[i].1 == 1)
   ·simp only[cond_ff]
    cases ((i:Int) == 0)
    ·simp only[cond_ff]
     cases (linksF f.1 (i:Int) != 1)
     ·simp only[cond_ff]
     ·rfl
    ·simp only[cond_tt]
     cases (linksF f.1 (i:Int) != 0)
     ·simp only[cond_ff]
     ·rfl
   ·simp only[cond_tt]
    cases (linksF f.1 (i:Int) != f.1[i].2.1)
    ·simp only[cond_ff]
    ·rfl
  ·rfl) (by simp only[Zq72.B,ge_dec (Nat.le_refl _),cond_ff])
 simp only[Zq73,Zq280 f h.entIn hn h.pos,Option.bind_some,hl,linksBad]
 cases (List.range f.1.length).any fun i=>linkBad f.1 i (f.1.getD i zInode_)<;>rfl
theorem Zq287 (f:Fs_) (h:TreeOk f):Zq153 f=some (cond (linksBad f.1) 1 0):=by
 have hn:=(InOk.of h.inod).len
 have h6:∀ x∈f.1,x.2.2.2.2.1.length≤6:=fun x hx=>((EntOk.of h.inod).ent x hx).1
 have hrl:=reachF_len f.1 0
 have hl:Zq152 f f.1 (f.1.length:Int) (reachF f.1 0) 0=_:=loop_anyI f.1 zInode_ (linkBad f.1) (1:Int) (fun i hi=>by
  have hk:=(inodeF_dir ((inodesF_ok h.inod).2 _ (List.getElem_mem hi))).1
  simp only[Zq152.B,lt_dec hi,inB_lt hi,cond_tt,toNat_cast,getD_lt _ hi,Zq285 f.1 h6 hn,Zq258 _ _ (by omega:(reachF f.1 0).length≤2147483648),Option.bind_some,w64_succ (by omega:i<4294967296),linkBad]
  generalize hx:f.1[i]=x at hk
  by_cases e0:x.1=0
  ·rw[show(x.1 == 0)=true by simp[e0],show(x.1 == 1)=false by simp[e0],show(x.1 == 2)=false by simp[e0],show(x.1 != 0)=false by simp[e0]];rfl
  ·by_cases e1:x.1=1
   ·rw[show(x.1 == 0)=false by simp[e0],show(x.1 == 1)=true by simp[e1],show(x.1 == 2)=false by simp[e1],show(x.1 != 0)=true by simp[e0],show(x.2.1 != linksF f.1 (i:Int))=(linksF f.1 (i:Int) != x.2.1) by rw[bne,bne,Bool.beq_comm]]
    simp only[cond_tt,cond_ff]
    cases (linksF f.1 (i:Int) != x.2.1)<;>rfl
   ·have e2:x.1=2:=by omega
    rw[show(x.1 == 0)=false by simp[e0],show(x.1 == 1)=false by simp[e1],show(x.1 == 2)=true by simp[e2],show(x.1 != 0)=true by simp[e0]]
    simp only[cond_tt,cond_ff]
    cases i with
    |zero=>
     rw[show(((0:Nat):Int) == 0)=true from rfl,show decide (((0:Nat):Int)>0)=false from rfl]
     simp only[cond_tt,cond_ff]
     cases (linksF f.1 ((0:Nat):Int) != 0)<;>rfl
    |succ j=>
     rw[show(((j+1:Nat):Int) == 0)=false by simp;omega,show decide (((j+1:Nat):Int)>0)=true by simp]
     simp only[cond_tt,cond_ff]
     cases (linksF f.1 ((j+1:Nat):Int) != 1)<;>rfl) (by simp only[Zq152.B,ge_dec (Nat.le_refl _),cond_ff])
 have hr:Zq148 f.1 0=some (reachF f.1 0):=Zq283 h.entIn hn 0 h.pos
 simp only[Zq153,hr,Option.bind_some,hl,linksBad]
 cases (List.range f.1.length).any fun i=>linkBad f.1 i (f.1.getD i zInode_)<;>rfl
def minF (a b:Int):Int:=cond (decide (a<b)) a b
theorem Zq288 (a b:Int):Zq57 a b=some (minF a b):=by simp only[Zq57,minF,some_cond]
theorem min_swap (a b:Int):cond (decide (a<b)) a b=minF b a:=by
 unfold minF
 by_cases h1:a<b
 ·rw[show decide (a<b)=true by simp[h1],show decide (b<a)=false by simp;omega];rfl
 ·by_cases h2:b<a
  ·rw[show decide (a<b)=false by simp;omega,show decide (b<a)=true by simp[h2]];rfl
  ·have:a=b:=by omega
   subst this;simp
def wantE (x:Inode_):Nat→List Int→List Int→List Int
 |_,[],w=>w
 |k,b::bs,w=>wantE x (k+1) bs (w.set b.toNat (minF 8 (w64 (x.2.2.1-w64 ((k:Int)*8)))))
def wantL:List Inode_→List Int→List Int
 |[],w=>w
 |x::l,w=>wantL l (wantE x 0 x.2.2.2.1 w)
def wantF (l:List Inode_):List Int:=wantL l (List.replicate 20 0)
theorem wantE_len (x:Inode_):∀ (bs:List Int) (k:Nat) (w:List Int),(wantE x k bs w).length=w.length
 |[],k,w=>rfl
 |b::bs,k,w=>by simp only[wantE];rw[wantE_len x bs];simp
theorem wantL_len:∀ (l:List Inode_) (w:List Int),(wantL l w).length=w.length
 |[],w=>rfl
 |x::l,w=>by simp only[wantL];rw[wantL_len l,wantE_len]
theorem wantF_len (l:List Inode_):(wantF l).length=20:=by unfold wantF;rw[wantL_len];simp
theorem wantE_fold (x:Inode_):∀ (bs:List Int) (k:Nat) (w:List Int),foldE (fun k b w=>.inl (w.set b.toNat (minF 8 (w64 (x.2.2.1-w64 ((k:Int)*8)))))) id k bs w=wantE x k bs w
 |[],k,w=>rfl
 |b::bs,k,w=>by simp only[foldE,sel_inl,wantE];exact wantE_fold x bs _ _
theorem wantL_fold:∀ (l:List Inode_) (k:Nat) (w:List Int),foldE (fun _ x w=>.inl (wantE x 0 x.2.2.2.1 w)) id k l w=wantL l w
 |[],k,w=>rfl
 |x::l,k,w=>by simp only[foldE,sel_inl,wantL];exact wantL_fold l _ _
theorem Zq289 (f:Fs_) (i:Int) (x:Inode_) (h4:x.2.2.2.1.length≤4) (hb:∀ b∈x.2.2.2.1,0≤b∧b≤19) (w:List Int) (hw:w.length=20):Zq74 f i x (0,w)=some (wantE x 0 x.2.2.2.1 w):=by
 have h:=loop_listI0 (τ:=List Int) x.2.2.2.1 (f:=fun s=>Zq74.B f i x s.1 s.2) (fun k w=>((k:Int),w)) (fun k b w=>.inl (w.set b.toNat (minF 8 (w64 (x.2.2.1-w64 ((k:Int)*8)))))) id (fun k w=>w.length=20)
  (fun k hk w hw=>by
   have h2:=hb _ (List.getElem_mem hk)
   simp only[Zq74.B,lt_dec hk,inB_lt hk,cond_tt,toNat_cast,getD_lt _ hk,Zq288,Option.bind_some,w64_succ (by omega:k<4294967296),sel]
   rw[show inB (x.2.2.2.1[k]) w.length=true from inB_ok h2.1 (by omega)];rfl) (fun k hk w w' hw e=>by cases e;simpa using hw) (fun w hw=>by
   simp only[Zq74.B,ge_dec (Nat.le_refl _),cond_ff,id]) w hw (s:=(0,w)) rfl
 rw[wantE_fold] at h;exact h
theorem Zq290 (l:List Inode_) (v v2:Int) (v3:List Int) (x:Inode_) (h4:x.2.2.2.1.length≤4) (hb:∀ b∈x.2.2.2.1,0≤b∧b≤19) (w:List Int) (hw:w.length=20):Zq138 l v v2 x.2.2.2.1 (x.2.2.2.1.length:Int) v3 x (0,w)=some (wantE x 0 x.2.2.2.1 w):=by
 have h:=loop_listI0 (τ:=List Int) x.2.2.2.1 (f:=fun s=>Zq138.B l v v2 x.2.2.2.1 (x.2.2.2.1.length:Int) v3 x s.1 s.2) (fun k w=>((k:Int),w)) (fun k b w=>.inl (w.set b.toNat (minF 8 (w64 (x.2.2.1-w64 ((k:Int)*8)))))) id (fun k w=>w.length=20)
  (fun k hk w hw=>by
   have h2:=hb _ (List.getElem_mem hk)
   simp only[Zq138.B,lt_dec hk,inB_lt hk,cond_tt,toNat_cast,getD_lt _ hk,min_swap,Option.bind_some,w64_succ (by omega:k<4294967296),sel]
   rw[show inB (x.2.2.2.1[k]) 20=true from inB_ok h2.1 (by omega)];rfl) (fun k hk w w' hw e=>by cases e;simpa using hw) (fun w hw=>by
   simp only[Zq138.B,ge_dec (Nat.le_refl _),cond_ff,id]) w hw (s:=(0,w)) rfl
 rw[wantE_fold] at h;exact h
theorem Zq291 (l:List Inode_) (hok:InOk l):Zq140 l=some (wantF l):=by
 have hl:=hok.len
 have h:=loop_listI0 (τ:=List Int) l (f:=fun s=>Zq139.B l (l.length:Int) (List.replicate 20 0) s.1 s.2) (fun k w=>((k:Int),w)) (fun _ x w=>.inl (wantE x 0 x.2.2.2.1 w)) id (fun k w=>w.length=20)
  (fun k hk w hw=>by
   have h2:=hok.blk _ (List.getElem_mem hk)
   simp only[Zq139.B,lt_dec hk,inB_lt hk,cond_tt,toNat_cast,getD_lt _ hk,Option.bind_some,Zq290 l _ _ _ _ h2.1 h2.2 w hw,w64_succ (by omega:k<4294967296),sel]) (fun k hk w w' hw e=>by cases e;rw[wantE_len];exact hw) (fun w hw=>by
   simp only[Zq139.B,ge_dec (Nat.le_refl _),cond_ff,id]) (List.replicate 20 0) (by simp) (s:=(0,List.replicate 20 0)) rfl
 rw[wantL_fold] at h
 have h':Zq139 l (l.length:Int) (List.replicate 20 0) (0,List.replicate 20 0)=some (wantF l):=h
 simp only[Zq140,h',Option.bind_some]
def sizesBad (f:Fs_):Bool:=(List.range 20).any fun i=>((f.2.1.getD i []).length:Int) != (wantF f.1).getD i 0
theorem Zq292 (f:Fs_) (h:TreeOk f):Zq77 f=some (!sizesBad f):=by
 have hok:=InOk.of h.inod
 have hl:=hok.len
 have hd:=h.dat
 have h1:=loop_listI0 (τ:=List Int) f.1 (f:=fun s=>Zq75.B f s.1 s.2) (fun k w=>((k:Int),w)) (fun _ x w=>.inl (wantE x 0 x.2.2.2.1 w)) id (fun k w=>w.length=20)
  (fun k hk w hw=>by
   have h2:=hok.blk _ (List.getElem_mem hk)
   simp only[Zq75.B,lt_dec hk,inB_lt hk,cond_tt,toNat_cast,getD_lt _ hk,Option.bind_some,Zq289 f _ _ h2.1 h2.2 w hw,w64_succ (by omega:k<4294967296),sel]) (fun k hk w w' hw e=>by cases e;rw[wantE_len];exact hw) (fun w hw=>by
   simp only[Zq75.B,ge_dec (Nat.le_refl _),cond_ff,id]) (List.replicate 20 0) (by simp) (s:=(0,List.replicate 20 0)) rfl
 rw[wantL_fold] at h1
 have h1':Zq75 f (0,List.replicate 20 0)=some (wantF f.1):=h1
 have hwl:=wantF_len f.1
 have h2:Zq76 f (wantF f.1) 0=_:=loop_anyI f.2.1 [] (fun i b=>(b.length:Int) != (wantF f.1).getD i 0) false (fun i hi=>by
  simp only[Zq76.B,lt_dec hi,inB_lt hi,inB_lt (by omega:i<(wantF f.1).length),cond_tt,toNat_cast,getD_lt _ hi,Option.bind_some,w64_succ (by omega:i<4294967296)]) (by
  simp only[Zq76.B,ge_dec (Nat.le_refl _),cond_ff])
 simp only[Zq77]
 rw[show(decide ((0:Int)≤(20:Int))&&(decide ((20:Int)≤(20:Int))&&decide ((20:Int)≤2147483648)))=true from rfl,show(20:Int).toNat=20 from rfl]
 simp only[cond_tt,h1',Option.bind_some,h2,sizesBad,hd]
 cases (List.range 20).any fun i=>((f.2.1.getD i []).length:Int) != (wantF f.1).getD i 0<;>rfl
theorem Zq293 (f:Fs_) (h:TreeOk f):Zq156 f=some (cond (sizesBad f) 1 0):=by
 have hok:=InOk.of h.inod
 have hd:=h.dat
 have h2:Zq155 f (wantF f.1) 0=_:=loop_any (List.range 20) (fun i=>((f.2.1.getD i []).length:Int) != (wantF f.1).getD i 0) (1:Int) (fun i hi=>by
  have hi':i<20:=by simpa using hi
  simp only[Zq155.B,show decide ((i:Int)<20)=true by simp;omega,inB_lt hi',inB_lt (by omega:i<f.2.1.length),cond_tt,toNat_cast,Zq154,Option.bind_some,w64_succ (by omega:i<4294967296),List.getElem_range]) (by
  rw[List.length_range];rfl)
 simp only[Zq156,Zq291 f.1 hok,Option.bind_some,h2,sizesBad]
 cases (List.range 20).any fun i=>((f.2.1.getD i []).length:Int) != (wantF f.1).getD i 0<;>rfl
noncomputable def fsF (f:Fs_):Int:=cond (treeF f != 0) (treeF f) (cond (linksBad f.1) 1 (cond (sizesBad f) 1 0))
theorem Zq294 (f:Fs_) (hb:Bd tFs_ f):Zq78 f=some (fsF f):=by
 simp only[Zq78,fsF,Zq274 f hb,Option.bind_some]
 cases h:(treeF f != 0) with
 |true=>simp only[cond_tt]
 |false=>
  have ht:=TreeOk.of (by simpa using h:treeF f=0)
  simp only[cond_ff,Zq286 f ht,Zq292 f ht,Option.bind_some,Bool.not_not,some_cond]
theorem Zq295 (f:Fs_) (hb:Bd tFs_ f):Zq157 f=some (fsF f):=by
 simp only[Zq157,fsF,Zq277 f hb,Option.bind_some]
 cases h:(treeF f != 0) with
 |true=>simp only[cond_tt]
 |false=>
  have ht:=TreeOk.of (by simpa using h:treeF f=0)
  simp only[cond_ff,Zq287 f ht,Zq293 f ht,Option.bind_some]
  cases linksBad f.1<;>cases sizesBad f<;>rfl
theorem wt_ints (k:IntKind):∀ xs:List Int,(xs.map (wt (.int k))).sum=xs.length
 |[]=>rfl
 |x::xs=>by rw[List.map_cons,List.sum_cons,wt_ints k xs,wt_int,List.length_cons];omega
def packE (e:Entry_):List Int:=[e.2.1,(e.1.length:Int)]++e.1.map fun b=>(b.toNat:Int)
def packF (x:Inode_):List Int:=cond (x.1 != 2) ([x.1,x.2.1,x.2.2.1]++x.2.2.2.1) (([x.1,x.2.1,x.2.2.1]++x.2.2.2.1)++[(x.2.2.2.2.1.length:Int)]++x.2.2.2.2.1.flatMap packE)
structure SmallI (x:Inode_):Prop where
 blk:x.2.2.2.1.length≤4
 ent:x.2.2.2.2.1.length≤6
 nam:∀ e∈x.2.2.2.2.1,e.1.length≤4
theorem SmallI.of {x:Inode_} (h:inodeF x=0):SmallI x:=
 ⟨(inodeF_file h).1,(inodeF_dir h).2.1,fun e he=>(nameF_ok ((inodeF_dir h).2.2.2.2.2 e he).1).2.1⟩
theorem packE_len {e:Entry_} (h:e.1.length≤4):(packE e).length≤6:=by simp[packE];omega
theorem packEs_len:∀ {l:List Entry_},(∀ e∈l,e.1.length≤4)→(l.flatMap packE).length≤6*l.length
 |[],_=>by simp
 |e::l,h=>by
  have h1:=packE_len (h e (List.mem_cons_self ..))
  have:=packEs_len fun x hx=>h x (List.mem_cons_of_mem _ hx)
  simp only[List.flatMap_cons,List.length_append,List.length_cons];omega
theorem packF_len {x:Inode_} (h:SmallI x):(packF x).length≤44:=by
 unfold packF
 have:=packEs_len h.nam;have:=h.blk;have:=h.ent
 cases (x.1 != 2)
 ·simp only[cond_ff,List.length_append,List.length_cons,List.length_nil];omega
 ·simp only[cond_tt,List.length_append,List.length_cons,List.length_nil];omega
theorem byte_w (b:UInt8):w64 (b.toNat:Int)=(b.toNat:Int):=by
 have:=b.toNat_lt
 exact w64_id (by omega) (by omega)
theorem flat_fold (g:Entry_→List Int):∀ (l:List Entry_) (t:List Int),l.foldl (fun t e=>t++g e) t=t++l.flatMap g
 |[],t=>by simp
 |e::l,t=>by rw[List.foldl_cons,flat_fold g l];simp
theorem Zq296 (x:Inode_) (h:SmallI x):Zq40 x=some (packF x):=by
 have hb:=h.blk
 have h1:∀ (i:Int) (e:Entry_) (t:List Int),e.1.length≤4→t.length≤1000→Zq38 x i e (0,t)=some (t++e.1.map fun b=>(b.toNat:Int)):=by
  intro i e t he ht
  exact loop_mapI e.1 (f:=fun s=>Zq38.B x i e s.1 s.2) (fun b=>(b.toNat:Int)) id t.length (fun k hk t ht=>by
   simp only[Zq38.B,lt_dec hk,inB_lt hk,cond_tt,toNat_cast,getD_lt _ hk,byte_w,Option.bind_some,w64_succ (by omega:k<4294967296)]
   rw[dlen (by simp;omega)];rfl) (fun t ht=>by
   simp only[Zq38.B,ge_dec (Nat.le_refl _),cond_ff,id]) t rfl
 have h0:∀ t:List Int,t.length≤10→Zq39 x (0,t)=some (t++x.2.2.2.2.1.flatMap packE):=by
  intro t ht
  have:=loop_foldI x.2.2.2.2.1 (f:=fun s=>Zq39.B x s.1 s.2) (fun t e=>t++packE e) id (fun k t=>t.length≤10+6*k) (fun k hk t ht=>by
   have he:=h.nam _ (List.getElem_mem hk)
   have hn:=h.ent
   have hp:=packE_len he
   refine⟨?_,by simp;omega⟩
   simp only[Zq39.B,lt_dec hk,inB_lt hk,cond_tt,toNat_cast,getD_lt _ hk,Option.bind_some,w64_succ (by omega:k<4294967296)]
   rw[dlen (by simp;omega)]
   simp only[cond_tt,h1 _ _ _ he (by simp;omega:(t++[(x.2.2.2.2.1[k]).2.1,((x.2.2.2.2.1[k]).1.length:Int)]).length≤1000),Option.bind_some,packE,List.append_assoc]) (fun t ht=>by
   simp only[Zq39.B,ge_dec (Nat.le_refl _),cond_ff,id]) t (by omega)
  rw[flat_fold] at this;exact this
 simp only[Zq40,packF]
 rw[dlen (by simp;omega)]
 simp only[cond_tt]
 cases (x.1 != 2)
 ·simp only[cond_ff,Option.bind_some]
  rw[dlen (by simp;omega)]
  simp only[cond_tt,h0 _ (by simp;omega:(([x.1,x.2.1,x.2.2.1]++x.2.2.2.1)++[(x.2.2.2.2.1.length:Int)]).length≤10),Option.bind_some]
 ·rfl
theorem Zq297 (x:Inode_) (h:SmallI x):Zq117 x=some (packF x):=by
 have hb:=h.blk
 have h1:∀ (v:List Entry_) (v2 v3:Int) (e:Entry_) (t:List Int),e.1.length≤4→t.length≤1000→Zq115 v v2 v3 (e.1.length:Int) e (0,t)=some (t++e.1.map fun b=>(b.toNat:Int)):=by
  intro v v2 v3 e t he ht
  exact loop_mapI e.1 (f:=fun s=>Zq115.B v v2 v3 (e.1.length:Int) e s.1 s.2) (fun b=>(b.toNat:Int)) id t.length (fun k hk t ht=>by
   simp only[Zq115.B,lt_dec hk,inB_lt hk,cond_tt,toNat_cast,getD_lt _ hk,byte_w,Option.bind_some,w64_succ (by omega:k<4294967296)]
   rw[dlen (by simp;omega)];rfl) (fun t ht=>by
   simp only[Zq115.B,ge_dec (Nat.le_refl _),cond_ff,id]) t rfl
 have h0:∀ t:List Int,t.length≤10→Zq116 x.2.2.2.2.1 (x.2.2.2.2.1.length:Int) (0,t)=some (t++x.2.2.2.2.1.flatMap packE):=by
  intro t ht
  have:=loop_foldI x.2.2.2.2.1 (f:=fun s=>Zq116.B x.2.2.2.2.1 (x.2.2.2.2.1.length:Int) s.1 s.2) (fun t e=>t++packE e) id (fun k t=>t.length≤10+6*k) (fun k hk t ht=>by
   have he:=h.nam _ (List.getElem_mem hk)
   have hn:=h.ent
   have hp:=packE_len he
   refine⟨?_,by simp;omega⟩
   simp only[Zq116.B,lt_dec hk,inB_lt hk,cond_tt,toNat_cast,getD_lt _ hk,Option.bind_some,w64_succ (by omega:k<4294967296)]
   rw[dlen (by simp;omega)]
   simp only[cond_tt,h1 _ _ _ _ _ he (by simp;omega:(t++[(x.2.2.2.2.1[k]).2.1,((x.2.2.2.2.1[k]).1.length:Int)]).length≤1000),Option.bind_some,packE,List.append_assoc]) (fun t ht=>by
   simp only[Zq116.B,ge_dec (Nat.le_refl _),cond_ff,id]) t (by omega)
  rw[flat_fold] at this;exact this
 simp only[Zq117,packF,Zq114]
 rw[dlen (by simp;omega)]
 simp only[cond_tt]
 cases (x.1 != 2)
 ·simp only[cond_ff,Option.bind_some]
  rw[dlen (by simp;omega)]
  simp only[cond_tt,h0 _ (by simp;omega:(([x.1,x.2.1,x.2.2.1]++x.2.2.2.1)++[(x.2.2.2.2.1.length:Int)]).length≤10),Option.bind_some]
 ·rfl
theorem w64n {n:Int} (h : -9223372036854775808≤n) (h':n<9223372036854775808):w64 n=n:=w64_id h (by omega)
def putF (n:Int) (p:Put_):Int:=cond (!inR p.1 0 n) 3 (wordsF p.2.1)
def diskF (d:Disk_):Int:=cond (cond (decide ((d.1.length:Int)>60)) true (decide ((d.2.1.length:Int)>200))) 2 (cond (firstC wordsF d.1 != 0) (firstC wordsF d.1) (firstC (putF ((d.1.length:Int)-1)) d.2.1))
theorem big_ff {d:Disk_} (h1:d.1.length≤60) (h2:d.2.1.length≤200):cond (decide ((d.1.length:Int)>60)) true (decide ((d.2.1.length:Int)>200))=false:=by
 rw[show decide ((d.1.length:Int)>60)=false by simp;omega,show decide ((d.2.1.length:Int)>200)=false by simp;omega];rfl
theorem big_tt {d:Disk_} (h:¬ (d.1.length≤60∧d.2.1.length≤200)):cond (decide ((d.1.length:Int)>60)) true (decide ((d.2.1.length:Int)>200))=true:=by
 by_cases h1:d.1.length≤60
 ·rw[show decide ((d.2.1.length:Int)>200)=true by simp;omega];cases decide ((d.1.length:Int)>60)<;>rfl
 ·rw[show decide ((d.1.length:Int)>60)=true by simp;omega];rfl
theorem Zq298 (d:Disk_):Zq20 d=some (diskF d):=by
 simp only[Zq20,diskF,Option.bind_some]
 by_cases hb:d.1.length≤60∧d.2.1.length≤200
 ·obtain⟨b1,b2⟩:=hb
  have h:Zq18 d 0=_:=loop_first d.1 wordsF (fun i hi=>by
   simp only[Zq18.B,lt_dec hi,inB_lt hi,cond_tt,toNat_cast,getD_lt _ hi,Zq253,Option.bind_some,w64_succ (by omega:i<4294967296)]) (by
   simp only[Zq18.B,ge_dec (Nat.le_refl _),cond_ff])
  have hw:w64 ((d.1.length:Int)-1)=(d.1.length:Int)-1:=w64n (by omega) (by omega)
  have h':Zq19 d 0=_:=loop_first d.2.1 (putF ((d.1.length:Int)-1)) (fun i hi=>by
   simp only[Zq19.B,lt_dec hi,inB_lt hi,cond_tt,toNat_cast,getD_lt _ hi,Zq253,Zq251,hw,Option.bind_some,w64_succ (by omega:i<4294967296),putF]
   cases inR d.2.1[i].1 0 ((d.1.length:Int)-1)<;>rfl) (by
   simp only[Zq19.B,ge_dec (Nat.le_refl _),cond_ff])
  rw[big_ff b1 b2,cond_ff,cond_ff,h,h',sel_first,sel_first,first_zero]
  cases (firstC wordsF d.1 != 0)<;>rfl
 ·rw[big_tt hb];rfl
theorem Zq299 (d:Disk_):Zq90 d=some (diskF d):=by
 simp only[Zq90,diskF,Option.bind_some]
 by_cases hb:d.1.length≤60∧d.2.1.length≤200
 ·obtain⟨b1,b2⟩:=hb
  have h:Zq88 d d.1 (d.1.length:Int) 0=_:=loop_first d.1 wordsF (fun i hi=>by
   simp only[Zq88.B,lt_dec hi,inB_lt hi,cond_tt,toNat_cast,getD_lt _ hi,Zq255,Option.bind_some,w64_succ (by omega:i<4294967296)]) (by
   simp only[Zq88.B,ge_dec (Nat.le_refl _),cond_ff])
  have hw:w64 ((d.1.length:Int)-1)=(d.1.length:Int)-1:=w64n (by omega) (by omega)
  have h':Zq89 d d.2.1 (d.2.1.length:Int) 0=_:=loop_first d.2.1 (putF ((d.1.length:Int)-1)) (fun i hi=>by
   simp only[Zq89.B,Zq87,lt_dec hi,inB_lt hi,cond_tt,toNat_cast,getD_lt _ hi,Zq255,Zq252,hw,Option.bind_some,w64_succ (by omega:i<4294967296),putF]
   cases inR d.2.1[i].1 0 ((d.1.length:Int)-1)<;>rfl) (by
   simp only[Zq89.B,ge_dec (Nat.le_refl _),cond_ff])
  rw[big_ff b1 b2,cond_ff,cond_ff,h,h',sel_first,sel_first,first_zero]
  cases (firstC wordsF d.1 != 0)<;>rfl
 ·rw[big_tt hb];rfl
structure DiskOk (d:Disk_):Prop where
 l1:d.1.length≤60
 l2:d.2.1.length≤200
 w1:∀ w∈d.1,w.length≤64∧∀ x∈w,0≤x∧x≤65535
 w2:∀ p∈d.2.1,(0≤p.1∧p.1≤(d.1.length:Int)-1)∧p.2.1.length≤64∧∀ x∈p.2.1,0≤x∧x≤65535
theorem DiskOk.of {d:Disk_} (h:diskF d=0):DiskOk d:=by
 unfold diskF at h
 by_cases hb:d.1.length≤60∧d.2.1.length≤200
 ·obtain⟨b1,b2⟩:=hb
  rw[big_ff b1 b2,cond_ff] at h
  cases hc:(firstC wordsF d.1 != 0) with
  |true=>rw[hc,cond_tt] at h;simp[h] at hc
  |false=>
   rw[hc,cond_ff] at h
   refine⟨b1,b2,fun w hw=>wordsF_ok (firstC_zero.1 (by simpa using hc) w hw),fun p hp=>?_⟩
   have hp:=firstC_zero.1 h p hp
   unfold putF at hp
   cases hr:inR p.1 0 ((d.1.length:Int)-1) with
   |false=>rw[hr] at hp;cases hp
   |true=>rw[hr] at hp;exact⟨inR_iff.1 hr,wordsF_ok hp⟩
 ·rw[big_tt hb] at h;cases h
def blockF (d:Disk_) (at_:Int):List Int:=match lastIx d.2.1 at_ d.2.1.length with
 |some j=>(d.2.1.getD j (0,[],())).2.1
 |none=>d.1.getD at_.toNat []
theorem blockP_eq {d:Disk_} (h:d.2.1.length≤200) {at_:Int} (h0:0≤at_) (h1:at_<(d.1.length:Int)):blockP d at_=some (blockF d at_):=by
 simp only[blockP,blockF]
 rw[show decide (d.2.1.length≤2147483648)=true by simp;omega,cond_tt]
 cases lastIx d.2.1 at_ d.2.1.length with
 |some j=>rfl
 |none=>simp only[inB,decide_eq_true h0,decide_eq_true h1,Bool.and_self,cond_tt]
theorem Zq300 {d:Disk_} (h:d.2.1.length≤200) {at_:Int} (h0:0≤at_) (h1:at_<(d.1.length:Int)):Zq91 d at_=some (blockF d at_):=blockP_eq h h0 h1
theorem Zq301 {d:Disk_} (h:d.2.1.length≤200) (at_:Int):∀ (k:Nat),k≤d.2.1.length→Zq21 d at_ ((k:Int)-1)=some (match lastIx d.2.1 at_ k with | some j=>.inl (d.2.1.getD j (0,[],())).2.1 | none=>.inr ())
 |0,_=>loopL_done (by
  show Zq21.B d at_ (((0:Nat):Int)-1)=some (.inr (.inr ()))
  unfold Zq21.B
  rw[show decide ((((0:Nat):Int)-1)≥0)=false by simp];rfl)
 |k+1,hk=>by
  have e:((k+1:Nat):Int)-1=(k:Int):=by omega
  have hlt:k<d.2.1.length:=by omega
  rw[e]
  have hB:Zq21.B d at_ (k:Int)=cond (d.2.1[k].1 == at_) (some (.inr (.inl d.2.1[k].2.1))) (some (.inl ((k:Int)-1))):=by
   simp only[Zq21.B,inB_lt hlt,toNat_cast,getD_lt _ hlt,cond_tt,show decide ((k:Int)≥0)=true by simp,w64n (by omega : -9223372036854775808≤(k:Int)-1) (by omega)]
  have eg:d.2.1.getD k (0,[],())=d.2.1[k]:=getD_lt _ hlt
  by_cases hc:d.2.1[k].1=at_
  ·rw[show Zq21 d at_ (k:Int)=some (.inl d.2.1[k].2.1) from loopL_done (by
    show Zq21.B d at_ (k:Int)=_
    rw[hB,show(d.2.1[k].1 == at_)=true by simpa using hc,cond_tt])]
   simp only[lastIx,eg,if_pos hc]
  ·rw[show Zq21 d at_ (k:Int)=Zq21 d at_ ((k:Int)-1) from loopL_step (by
    show Zq21.B d at_ (k:Int)=_
    rw[hB,show(d.2.1[k].1 == at_)=false by simpa using hc,cond_ff]),Zq301 h at_ k (by omega)]
   simp only[lastIx,eg,if_neg hc]
theorem Zq302 {d:Disk_} (h:d.2.1.length≤200) {at_:Int} (h0:0≤at_) (h1:at_<(d.1.length:Int)):Zq22 d at_=some (blockF d at_):=by
 simp only[Zq22,blockF]
 rw[w64n (by omega : -9223372036854775808≤(d.2.1.length:Int)-1) (by omega),Zq301 h at_ _ (Nat.le_refl _)]
 cases lastIx d.2.1 at_ d.2.1.length with
 |some j=>rfl
 |none=>simp only[Option.bind_some,sel,inB,decide_eq_true h0,decide_eq_true h1,Bool.and_self,cond_tt]
def seqF (d:Disk_):Int×Int:=cond (diskF d != 0) (0,diskF d) (cond ((d.1.length:Int) != 47) (0,1) (cond (cond (((blockF d 0).length:Int) != 2) true ((blockF d 0).getD 0 0 != 7)) (0,5) (cond (!inR ((blockF d 0).getD 1 0) 1 60000) (0,5) ((blockF d 0).getD 1 0,0))))
theorem Zq303 (d:Disk_):Zq93 d=some (seqF d):=by
 simp only[Zq93,seqF,Zq299,Option.bind_some]
 cases h:(diskF d != 0) with
 |true=>rfl
 |false=>
  have hok:=DiskOk.of (by simpa using h)
  simp only[cond_ff]
  cases h1:((d.1.length:Int) != 47) with
  |true=>rfl
  |false=>
   have h47:(d.1.length:Int)=47:=by simpa using h1
   simp only[cond_ff,Zq300 hok.l2 (Int.le_refl 0) (by omega),Option.bind_some]
   cases h2:(((blockF d 0).length:Int) != 2) with
   |true=>rfl
   |false=>
    have hl2:(blockF d 0).length=2:=by have:((blockF d 0).length:Int)=2:=by simpa using h2
                                       omega
    rw[hl2]
    simp only[cond_ff,cond_tt,Bool.not_false,show inB 0 2=true from rfl,show inB 1 2=true from rfl,Zq92,Zq252,Option.bind_some,Int.toNat_zero,show(1:Int).toNat=1 from rfl]
    cases ((blockF d 0).getD 0 0 != 7) with
    |true=>rfl
    |false=>cases inR ((blockF d 0).getD 1 0) 1 60000<;>rfl
theorem Zq304 (d:Disk_):Zq24 d=some ((seqF d).2,(seqF d).1,()):=by
 simp only[Zq24,seqF,Zq298,Option.bind_some]
 cases h:(diskF d != 0) with
 |true=>rfl
 |false=>
  have hok:=DiskOk.of (by simpa using h)
  simp only[cond_ff]
  cases h1:((d.1.length:Int) != 47) with
  |true=>rfl
  |false=>
   have h47:(d.1.length:Int)=47:=by simpa using h1
   simp only[cond_ff,Zq302 hok.l2 (Int.le_refl 0) (by omega),Option.bind_some]
   cases h2:(((blockF d 0).length:Int) != 2) with
   |true=>rfl
   |false=>
    have hl2:(blockF d 0).length=2:=by have:((blockF d 0).length:Int)=2:=by simpa using h2
                                       omega
    rw[hl2]
    simp only[cond_ff,cond_tt,Bool.not_false,show inB 0 2=true from rfl,show inB 1 2=true from rfl,Zq23,Zq251,Option.bind_some,Int.toNat_zero,show(1:Int).toNat=1 from rfl]
    cases ((blockF d 0).getD 0 0 != 7) with
    |true=>rfl
    |false=>cases inR ((blockF d 0).getD 1 0) 1 60000<;>rfl
theorem eq_fold:∀ (a b:List Int) (c:List Int) (i:Nat),c.drop i=b→a.length=b.length→
  foldE (τ:=Unit) (fun i x _=>cond (x != c.getD i 0) (.inr (.inl false)) (.inl ())) (fun _=>(.inr ():Bool⊕Unit)) i a ()=cond (a == b) (.inr ()) (.inl false)
 |[],[],c,i,h,hl=>rfl
 |x::a,y::b,c,i,h,hl=>by
  have hc:c.getD i 0=y:=by
   have:(c.drop i)[0]? = some y:=by rw[h];rfl
   rw[List.getElem?_drop] at this
   simp only[Nat.add_zero] at this
   simp[List.getD,this]
  have hd:c.drop (i+1)=b:=by
   have:(c.drop i).drop 1=b:=by rw[h];rfl
   rwa [List.drop_drop] at this
  simp only[foldE,hc]
  cases he:(x != y) with
  |true=>
   have:(x::a == y::b)=false:=by
    have hne:x≠y:=by simpa using he
    simp[hne]
   rw[this];rfl
  |false=>
   have hxy:x=y:=by simpa using he
   subst hxy
   have ih:=eq_fold a b c (i+1) hd (by simpa using hl)
   simp only[cond_ff,sel]
   rw[ih]
   have:(x::a == x::b)=(a == b):=by simp
   rw[this]
theorem loop_eq {f:Int→Option (Int⊕(Bool⊕Unit))} (a b:List Int) (hl:a.length=b.length)
  (hs:∀ (i:Nat) (h:i<a.length),f (i:Int)=cond (a[i] != b.getD i 0) (some (.inr (.inl false))) (some (.inl ((i+1:Nat):Int)))) (he:f (a.length:Int)=some (.inr (.inr ()))) :
  loopL f 0=some (cond (a == b) (.inr ()) (.inl false)):=by
 rw[loop_list0 (τ:=Unit) a (fun i _=>(i:Int)) (fun i x _=>cond (x != b.getD i 0) (.inr (.inl false)) (.inl ())) (fun _=>(.inr ():Bool⊕Unit)) (fun i hi t=>by rw[hs i hi];cases (a[i] != b.getD i 0)<;>rfl) (fun t=>he) () (s:=0) rfl,eq_fold a b b 0 rfl hl]
theorem eq_len {a b:List Int} (h:a.length≠b.length):(a == b)=false:=by
 have:a≠b:=fun e=>h (by rw[e])
 simpa using this
theorem Zq305 (a b:List Int) (hl:a.length≤2147483648):Zq42 a b=some (a == b):=by
 simp only[Zq42]
 by_cases h:a.length=b.length
 ·rw[show((a.length:Int) != (b.length:Int))=false by simp[h],cond_ff]
  have:=loop_eq (f:=fun s=>Zq41.B a b s) a b h (fun i hi=>by
   simp only[Zq41.B,lt_dec hi,inB_lt hi,inB_lt (show i<b.length by omega),cond_tt,toNat_cast,getD_lt _ hi,w64_succ (by omega:i<4294967296)]) (by
   simp only[Zq41.B,ge_dec (Nat.le_refl _),cond_ff])
  rw[show Zq41 a b 0=_ from this]
  cases (a == b)<;>rfl
 ·rw[show((a.length:Int) != (b.length:Int))=true by simp;omega,cond_tt,eq_len h]
theorem Zq306 (a b:List Int) (hl:a.length≤2147483648):Zq119 a b=some (a == b):=by
 simp only[Zq119]
 by_cases h:a.length=b.length
 ·rw[show((a.length:Int) != (b.length:Int))=false by simp[h],cond_ff]
  have:=loop_eq (f:=fun s=>Zq118.B a b (a.length:Int) s) a b h (fun i hi=>by
   simp only[Zq118.B,lt_dec hi,inB_lt hi,inB_lt (show i<b.length by omega),cond_tt,toNat_cast,getD_lt _ hi,w64_succ (by omega:i<4294967296)]) (by
   simp only[Zq118.B,ge_dec (Nat.le_refl _),cond_ff])
  rw[show Zq118 a b (a.length:Int) 0=_ from this]
  cases (a == b)<;>rfl
 ·rw[show((a.length:Int) != (b.length:Int))=true by simp;omega,cond_tt,eq_len h]
theorem blockF_len {d:Disk_} (hok:DiskOk d) (at_:Int):(blockF d at_).length≤64:=by
 unfold blockF
 cases h:lastIx d.2.1 at_ d.2.1.length with
 |some j=>
  have hj:j<d.2.1.length:=by
   have:∀ (ps:List (Int×List Int×Unit)) (k j:Nat),lastIx ps at_ k=some j→j<k:=by
    intro ps k
    induction k with
    |zero=>intro j h;cases h
    |succ k ih=>
     intro j h
     unfold lastIx at h
     split at h
     ·cases h;omega
     ·have:=ih j h;omega
   exact this _ _ _ h
  show(d.2.1.getD j (0,[],())).2.1.length≤64
  rw[show d.2.1.getD j (0,[],())=d.2.1[j] from getD_lt _ hj]
  exact(hok.w2 _ (List.getElem_mem hj)).2.1
 |none=>
  show(d.1.getD at_.toNat []).length≤64
  rw[List.getD_eq_getElem?_getD]
  cases h2:d.1[at_.toNat]? with
  |none=>simp
  |some w=>exact(hok.w1 w (List.mem_of_getElem? h2)).1
theorem seqF_ok {d:Disk_} (h:(seqF d).2=0):DiskOk d∧(d.1.length:Int)=47:=by
 unfold seqF at h
 cases h1:(diskF d != 0) with
 |true=>
  rw[h1,cond_tt] at h
  have h':diskF d=0:=h
  rw[h'] at h1;cases h1
 |false=>
  rw[h1,cond_ff] at h
  refine⟨DiskOk.of (by simpa using h1),?_⟩
  cases h2:((d.1.length:Int) != 47) with
  |true=>rw[h2] at h;cases h
  |false=>simpa using h2
theorem seqF_rng {d:Disk_} (h:(seqF d).2=0):1≤(seqF d).1∧(seqF d).1≤60000:=by
 unfold seqF at h ⊢
 cases h1:(diskF d != 0) with
 |true=>rw[h1,cond_tt] at h;have h':diskF d=0:=h;rw[h'] at h1;cases h1
 |false=>
  rw[h1,cond_ff] at h
  cases h2:((d.1.length:Int) != 47) with
  |true=>rw[h2] at h;cases h
  |false=>
   rw[h2,cond_ff] at h
   cases h3:(cond (((blockF d 0).length:Int) != 2) true ((blockF d 0).getD 0 0 != 7)) with
   |true=>rw[h3] at h;cases h
   |false=>
    rw[h3,cond_ff] at h
    cases h4:inR ((blockF d 0).getD 1 0) 1 60000 with
    |false=>rw[h4] at h;cases h
    |true=>exact inR_iff.1 h4
theorem DiskOk.zero {d:Disk_} (h:DiskOk d):diskF d=0:=by
 have hw:∀ w:List Int,w.length≤64→(∀ x∈w,0≤x∧x≤65535)→wordsF w=0:=fun w h1 h2=>by
  unfold wordsF
  rw[show decide ((w.length:Int)>64)=false by simp;omega,cond_ff]
  rw[show(w.any fun x=>!inR x 0 65535)=false from List.any_eq_false.2 (fun x hx=>by
   have:=inR_iff.2 (h2 x hx);simp[this])]
  rfl
 unfold diskF
 rw[big_ff h.l1 h.l2,cond_ff]
 rw[firstC_zero.2 (fun w hm=>hw w (h.w1 w hm).1 (h.w1 w hm).2)]
 show cond ((0:Int) != 0) _ _=0
 rw[show((0:Int) != 0)=false from rfl,cond_ff]
 refine firstC_zero.2 (fun p hm=>?_)
 obtain⟨h1,h2,h3⟩:=h.w2 p hm
 unfold putF
 rw[inR_iff.2 h1]
 exact hw _ h2 h3
structure Disk47 (d:Disk_):Prop where
 ok:DiskOk d
 l:d.1.length=47
theorem blockF_rng {d:Disk_} (hok:DiskOk d) (at_:Int):∀ x∈blockF d at_,0≤x∧x≤65535:=by
 unfold blockF
 cases h:lastIx d.2.1 at_ d.2.1.length with
 |some j=>
  have hj:j<d.2.1.length:=by
   have:∀ (ps:List (Int×List Int×Unit)) (k j:Nat),lastIx ps at_ k=some j→j<k:=by
    intro ps k
    induction k with
    |zero=>intro j h;cases h
    |succ k ih=>
     intro j h
     unfold lastIx at h
     split at h
     ·cases h;omega
     ·have:=ih j h;omega
   exact this _ _ _ h
  show ∀ x∈(d.2.1.getD j (0,[],())).2.1,_
  rw[show d.2.1.getD j (0,[],())=d.2.1[j] from getD_lt _ hj]
  exact(hok.w2 _ (List.getElem_mem hj)).2.2
 |none=>
  show ∀ x∈d.1.getD at_.toNat [],_
  rw[List.getD_eq_getElem?_getD]
  cases h2:d.1[at_.toNat]? with
  |none=>intro x hx;simp at hx
  |some w=>exact(hok.w1 w (List.mem_of_getElem? h2)).2
def Wok (w:List Int):Prop:=w.length≤64∧∀ x∈w,0≤x∧x≤65535
def byt (v:Int):UInt8:=UInt8.ofNat (IntKind.u8.wrap v).toNat
theorem u8_id {x:Int} (h1:0≤x) (h2:x≤255):IntKind.u8.wrap x=x:=by
 simp[IntKind.wrap,IntKind.bits,IntKind.signed];omega
theorem byt_of (b:UInt8):byt (b.toNat:Int)=b:=by
 have:=b.toNat_lt
 unfold byt;rw[u8_id (by omega) (by omega),Int.toNat_natCast,UInt8.ofNat_toNat]
theorem foldE_stop {α β ρ:Type} (p:α→Bool) (g:α→β) (r:ρ) (e:List β→ρ):∀ (l:List α) (i:Nat) (t:List β),foldE (fun _ v t=>cond (p v) (.inr r) (.inl (t++[g v]))) e i l t=cond (l.any p) r (e (t++l.map g))
 |[],i,t=>by simp[foldE]
 |x::l,i,t=>by
  simp only[foldE,List.any_cons]
  cases h:p x
  ·simp only[cond_false,sel,Bool.false_or];rw[foldE_stop p g r e l (i+1)];simp
  ·rfl
def over8 (v:Int):Bool:=decide (v>255)
theorem rd_l1 (w1:List Int) (v5:Int) (v7:List Int) (v8 v9:Int) (v10:List Int) (r2 v11:Int) (v4:Bool) (l:List Int) (v3 x:Inode_) (a:Int) (hl:l.length≤64) :
  Zq96 w1 v5 v7 v8 v9 v10 r2 v11 v4 l (l.length:Int) v3 x (0,([],a,()))=some (cond (l.any over8) (.inl (false,zInode_)) (.inr (l.map byt,a,()))):=by
 have h:=loop_listI0 (τ:=List UInt8) l (f:=fun s=>Zq96.B w1 v5 v7 v8 v9 v10 r2 v11 v4 l (l.length:Int) v3 x s.1 s.2) (fun i t=>((i:Int),(t,a,()))) (fun _ v t=>cond (over8 v) (.inr (.inl (false,zInode_))) (.inl (t++[byt v])))
  (fun t=>(.inr (t,a,()):(Bool×Inode_)⊕Entry_)) (fun i t=>t.length=i)
  (fun i hi t ht=>by
   simp only[Zq96.B,lt_dec hi,inB_lt hi,cond_tt,toNat_cast,getD_lt _ hi,Option.bind_some,w64_succ (by omega:i<4294967296),List.map_cons,List.map_nil,List.length_cons,List.length_nil]
   rw[show decide (t.length+(0+1)≤2147483648)=true by simp;omega]
   show cond (over8 l[i]) _ _=_
   cases over8 l[i]<;>rfl)
  (fun i hi t t' ht e=>by
   cases h:over8 l[i] with
   |true=>rw[h] at e;cases e
   |false=>rw[h] at e;cases e;simp[ht])
  (fun t ht=>by simp only[Zq96.B,ge_dec (Nat.le_refl _),cond_ff]) [] rfl (s:=(0,([],a,()))) rfl
 rw[foldE_stop] at h
 exact h
def rdE:Nat→List Int→List Entry_→Option (List Entry_)
 |0,_,es=>some es
 |n+1,ws,es=>match ws with
  |[]=>some es
  |[_]=>none
  |a::m::rest=>if m>(rest.length:Int) then none else if (rest.take m.toNat).any over8=true then none else rdE n (rest.drop m.toNat) (es++[((rest.take m.toNat).map byt,a,())])
theorem rd_B (v3:Inode_) (a m:Int) (rest:List Int) (x:Inode_) (h:Wok (a::m::rest)) (hx:x.2.2.2.2.1.length≤1000) :
  Zq97.B v3 (a::m::rest) x=if m>(rest.length:Int) then some (.inr (.inl (false,zInode_))) else if (rest.take m.toNat).any over8=true then some (.inr (.inl (false,zInode_))) else
   some (.inl (rest.drop m.toNat,(x.1,x.2.1,x.2.2.1,x.2.2.2.1,x.2.2.2.2.1++[((rest.take m.toNat).map byt,a,())],x.2.2.2.2.2))):=by
 obtain⟨hl,hv⟩:=h
 simp only[List.length_cons] at hl
 have hm:=hv m (by simp)
 have h2:w64 (((rest.length+1+1:Nat):Int)-2)=(rest.length:Int):=by rw[w64n (by omega) (by omega)];omega
 have h3:w64 (2+m)=2+m:=w64n (by omega) (by omega)
 simp only[Zq97.B,List.length_cons,Zq95,Option.bind_some,h2,h3,List.getD_cons_zero,List.getD_cons_succ,show(1:Int).toNat=1 from rfl,show(0:Int).toNat=0 from rfl]
 rw[show decide (((rest.length+1+1:Nat):Int)>0)=true by simp;omega,show decide (((rest.length+1+1:Nat):Int)<2)=false by simp;omega,
  show inB 1 (rest.length+1+1)=true from inB_ok (by omega) (by omega),show inB 0 (rest.length+1+1)=true from inB_ok (by omega) (by omega)]
 simp only[cond_tt,cond_ff]
 by_cases hc:m>(rest.length:Int)
 ·rw[if_pos hc,show decide (m>(rest.length:Int))=true by simp;omega];rfl
 ·rw[if_neg hc,show decide (m>(rest.length:Int))=false by simp;omega]
  have e1:(2+m).toNat=m.toNat+2:=by omega
  have e2:((a::m::rest).take (2+m).toNat).drop ((2:Int).toNat)=rest.take m.toNat:=by rw[e1];rfl
  have e3:((a::m::rest).take (rest.length+1+1)).drop (2+m).toNat=rest.drop m.toNat:=by
   rw[e1,List.take_of_length_le (by simp)];rfl
  rw[e2,e3,rd_l1 _ _ _ _ _ _ _ _ _ _ _ _ _ (by rw[List.length_take];omega)]
  rw[show(decide ((0:Int)≤2+m)&&decide (2+m≤((rest.length+1+1:Nat):Int))&&(decide ((0:Int)≤2)&&decide ((2:Int)≤2+m)))=true by simp;omega,
   show(decide ((0:Int)≤2+m)&&decide (2+m≤((rest.length+1+1:Nat):Int)))=true by simp;omega]
  simp only[cond_tt,cond_ff]
  cases ha:(rest.take m.toNat).any over8 with
  |true=>rfl
  |false=>
   simp only[cond_ff,Option.bind_some,sel_inr]
   rw[dlen (by simp;omega)]
   simp
theorem rd_l0 (v3:Inode_):∀ (n:Nat) (ws:List Int) (x:Inode_),ws.length<n→Wok ws→x.2.2.2.2.1.length+ws.length≤1000→
  Zq97 v3 (ws,x)=some (match rdE n ws x.2.2.2.2.1 with | some es=>.inr (x.1,x.2.1,x.2.2.1,x.2.2.2.1,es,()) | none=>.inl (false,zInode_))
 |0,ws,x,h,_,_=>by omega
 |n+1,[],x,h,hw,hx=>by
  exact loopL_done (f:=fun s=>Zq97.B v3 s.1 s.2) (by rfl)
 |n+1,[a],x,h,hw,hx=>by
  exact loopL_done (f:=fun s=>Zq97.B v3 s.1 s.2) (by rfl)
 |n+1,a::m::rest,x,h,hw,hx=>by
  have hB:=rd_B v3 a m rest x hw (by omega)
  have hl:=hw.1
  simp only[List.length_cons] at h hx hl
  simp only[rdE]
  by_cases hc:m>(rest.length:Int)
  ·rw[if_pos hc] at hB ⊢
   exact loopL_done (f:=fun s=>Zq97.B v3 s.1 s.2) hB
  ·rw[if_neg hc] at hB ⊢
   cases ha:(rest.take m.toNat).any over8 with
   |true=>
    rw[ha,if_pos rfl] at hB;rw[if_pos rfl]
    exact loopL_done (f:=fun s=>Zq97.B v3 s.1 s.2) hB
   |false=>
    rw[ha,if_neg (by simp)] at hB;rw[if_neg (by simp)]
    show loopL (fun s=>Zq97.B v3 s.1 s.2) (a::m::rest,x)=_
    rw[loopL_step (f:=fun s=>Zq97.B v3 s.1 s.2) hB]
    exact rd_l0 v3 n _ _ (by rw[List.length_drop];omega) ⟨by rw[List.length_drop];omega,fun y hy=>hw.2 y (by simp[List.mem_of_mem_drop hy])⟩ (by simp;omega)
def readF (w:List Int):Inode_×Bool:=
 if w.length<3 then(zInode_,false) else if w.getD 0 0≠2 then((w.getD 0 0,w.getD 1 0,w.getD 2 0,w.drop 3,[],()),true) else
  match w.drop 3 with
  |[]=>(zInode_,false)
  |_::ws=>match rdE 64 ws [] with
   |some es=>((w.getD 0 0,w.getD 1 0,w.getD 2 0,[],es,()),true)
   |none=>(zInode_,false)
theorem Zq307 {w:List Int} (h:Wok w):Zq98 w=some (readF w):=by
 obtain⟨hl,hv⟩:=h
 unfold readF
 by_cases h3:w.length<3
 ·rw[if_pos h3]
  simp only[Zq98]
  rw[show decide ((w.length:Int)<3)=true by simp;omega];rfl
 ·rw[if_neg h3]
  have i0:inB 0 w.length=true:=inB_ok (by omega) (by omega)
  have i1:inB 1 w.length=true:=inB_ok (by omega) (by omega)
  have i2:inB 2 w.length=true:=inB_ok (by omega) (by omega)
  simp only[Zq98,i0,i1,i2,List.take_length,show(0:Int).toNat=0 from rfl,show(1:Int).toNat=1 from rfl,show(2:Int).toNat=2 from rfl,show(3:Int).toNat=3 from rfl]
  rw[show decide ((w.length:Int)<3)=false by simp;omega,show(decide ((0:Int)≤(3:Int))&&decide ((3:Int)≤(w.length:Int)))=true by simp;omega]
  simp only[cond_tt,cond_ff]
  by_cases h2:w.getD 0 0=2
  ·rw[if_neg (by simpa using h2),show(w.getD 0 0 != 2)=false by rw[h2];rfl]
   simp only[cond_ff,Option.bind_some]
   cases hd:w.drop 3 with
   |nil=>rfl
   |cons a ws=>
    have hws:ws.length+1+3=w.length:=by
     have:=congrArg List.length hd;simp at this;omega
    have hm:∀ y∈ws,y∈w:=fun y hy=>List.mem_of_mem_drop (i:=3) (by rw[hd];exact List.mem_cons_of_mem _ hy)
    rw[show(((a::ws).length:Int) == 0)=false by simp;omega,show(decide ((0:Int)≤(1:Int))&&decide ((1:Int)≤((a::ws).length:Int)))=true by simp;omega]
    simp only[cond_tt,cond_ff,List.take_length,List.drop_succ_cons,List.drop_zero]
    rw[rd_l0 _ 64 ws _ (by omega) ⟨by omega,fun y hy=>hv y (hm y hy)⟩ (by simp;omega)]
    simp only[Option.bind_some]
    cases rdE 64 ws []<;>rfl
  ·rw[if_pos h2,show(w.getD 0 0 != 2)=true by simpa using h2]
   simp only[cond_tt,Zq94]
   rw[cloneP_ok (by simp;omega)]
   rfl
theorem rdE_pack:∀ (l:List Entry_) (n:Nat) (es:List Entry_),(∀ e∈l,e.1.length≤4)→l.length<n→rdE n (l.flatMap packE) es=some (es++l)
 |[],n+1,es,_,_=>by simp[rdE]
 |e::l,n+1,es,h,hn=>by
  have h1:=h e (List.mem_cons_self ..)
  simp only[List.length_cons] at hn
  have e0:(e::l).flatMap packE=e.2.1::(e.1.length:Int)::((e.1.map fun b=>(b.toNat:Int))++l.flatMap packE):=by simp[packE]
  rw[e0]
  simp only[rdE]
  have hl:(e.1.map fun b=>(b.toNat:Int)).length=e.1.length:=by simp
  have et:((e.1.map fun b=>(b.toNat:Int))++l.flatMap packE).take e.1.length=e.1.map fun b=>(b.toNat:Int):=by rw[List.take_append_of_le_length (by omega),List.take_of_length_le (by omega)]
  have ed:((e.1.map fun b=>(b.toNat:Int))++l.flatMap packE).drop e.1.length=l.flatMap packE:=by rw[List.drop_append_of_le_length (by omega),List.drop_of_length_le (by omega)];rfl
  rw[if_neg (by rw[List.length_append,hl];omega),Int.toNat_natCast,et,ed,if_neg (by
   simp only[List.any_map,Function.comp_def,over8,List.any_eq_true,decide_eq_true_eq,not_exists,not_and]
   intro b _;have:=b.toNat_lt;omega)]
  have em:(e.1.map fun b=>(b.toNat:Int)).map byt=e.1:=by
   rw[List.map_map];conv=>rhs;rw[←List.map_id e.1]
   exact List.map_congr_left fun b _=>byt_of b
  rw[em,rdE_pack l n _ (fun x hx=>h x (List.mem_cons_of_mem _ hx)) (by omega)]
  simp
theorem rdE_bd:∀ (n:Nat) (ws:List Int) (es es':List Entry_),rdE n ws es=some es'→ws.length≤64→es'.length≤es.length+ws.length∧∀ e∈es',e∈es∨e.1.length≤64
 |0,ws,es,es',h,_=>by simp only[rdE,Option.some.injEq] at h;subst h;exact⟨by omega,fun e he=>.inl he⟩
 |n+1,[],es,es',h,_=>by simp only[rdE,Option.some.injEq] at h;subst h;exact⟨by omega,fun e he=>.inl he⟩
 |n+1,[a],es,es',h,_=>by simp[rdE] at h
 |n+1,a::m::rest,es,es',h,hl=>by
  simp only[rdE] at h
  simp only[List.length_cons] at hl
  split at h
  ·cases h
  ·split at h
   ·cases h
   ·obtain⟨h1,h2⟩:=rdE_bd n _ _ _ h (by rw[List.length_drop];omega)
    refine⟨by simp only[List.length_append,List.length_drop,List.length_cons,List.length_nil] at h1 ⊢;omega,fun e he=>?_⟩
    rcases h2 e he with h3 | h3
    ·rcases List.mem_append.1 h3 with h3 | h3
     ·exact .inl h3
     ·simp only[List.mem_singleton] at h3;subst h3;right;simp only[List.length_map,List.length_take];omega
    ·exact .inr h3
theorem Bd_inode {a b c:Int} {bs:List Int} {es:List Entry_} (h1:bs.length≤64) (h2:es.length≤1000) (h3:∀ e∈es,e.1.length≤64):Bd tInode_ (a,b,c,bs,es,()):=
 ⟨trivial,trivial,trivial,⟨by show bs.length≤_;omega,fun _ _=>trivial⟩,⟨by show es.length≤_;omega,fun e he=>⟨by show e.1.length≤_;have:=h3 e he;omega,trivial,trivial⟩⟩,trivial⟩
theorem readF_bd {w:List Int} (h:w.length≤64):Bd tInode_ (readF w).1:=by
 have hz:Bd tInode_ zInode_:=Bd_inode (by simp) (by simp) (by simp)
 unfold readF
 split
 ·exact hz
 ·split
  ·exact Bd_inode (by simp;omega) (by simp) (by simp)
  ·split
   ·exact hz
   ·rename_i a ws hd
    have hws:ws.length+1+3=w.length:=by have:=congrArg List.length hd;simp at this;omega
    split
    ·rename_i es he
     obtain⟨h1,h2⟩:=rdE_bd _ _ _ _ he (by omega)
     exact Bd_inode (by simp) (by simp at h1;omega) (fun e hx=>(h2 e hx).resolve_left (by simp))
    ·exact hz
theorem pack_dir {y:Inode_} (h:inodeF y=0) (h2:y.1=2):packF y=2::y.2.1::y.2.2.1::(y.2.2.2.2.1.length:Int)::y.2.2.2.2.1.flatMap packE∧y.2.2.2.1=[]:=by
 have hb:=(inodeF_file h).2.2.1 (by rw[h2];decide)
 refine⟨?_,hb⟩
 unfold packF
 rw[show(y.1 != 2)=false by rw[h2];rfl,cond_ff,hb,h2];simp
theorem pack_file {y:Inode_} (h:inodeF y=0) (h2:y.1≠2):packF y=y.1::y.2.1::y.2.2.1::y.2.2.2.1∧y.2.2.2.2.1=[]:=by
 refine⟨?_,(inodeF_dir h).2.2.1 h2⟩
 unfold packF
 rw[show(y.1 != 2)=true by simpa using h2,cond_tt];simp
theorem readF_pack {y:Inode_} (h:inodeF y=0):readF (packF y)=(y,true):=by
 obtain⟨k,l,s,bs,es,⟨⟩⟩:=y
 have hs:=SmallI.of h
 by_cases h2:k=2
 ·subst h2
  obtain⟨e1,e2⟩:=pack_dir h rfl
  simp only at e1 e2
  subst e2
  rw[e1]
  unfold readF
  rw[if_neg (by simp),if_neg (by simp)]
  simp only[List.drop_succ_cons,List.drop_zero,List.getD_cons_zero,List.getD_cons_succ]
  rw[rdE_pack es 64 [] hs.nam (by have:=hs.ent;simp only at this;omega)]
  rfl
 ·obtain⟨e1,e2⟩:=pack_file h h2
  simp only at e1 e2
  subst e2
  rw[e1]
  unfold readF
  rw[if_neg (by simp),if_pos (by simpa using h2)]
  rfl
theorem Zq308 (w:List Int) (i:Nat):Zq25 w (i:Int)=some (w.getD i 0):=by
 unfold Zq25
 by_cases h:i<w.length
 ·rw[lt_dec h,inB_lt h];simp
 ·rw[ge_dec (by omega)];simp only[cond_ff];congr 1;simp[List.getD,List.getElem?_eq_none (by omega:w.length≤i)]
def nmC (w:List Int) (at_:Nat):Nat:=min (w.getD (at_+1) 0).toNat 8
def nmF (w:List Int) (at_:Nat):List UInt8:=(List.range (nmC w at_)).map fun i=>byt ((w.getD (at_+2+i) 0).tmod 256)
theorem sp_l1 (w:List Int) (k r4:Int) (v4:Int) (v5:List Int) (v6:Bool) (v2 x:Inode_) (at_:Nat) (a:Int) (h0:0≤w.getD (at_+1) 0) (ha:at_≤1000) :
  Zq43 w k (w.getD (at_+1) 0) v4 v5 r4 v6 v2 x (((at_+2:Nat):Int),0,([],a,()))=some (((at_+2+nmC w at_:Nat):Int),(nmF w at_,a,())):=by
 have hc:nmC w at_≤8:=Nat.min_le_right _ _
 have hr:(List.range (nmC w at_)).length=nmC w at_:=by simp
 have h:=loop_listI0 (τ:=List UInt8) (List.range (nmC w at_)) (f:=fun s=>Zq43.B w k (w.getD (at_+1) 0) v4 v5 r4 v6 v2 x s.1 s.2.1 s.2.2) (fun i t=>(((at_+2+i:Nat):Int),(i:Int),(t,a,())))
  (fun _ j t=>.inl (t++[byt ((w.getD (at_+2+j) 0).tmod 256)])) (fun t=>(((at_+2+nmC w at_:Nat):Int),((t,a,()):Entry_))) (fun i t=>t.length=i)
  (fun i hi t ht=>by
   rw[hr] at hi
   have h1:(i:Int)<w.getD (at_+1) 0:=by unfold nmC at hi;omega
   have h2:(i:Int)<8:=by omega
   simp only[Zq43.B,decide_eq_true h1,decide_eq_true h2,cond_tt,Zq308,Option.bind_some,List.map_cons,List.map_nil,List.length_cons,List.length_nil,w64_succ (by omega:i<4294967296),w64_succ (by omega:at_+2+i<4294967296),List.getElem_range]
   rw[show decide (t.length+(0+1)≤2147483648)=true by simp;omega]
   rfl) (fun i hi t t' ht e=>by cases e;simp[ht]) (fun t ht=>by
   rw[hr]
   have h1:(cond (decide (((nmC w at_:Nat):Int)<w.getD (at_+1) 0)) (decide (((nmC w at_:Nat):Int)<8)) false)=false:=by
    unfold nmC
    by_cases h1:((min (w.getD (at_+1) 0).toNat 8:Nat):Int)<w.getD (at_+1) 0
    ·rw[decide_eq_false (by omega:¬ ((min (w.getD (at_+1) 0).toNat 8:Nat):Int)<8)];cases decide (((min (w.getD (at_+1) 0).toNat 8:Nat):Int)<w.getD (at_+1) 0)<;>rfl
    ·rw[decide_eq_false h1];rfl
   simp only[Zq43.B,h1,cond_ff]) [] rfl (s:=(((at_+2:Nat):Int),0,([],a,()))) rfl
 rw[foldE_map] at h
 exact h
def spE (w:List Int) (kd n:Int):Nat→Nat→Nat→List Entry_→List Entry_
 |0,_,_,es=>es
 |f+1,at_,k,es=>if kd=2∧(k:Int)<n∧at_<w.length then spE w kd n f (at_+2+nmC w at_) (k+1) (es++[(nmF w at_,w.getD at_ 0,())]) else es
theorem nm_len (w:List Int) (at_:Nat):(nmF w at_).length≤8:=by simp only[nmF,List.length_map,List.length_range];exact Nat.min_le_right _ _
theorem wd_pos {w:List Int} (h:Wok w) (i:Nat):0≤w.getD i 0:=by
 by_cases hi:i<w.length
 ·rw[getD_lt _ hi];exact(h.2 _ (List.getElem_mem hi)).1
 ·simp[List.getD,List.getElem?_eq_none (by omega:w.length≤i)]
theorem sp_l0 {w:List Int} (v2:Inode_) (hw:Wok w):∀ (f at_ k:Nat) (x:Inode_),w.length<at_+f→at_≤200→k≤at_→x.2.2.2.2.1.length≤at_→
  Zq44 w v2 ((at_:Int),(k:Int),x)=some (x.1,x.2.1,x.2.2.1,x.2.2.2.1,spE w x.1 (w.getD 3 0) f at_ k x.2.2.2.2.1,())
 |0,at_,k,x,h1,h2,h3,h4=>by
  refine loopL_done (f:=fun s=>Zq44.B w v2 s.1 s.2.1 s.2.2) ?_
  simp only[Zq44.B,show(3:Int)=((3:Nat):Int) from rfl,Zq308,Option.bind_some,spE]
  rw[ge_dec (by omega:w.length≤at_)]
  cases (x.1 == 2)<;>cases decide ((k:Int)<w.getD 3 0)<;>rfl
 |f+1,at_,k,x,h1,h2,h3,h4=>by
  have hl:=hw.1
  simp only[spE]
  by_cases hc:x.1=2∧(k:Int)<w.getD 3 0∧at_<w.length
  ·obtain⟨c1,c2,c3⟩:=hc
   rw[if_pos ⟨c1,c2,c3⟩]
   have hB:Zq44.B w v2 (at_:Int) (k:Int) x=some (.inl (((at_+2+nmC w at_:Nat):Int),((k+1:Nat):Int),(x.1,x.2.1,x.2.2.1,x.2.2.2.1,x.2.2.2.2.1++[(nmF w at_,w.getD at_ 0,())],x.2.2.2.2.2))):=by
    simp only[Zq44.B,show(3:Int)=((3:Nat):Int) from rfl,Zq308,Option.bind_some]
    rw[show(x.1 == 2)=true by rw[c1];rfl,decide_eq_true c2,lt_dec c3,w64_succ (by omega:at_<4294967296),w64_succ (by omega:k<4294967296),show w64 ((at_:Int)+2)=((at_+2:Nat):Int) by rw[w64n (by omega) (by omega)];omega]
    simp only[cond_tt,Zq308,Option.bind_some]
    rw[sp_l1 w _ _ _ _ _ _ _ _ _ (wd_pos hw _) (by omega)]
    simp only[Option.bind_some]
    rw[dlen (by simp;omega)];rfl
   show loopL (fun s=>Zq44.B w v2 s.1 s.2.1 s.2.2) _=_
   rw[loopL_step (f:=fun s=>Zq44.B w v2 s.1 s.2.1 s.2.2) hB]
   have hc:nmC w at_≤8:=Nat.min_le_right _ _
   exact sp_l0 v2 hw f _ _ _ (by omega) (by omega) (by omega) (by simp;omega)
  ·rw[if_neg hc]
   refine loopL_done (f:=fun s=>Zq44.B w v2 s.1 s.2.1 s.2.2) ?_
   simp only[Zq44.B,show(3:Int)=((3:Nat):Int) from rfl,Zq308,Option.bind_some]
   by_cases c1:x.1=2
   ·by_cases c2:(k:Int)<w.getD 3 0
    ·rw[ge_dec (by omega:w.length≤at_),show(x.1 == 2)=true by rw[c1];rfl,decide_eq_true c2];rfl
    ·rw[decide_eq_false c2,show(x.1 == 2)=true by rw[c1];rfl];rfl
   ·rw[show(x.1 == 2)=false by simpa using c1];rfl
theorem sp_l0' {w:List Int} (v2:Inode_) (hw:Wok w) (x:Inode_) (hx:x.2.2.2.2.1=[]):Zq44 w v2 (4,0,x)=some (x.1,x.2.1,x.2.2.1,x.2.2.2.1,spE w x.1 (w.getD 3 0) 64 4 0 [],()):=by
 have h:=sp_l0 v2 hw 64 4 0 x (by have:=hw.1;omega) (by omega) (by omega) (by rw[hx];simp)
 rw[hx] at h
 exact h
theorem spE_pack {w:List Int}:∀ (l:List Entry_) (f k:Nat) (pre:List Int) (es:List Entry_),w=pre++l.flatMap packE→(∀ e∈l,e.1.length≤4)→l.length<f→spE w 2 ((k+l.length:Nat):Int) f pre.length k es=es++l
 |[],f+1,k,pre,es,hw,_,_=>by simp[spE]
 |e::l,f+1,k,pre,es,hw,h,hn=>by
  have h1:=h e (List.mem_cons_self ..)
  simp only[List.length_cons] at hn
  have e0:(e::l).flatMap packE=e.2.1::(e.1.length:Int)::((e.1.map fun b=>(b.toNat:Int))++l.flatMap packE):=by simp[packE]
  have hlen:pre.length<w.length:=by rw[hw,e0];simp
  have g0:w.getD pre.length 0=e.2.1:=by rw[hw,e0];simp[List.getD]
  have g1:w.getD (pre.length+1) 0=(e.1.length:Int):=by rw[hw,e0];simp[List.getD]
  have g2:∀ i (hi:i<e.1.length),w.getD (pre.length+2+i) 0=((e.1[i]).toNat:Int):=fun i hi=>by
   rw[hw,e0]
   simp only[List.getD]
   rw[List.getElem?_append_right (by omega),show pre.length+2+i-pre.length=i+1+1 by omega,List.getElem?_cons_succ,List.getElem?_cons_succ,List.getElem?_append_left (by simpa using hi),List.getElem?_map,List.getElem?_eq_getElem hi];rfl
  have hc:nmC w pre.length=e.1.length:=by unfold nmC;rw[g1];omega
  have hn2:nmF w pre.length=e.1:=by
   unfold nmF;rw[hc]
   refine List.ext_getElem (by simp) fun i hi hi'=>?_
   simp only[List.getElem_map,List.getElem_range]
   have:=(e.1[i]).toNat_lt
   rw[g2 i hi',Int.tmod_eq_of_lt (by omega) (by omega),byt_of]
  simp only[spE]
  rw[if_pos (by refine⟨trivial,?_,hlen⟩;simp only[List.length_cons];omega),hn2,g0,hc]
  have:=spE_pack (w:=w) l f (k+1) (pre++packE e) (es++[(e.1,e.2.1,())]) (by rw[hw];simp) (fun x hx=>h x (List.mem_cons_of_mem _ hx)) (by omega)
  rw[show(pre++packE e).length=pre.length+2+e.1.length by simp[packE];omega,show k+1+l.length=k+(e::l).length by simp;omega] at this
  rw[this];simp
theorem spE_no (w:List Int) (kd n:Int) (h:kd≠2):∀ (f a k:Nat) (es:List Entry_),spE w kd n f a k es=es
 |0,_,_,_=>rfl
 |f+1,_,_,_=>if_neg fun c=>h c.1
theorem spE_bd (w:List Int) (kd n:Int):∀ (f at_ k:Nat) (es:List Entry_),(spE w kd n f at_ k es).length≤es.length+f∧∀ e∈spE w kd n f at_ k es,e∈es∨e.1.length≤64
 |0,at_,k,es=>⟨by simp[spE],fun e he=>.inl he⟩
 |f+1,at_,k,es=>by
  simp only[spE]
  split
  ·obtain⟨h1,h2⟩:=spE_bd w kd n f (at_+2+nmC w at_) (k+1) (es++[(nmF w at_,w.getD at_ 0,())])
   refine⟨by simp only[List.length_append,List.length_cons,List.length_nil] at h1;omega,fun e he=>?_⟩
   rcases h2 e he with h3 | h3
   ·rcases List.mem_append.1 h3 with h3 | h3
    ·exact .inl h3
    ·simp only[List.mem_singleton] at h3;subst h3;right;have:=nm_len w at_;simp only;omega
   ·exact .inr h3
  ·exact⟨by omega,fun e he=>.inl he⟩
def specR (w:List Int):Inode_:=(w.getD 0 0,w.getD 1 0,w.getD 2 0,(if w.getD 0 0=1∧3<w.length then w.drop 3 else[]),spE w (w.getD 0 0) (w.getD 3 0) 64 4 0 [],())
theorem specR_bd {w:List Int} (h:w.length≤64):Bd tInode_ (specR w):=by
 obtain⟨h1,h2⟩:=spE_bd w (w.getD 0 0) (w.getD 3 0) 64 4 0 []
 refine Bd_inode ?_ (by simp only[List.length_nil] at h1;omega) (fun e he=>(h2 e he).resolve_left (by simp))
 split
 ·simp;omega
 ·simp
theorem specR_pack {y:Inode_} (h:inodeF y=0):specR (packF y)=y:=by
 obtain⟨k,l,s,bs,es,⟨⟩⟩:=y
 have hs:=SmallI.of h
 by_cases h2:k=2
 ·subst h2
  obtain⟨e1,e2⟩:=pack_dir h rfl
  simp only at e1 e2
  subst e2
  rw[e1]
  unfold specR
  simp only[List.getD_cons_zero,List.getD_cons_succ]
  rw[if_neg (by simp)]
  have:=spE_pack (w:=2::l::s::(es.length:Int)::es.flatMap packE) es 64 0 [2,l,s,(es.length:Int)] [] (by simp) hs.nam (by have:=hs.ent;simp only at this;omega)
  simp only[Nat.zero_add,List.length_cons,List.length_nil,List.nil_append] at this
  rw[this]
 ·obtain⟨e1,e2⟩:=pack_file h h2
  simp only at e1 e2
  subst e2
  rw[e1]
  unfold specR
  simp only[List.getD_cons_zero,List.getD_cons_succ,List.drop_succ_cons,List.drop_zero,List.length_cons]
  have hsp:∀ n,spE (k::l::s::bs) k n 64 4 0 []=[]:=fun n=>spE_no _ _ _ h2 _ _ _ _
  rw[hsp]
  have hb:=(inodeF_file h).2.2.1
  simp only at hb
  by_cases h1:k=1
  ·by_cases h3:bs=[]
   ·subst h3;simp
   ·have:0<bs.length:=List.length_pos_iff.2 h3
    rw[if_pos ⟨h1,by omega⟩]
  ·rw[if_neg (by simp[h1]),hb h1]
noncomputable def unpF (w:List Int):Option Inode_:=open Classical in if w=[] then some zInode_ else if inodeF (readF w).1=0∧packF (readF w).1=w∧(readF w).2=true then some (readF w).1 else none
theorem unpF_iff {w:List Int} (hw:w≠[]) {y:Inode_}:unpF w=some y↔inodeF y=0∧packF y=w:=by
 unfold unpF
 rw[if_neg hw]
 constructor
 ·intro h
  split at h
  ·rename_i hc;cases h;exact⟨hc.1,hc.2.1⟩
  ·cases h
 ·rintro⟨h1,rfl⟩
  rw[readF_pack h1,if_pos ⟨h1,rfl,rfl⟩]
theorem Zq309 {w:List Int} (h:Wok w):Zq120 w=some (match unpF w with | some y=>(y,0) | none=>(zInode_,5)):=by
 have hwf:wordsF w=0:=by
  unfold wordsF
  rw[show decide ((w.length:Int)>64)=false by have:=h.1;simp;omega,show(w.any fun x=>!inR x 0 65535)=false by
   rw[List.any_eq_false];intro x hx;have:=h.2 x hx;simp[inR_iff.2 this]];rfl
 simp only[Zq120,Zq255,Option.bind_some,hwf]
 by_cases hw:w=[]
 ·subst hw;simp[unpF];rfl
 ·have hlen:0<w.length:=List.length_pos_iff.2 hw
  rw[show(cond ((0:Int) != 0) true ((w.length:Int) == 0))=false by simp;omega,cond_ff,Zq307 h]
  simp only[Option.bind_some]
  have hbd:=readF_bd h.1
  have hno:∀ {b:Bool},(b=true→False)→unpF w=none→True:=fun _ _=>trivial
  cases hr:(readF w).2 with
  |false=>
   have:unpF w=none:=by unfold unpF;rw[if_neg hw,if_neg (by rw[hr];simp)]
   rw[this];rfl
  |true=>
   simp only[Bool.not_true,cond_ff]
   rw[show Zq113 ((readF w).1.1,(readF w).1.2.1,(readF w).1.2.2.1,(readF w).1.2.2.2.1,(readF w).1.2.2.2.2.1,(readF w).1.2.2.2.2.2)=some (inodeF (readF w).1) from Zq266 _ hbd]
   simp only[Option.bind_some]
   by_cases hf:inodeF (readF w).1=0
   ·rw[hf]
    simp only[bne_self,cond_ff]
    rw[show Zq117 ((readF w).1.1,(readF w).1.2.1,(readF w).1.2.2.1,(readF w).1.2.2.2.1,(readF w).1.2.2.2.2.1,(readF w).1.2.2.2.2.2)=some (packF (readF w).1) from Zq297 _ (SmallI.of hf)]
    simp only[Option.bind_some]
    rw[Zq306 _ _ (by have:=packF_len (SmallI.of hf);omega)]
    simp only[Option.bind_some]
    by_cases hp:packF (readF w).1=w
    ·rw[show unpF w=some (readF w).1 from(unpF_iff hw).2 ⟨hf,hp⟩,show(packF (readF w).1 == w)=true by simpa using hp];rfl
    ·rw[show unpF w=none by unfold unpF;rw[if_neg hw,if_neg (by simp[hp])],show(packF (readF w).1 == w)=false by simpa using hp];rfl
   ·rw[show(inodeF (readF w).1 != 0)=true by simpa using hf,show unpF w=none by unfold unpF;rw[if_neg hw,if_neg (by simp[hf])]];rfl
theorem Zq310 {w:List Int} (h:Wok w):∃ z,Zq45 w=some (match unpF w with | some y=>(y,true) | none=>(z,false)):=by
 by_cases hw:w=[]
 ·subst hw;exact⟨zInode_,by simp[unpF];rfl⟩
 ·have hlen:0<w.length:=List.length_pos_iff.2 hw
  have hl:=h.1
  refine⟨specR w,?_⟩
  have fin:(Zq37 (specR w)).bind (fun r=>cond (r == 0) ((Zq40 (specR w)).bind fun q=>(Zq42 q w).bind fun b=>some (specR w,b)) (some (specR w,false)))=some (match unpF w with | some y=>(y,true) | none=>(specR w,false)):=by
   rw[Zq265 _ (specR_bd hl)]
   simp only[Option.bind_some]
   by_cases hf:inodeF (specR w)=0
   ·rw[hf,show((0:Int) == 0)=true from rfl,cond_tt,Zq296 _ (SmallI.of hf)]
    simp only[Option.bind_some]
    rw[Zq305 _ _ (by have:=packF_len (SmallI.of hf);omega)]
    simp only[Option.bind_some]
    by_cases hp:packF (specR w)=w
    ·rw[show unpF w=some (specR w) from(unpF_iff hw).2 ⟨hf,hp⟩,show(packF (specR w) == w)=true by simpa using hp]
    ·have:unpF w=none:=by
      cases hu:unpF w with
      |none=>rfl
      |some y=>
       obtain⟨h1,h2⟩:=(unpF_iff hw).1 hu
       subst h2;rw[specR_pack h1] at hp;exact absurd rfl hp
     rw[this,show(packF (specR w) == w)=false by simpa using hp]
   ·have:unpF w=none:=by
     cases hu:unpF w with
     |none=>rfl
     |some y=>
      obtain⟨h1,h2⟩:=(unpF_iff hw).1 hu
      subst h2;rw[specR_pack h1] at hf;exact absurd h1 hf
    rw[this,show(inodeF (specR w) == 0)=false by simpa using hf,cond_ff]
  have hz:Zq45 w=(Zq37 (specR w)).bind (fun r=>cond (r == 0) ((Zq40 (specR w)).bind fun q=>(Zq42 q w).bind fun b=>some (specR w,b)) (some (specR w,false))):=by
   simp only[Zq45,show(1:Int)=((1:Nat):Int) from rfl,show(2:Int)=((2:Nat):Int) from rfl,Zq308,Option.bind_some,List.take_length,show(0:Int).toNat=0 from rfl,show(3:Int).toNat=3 from rfl]
   rw[show((w.length:Int) == 0)=false by simp;omega,cond_ff,inB_ok (Int.le_refl 0) (by omega:(0:Int)<w.length),cond_tt]
   by_cases hk:w.getD 0 0=1
   ·by_cases h3:3<w.length
    ·rw[show(cond (w.getD 0 0 == ((1:Nat):Int)) (decide ((w.length:Int)>3)) false)=true by rw[hk];simp;omega,cond_tt,show(decide ((0:Int)≤(3:Int))&&decide ((3:Int)≤(w.length:Int)))=true by simp;omega,cond_tt]
     simp only[Zq26,List.nil_append]
     rw[dlen (by simp;omega)]
     simp only[cond_tt,Option.bind_some]
     rw[sp_l0' _ h _ rfl]
     simp only[Option.bind_some]
     rw[show(w.getD 0 0,w.getD 1 0,w.getD 2 0,w.drop 3,spE w (w.getD 0 0) (w.getD 3 0) 64 4 0 [],())=specR w by unfold specR;rw[if_pos ⟨hk,h3⟩]]
    ·rw[show(cond (w.getD 0 0 == ((1:Nat):Int)) (decide ((w.length:Int)>3)) false)=false by rw[hk];simp;omega,cond_ff]
     rw[sp_l0' _ h _ rfl]
     simp only[Option.bind_some]
     rw[show(w.getD 0 0,w.getD 1 0,w.getD 2 0,[],spE w (w.getD 0 0) (w.getD 3 0) 64 4 0 [],())=specR w by unfold specR;rw[if_neg (by omega)]]
   ·rw[show(cond (w.getD 0 0 == ((1:Nat):Int)) (decide ((w.length:Int)>3)) false)=false by rw[show(w.getD 0 0 == ((1:Nat):Int))=false by simpa using hk];rfl,cond_ff]
    rw[sp_l0' _ h _ rfl]
    simp only[Option.bind_some]
    rw[show(w.getD 0 0,w.getD 1 0,w.getD 2 0,[],spE w (w.getD 0 0) (w.getD 3 0) 64 4 0 [],())=specR w by unfold specR;rw[if_neg fun c=>hk c.1]]
  rw[hz,fin]
def SupOk (d:Disk_):Prop:=∃ s:Int,(1≤s∧s≤60000)∧blockF d 0=[7,s]
theorem seqF_sup {d:Disk_} (h:Disk47 d) (hs:SupOk d):(seqF d).2=0:=by
 obtain⟨s,hr,hb⟩:=hs
 unfold seqF
 rw[h.ok.zero,hb,h.l,show inR (([7,s]:List Int).getD 1 0) 1 60000=true from inR_iff.2 hr]
 rfl
theorem sup_of {d:Disk_} (h:(seqF d).2=0):SupOk d:=by
 obtain⟨hok,h47⟩:=seqF_ok h
 have hr:=seqF_rng h
 unfold seqF at h hr
 rw[hok.zero,h47] at h hr
 simp only[show((0:Int) != 0)=false from rfl,show((47:Int) != 47)=false from rfl,cond_ff] at h hr
 generalize hbb:blockF d 0=b at h hr
 cases h3:cond ((b.length:Int) != 2) true (b.getD 0 0 != 7) with
 |true=>rw[h3] at h;cases h
 |false=>
  rw[h3] at h hr
  simp only[cond_ff] at h hr
  cases h4:inR (b.getD 1 0) 1 60000 with
  |false=>rw[h4] at h;cases h
  |true=>
   cases h2:((b.length:Int) != 2) with
   |true=>rw[h2] at h3;cases h3
   |false=>
    rw[h2] at h3
    have h7:b.getD 0 0=7:=by simpa using h3
    have hl:b.length=2:=by have:(b.length:Int)=2:=by simpa using h2
                           omega
    obtain⟨x,y,rfl⟩:∃ x y,b=[x,y]:=by
     match b,hl with
     |[x,y],_=>exact⟨x,y,rfl⟩
    have:x=7:=h7
    subst this
    exact⟨y,inR_iff.1 h4,hbb⟩
def foldO {α τ:Type} (g:α→τ→Option τ):List α→τ→Option τ
 |[],t=>some t
 |x::l,t=>match g x t with
  |none=>none
  |some t'=>foldO g l t'
def optS {τ ρ:Type} (bad:ρ):Option τ→τ⊕ρ
 |none=>.inr bad
 |some t=>.inl t
def optR {τ ρ:Type} (bad:ρ) (e:τ→ρ):Option τ→ρ
 |none=>bad
 |some t=>e t
theorem foldE_opt {α τ ρ:Type} (g:α→τ→Option τ) (bad:ρ) (e:τ→ρ):∀ (l:List α) (k:Nat) (t:τ),foldE (fun _ x t=>optS bad (g x t)) e k l t=optR bad e (foldO g l t)
 |[],k,t=>rfl
 |x::l,k,t=>by
  simp only[foldE,foldO]
  cases g x t with
  |none=>rfl
  |some t'=>exact foldE_opt g bad e l (k+1) t'
noncomputable def inoG (d:Disk_) (i:Nat) (t:List Inode_×Int):Option (List Inode_×Int):=match unpF (blockF d ((17+i:Nat):Int)) with
 |none=>none
 |some y=>some (t.1++[y],cond (decide (((blockF d ((17+i:Nat):Int)).length:Int)>0)) ((i+1:Nat):Int) t.2)
noncomputable def inoF (d:Disk_):Option (List Inode_×Int):=foldO (inoG d) (List.range 10) ([],0)
theorem unpF_ok {w:List Int} {y:Inode_} (h:unpF w=some y):inodeF y=0:=by
 by_cases hw:w=[]
 ·subst hw
  have:zInode_=y:=by simpa [unpF] using h
  subst this;rfl
 ·exact((unpF_iff hw).1 h).1
theorem foldO_inv {d:Disk_}:∀ (n k:Nat) (t t':List Inode_×Int),foldO (inoG d) (List.range' k n) t=some t'→t.1.length=k→(0≤t.2∧t.2≤(k:Int))→(∀ y∈t.1,inodeF y=0)→
  t'.1.length=k+n∧(0≤t'.2∧t'.2≤((k+n:Nat):Int))∧∀ y∈t'.1,inodeF y=0
 |0,k,t,t',h,h1,h2,h3=>by cases h;exact⟨h1,h2,h3⟩
 |n+1,k,t,t',h,h1,h2,h3=>by
  rw[List.range'_succ] at h
  simp only[foldO,inoG] at h
  cases hu:unpF (blockF d ((17+k:Nat):Int)) with
  |none=>rw[hu] at h;cases h
  |some y=>
   rw[hu] at h
   obtain⟨g1,g2,g3⟩:=foldO_inv n (k+1) _ t' h (by simp[h1]) (by
    show 0≤cond _ _ _∧cond _ _ _≤_
    cases decide (((blockF d ((17+k:Nat):Int)).length:Int)>0)
    ·simp only[cond_ff];omega
    ·simp only[cond_tt];omega) (fun z hz=>by
    rcases List.mem_append.1 hz with hz | hz
    ·exact h3 z hz
    ·simp only[List.mem_singleton] at hz;subst hz;exact unpF_ok hu)
   exact⟨by omega,by omega,g3⟩
theorem inoF_ok {d:Disk_} {t:List Inode_×Int} (h:inoF d=some t):t.1.length=10∧(0≤t.2∧t.2≤10)∧∀ y∈t.1,inodeF y=0:=by
 have:=foldO_inv 10 0 ([],0) t (by rw[←List.range_eq_range'];exact h) rfl (by simp) (by simp)
 simpa using this
def noFs:Fs_:=([],[],())
def Dz:List (List Int):=List.replicate 20 []
theorem blockF_wok {d:Disk_} (hok:DiskOk d) (a:Int):Wok (blockF d a):=⟨blockF_len hok a,blockF_rng hok a⟩
theorem Zq311 {d:Disk_} (h:Disk47 d) (D:List (List Int)):Zq158 d noFs (0,0,([],D,()))=some (optR (.inl (5,noFs)) (fun t=>.inr (t.2,(t.1,D,()))) (inoF d)):=by
 have h47:=h.l
 have hh:=loop_listI0 (τ:=List Inode_×Int) (List.range 10) (f:=fun s=>Zq158.B d noFs s.1 s.2.1 s.2.2) (fun i t=>(t.2,((i:Int),(t.1,D,()))))
  (fun _ i t=>optS (.inl (5,noFs)) (inoG d i t)) (fun t=>(.inr (t.2,(t.1,D,())):(Int×Fs_)⊕(Int×Fs_))) (fun i t=>t.1.length=i)
  (fun i hi t ht=>by
   have hi:i<10:=by simpa using hi
   rw[List.getElem_range]
   have e17:w64 ((17:Int)+(i:Int))=((17+i:Nat):Int):=by rw[w64n (by omega) (by omega)];omega
   simp only[Zq158.B,show decide ((i:Int)<10)=true by simp;omega,cond_tt,e17,Zq300 h.ok.l2 (at_:=((17+i:Nat):Int)) (by omega) (by omega),Option.bind_some,Zq309 (blockF_wok h.ok _),inoG,w64_succ (by omega:i<4294967296)]
   cases hu:unpF (blockF d ((17+i:Nat):Int)) with
   |none=>rfl
   |some y=>
    simp only[bne_self_eq_false,cond_ff]
    rw[show decide ((t.1++[(y.1,y.2.1,y.2.2.1,y.2.2.2.1,y.2.2.2.2.1,y.2.2.2.2.2)]).length≤2147483648)=true by simp;omega]
    cases decide (((blockF d ((17+i:Nat):Int)).length:Int)>0)<;>rfl)
  (fun i hi t t' ht e=>by
   rw[List.getElem_range] at e
   simp only[inoG] at e
   cases hu:unpF (blockF d ((17+i:Nat):Int)) with
   |none=>rw[hu] at e;cases e
   |some y=>rw[hu] at e;cases e;simp[ht]) (fun t ht=>by
   rw[List.length_range];rfl) ([],0) rfl (s:=(0,0,([],D,()))) rfl
 rw[foldE_opt] at hh
 rw[show Zq158 d noFs (0,0,([],D,()))=_ from hh];rfl
theorem Zq312 {d:Disk_} (h:Disk47 d) (D:List (List Int)):Zq79 d (0,noFs,()) (0,0,([],D,()))=some (optR (.inl (5,noFs,())) (fun t=>.inr (t.2,(t.1,D,()))) (inoF d)):=by
 have h47:=h.l
 have hh:=loop_listI0 (τ:=List Inode_×Int) (List.range 10) (f:=fun s=>Zq79.B d (0,noFs,()) s.1 s.2.1 s.2.2) (fun i t=>(t.2,((i:Int),(t.1,D,()))))
  (fun _ i t=>optS (.inl (5,noFs,())) (inoG d i t)) (fun t=>(.inr (t.2,(t.1,D,())):FsResult_⊕(Int×Fs_))) (fun i t=>t.1.length=i)
  (fun i hi t ht=>by
   have hi:i<10:=by simpa using hi
   rw[List.getElem_range]
   have e17:w64 ((17:Int)+(i:Int))=((17+i:Nat):Int):=by rw[w64n (by omega) (by omega)];omega
   obtain⟨z,hz⟩:=Zq310 (blockF_wok h.ok ((17+i:Nat):Int))
   simp only[Zq79.B,show decide ((i:Int)<10)=true by simp;omega,cond_tt,e17,Zq302 h.ok.l2 (at_:=((17+i:Nat):Int)) (by omega) (by omega),Option.bind_some,hz,inoG,w64_succ (by omega:i<4294967296)]
   cases hu:unpF (blockF d ((17+i:Nat):Int)) with
   |none=>rfl
   |some y=>
    simp only[Bool.not_true,cond_ff]
    rw[show decide ((t.1++[(y.1,y.2.1,y.2.2.1,y.2.2.2.1,y.2.2.2.2.1,y.2.2.2.2.2)]).length≤2147483648)=true by simp;omega]
    cases decide (((blockF d ((17+i:Nat):Int)).length:Int)>0)<;>rfl)
  (fun i hi t t' ht e=>by
   rw[List.getElem_range] at e
   simp only[inoG] at e
   cases hu:unpF (blockF d ((17+i:Nat):Int)) with
   |none=>rw[hu] at e;cases e
   |some y=>rw[hu] at e;cases e;simp[ht]) (fun t ht=>by
   rw[List.length_range];rfl) ([],0) rfl (s:=(0,0,([],D,()))) rfl
 rw[foldE_opt] at hh
 rw[show Zq79 d (0,noFs,()) (0,0,([],D,()))=_ from hh];rfl
def bad27 (d:Disk_) (v n:Int):Bool:=cond (decide (((blockF d (27+v)).length:Int)<n)) true (((blockF d (27+v)).take n.toNat).any over8)
def dat27 (d:Disk_) (v n:Int):List Int:=((blockF d (27+v)).take n.toNat).map IntKind.u8.wrap
def nF (x:Inode_) (k:Nat):Int:=minF 8 (w64 (x.2.2.1-w64 ((k:Int)*8)))
def pairE (x:Inode_):Nat→List Int→List (Int×Int)
 |_,[]=>[]
 |k,b::bs=>(b,nF x k)::pairE x (k+1) bs
def pairL:List Inode_→List (Int×Int)
 |[]=>[]
 |x::l=>pairE x 0 x.2.2.2.1++pairL l
def wantP:List (Int×Int)→List Int→List Int
 |[],w=>w
 |p::ps,w=>wantP ps (w.set p.1.toNat p.2)
def goP (d:Disk_):List (Int×Int)→List (List Int)→List (List Int)⊕List (List Int)
 |[],D=>.inr D
 |p::ps,D=>cond (bad27 d p.1 p.2) (.inl D) (goP d ps (D.set p.1.toNat (dat27 d p.1 p.2)))
theorem wantP_app:∀ (a b:List (Int×Int)) (w:List Int),wantP (a++b) w=wantP b (wantP a w)
 |[],b,w=>rfl
 |p::a,b,w=>wantP_app a b _
theorem goP_app (d:Disk_):∀ (a b:List (Int×Int)) (D:List (List Int)),goP d (a++b) D=sel (goP d a D) (fun D'=>.inl D') (fun D'=>goP d b D')
 |[],b,D=>rfl
 |p::a,b,D=>by
  simp only[List.cons_append,goP]
  cases bad27 d p.1 p.2 with
  |true=>rfl
  |false=>exact goP_app d a b _
theorem wantE_P (x:Inode_):∀ (bs:List Int) (k:Nat) (w:List Int),wantE x k bs w=wantP (pairE x k bs) w
 |[],k,w=>rfl
 |b::bs,k,w=>wantE_P x bs (k+1) _
theorem wantL_P:∀ (l:List Inode_) (w:List Int),wantL l w=wantP (pairL l) w
 |[],w=>rfl
 |x::l,w=>by
  simp only[wantL,pairL,wantP_app,←wantE_P]
  exact wantL_P l _
theorem pairE_fst (x:Inode_):∀ (bs:List Int) (k:Nat),(pairE x k bs).map (·.1)=bs
 |[],k=>rfl
 |b::bs,k=>by simp only[pairE,List.map_cons,pairE_fst x bs]
theorem pairL_fst:∀ (l:List Inode_),(pairL l).map (·.1)=allB l
 |[]=>rfl
 |x::l=>by simp only[pairL,List.map_append,pairE_fst,pairL_fst l,allB,List.flatMap_cons]
theorem goP_len {d:Disk_}:∀ {ps:List (Int×Int)} {D D':List (List Int)},goP d ps D=.inr D'→D'.length=D.length
 |[],D,D',h=>by cases h;rfl
 |p::ps,D,D',h=>by
  simp only[goP] at h
  cases hb:bad27 d p.1 p.2 with
  |true=>rw[hb] at h;cases h
  |false=>rw[hb] at h;rw[goP_len h];simp
theorem wantP_len:∀ (ps:List (Int×Int)) (w:List Int),(wantP ps w).length=w.length
 |[],w=>rfl
 |p::ps,w=>by simp only[wantP];rw[wantP_len ps];simp
theorem getDsi {w:List Int} {i j:Nat} {n:Int}:(w.set i n).getD j 0=if i=j∧i<w.length then n else w.getD j 0:=by
 simp only[List.getD,List.getElem?_set]
 by_cases h:i=j
 ·subst h
  by_cases h2:i<w.length
  ·simp[h2]
  ·simp[h2,List.getElem?_eq_none (by omega:w.length≤i)]
 ·simp[h]
theorem wantP_off:∀ (ps:List (Int×Int)) (w:List Int) (v:Nat),(∀ p∈ps,p.1.toNat≠v)→(wantP ps w).getD v 0=w.getD v 0
 |[],w,v,_=>rfl
 |p::ps,w,v,h=>by
  simp only[wantP]
  rw[wantP_off ps _ v (fun q hq=>h q (List.mem_cons_of_mem _ hq)),getDsi,if_neg (fun c=>h p List.mem_cons_self c.1)]
theorem wantP_bd:∀ (ps:List (Int×Int)) (w:List Int),(∀ p∈ps,0≤p.2∧p.2≤8)→(∀ v,0≤w.getD v 0∧w.getD v 0≤8)→∀ v,0≤(wantP ps w).getD v 0∧(wantP ps w).getD v 0≤8
 |[],w,_,h=>h
 |p::ps,w,h,hw=>wantP_bd ps _ (fun q hq=>h q (List.mem_cons_of_mem _ hq)) (fun v=>by
  rw[getDsi];split
  ·exact h p List.mem_cons_self
  ·exact hw v)
def badW (d:Disk_) (w:List Int):Bool:=(List.range 20).any fun(v:Nat)=>bad27 d (v:Int) (w.getD v 0)
def datW (d:Disk_) (w:List Int):List (List Int):=(List.range 20).map fun(v:Nat)=>dat27 d (v:Int) (w.getD v 0)
theorem goP_rel (d:Disk_):∀ (ps:List (Int×Int)) (w:List Int),w.length=20→(∀ p∈ps,0≤p.1∧p.1≤19)→(ps.map (·.1)).Nodup→badW d w=false→
  (badW d (wantP ps w)=false∧goP d ps (datW d w)=.inr (datW d (wantP ps w)))∨(badW d (wantP ps w)=true∧∃ D',goP d ps (datW d w)=.inl D')
 |[],w,hw,hp,hn,hb=>.inl ⟨hb,rfl⟩
 |p::ps,w,hw,hp,hn,hb=>by
  have h1:=hp p List.mem_cons_self
  have hp':=fun q hq=>hp q (List.mem_cons_of_mem p hq)
  simp only[List.map_cons,List.nodup_cons] at hn
  simp only[goP,wantP]
  have ec:((p.1.toNat:Nat):Int)=p.1:=by omega
  cases hbad:bad27 d p.1 p.2 with
  |true=>
   refine .inr ⟨?_,_,rfl⟩
   refine List.any_eq_true.2 ⟨p.1.toNat,List.mem_range.2 (by omega),?_⟩
   rw[wantP_off ps _ _ (fun q hq e=>hn.1 (List.mem_map.2 ⟨q,hq,by have:=hp' q hq;omega⟩)),getDsi,if_pos ⟨rfl,by omega⟩,ec]
   exact hbad
  |false=>
   simp only[cond_ff]
   have hb':badW d (w.set p.1.toNat p.2)=false:=by
    refine List.any_eq_false.2 fun v hv=>?_
    have h0:=List.any_eq_false.1 hb v hv
    rw[getDsi]
    split
    ·rename_i c;rw[←c.1,ec,hbad];simp
    ·exact h0
   have hd:(datW d w).set p.1.toNat (dat27 d p.1 p.2)=datW d (w.set p.1.toNat p.2):=by
    refine List.ext_getElem (by simp[datW]) fun i hi hi'=>?_
    have hi2:i<20:=by simpa [datW] using hi'
    simp only[datW,List.getElem_set,List.getElem_map,List.getElem_range,getDsi]
    by_cases e:p.1.toNat=i
    ·rw[if_pos e,if_pos ⟨e,by omega⟩,←e,ec]
    ·rw[if_neg e,if_neg (fun c=>e c.1)]
   rw[hd]
   exact goP_rel d ps _ (by simpa using hw) hp' hn.2 hb'
theorem sp_b2 (d:Disk_) (i:Int) (x:Nat) (k:Int) (r2:List Int) (f:Fs_) {n:Int} (hn:0≤n∧n≤8) (h:¬ (r2.length:Int)<n) :
  Zq58 d i x k n r2 f (0,[])=some (cond ((r2.take n.toNat).any over8) (.inl false) (.inr ((r2.take n.toNat).map IntKind.u8.wrap))):=by
 have hl:(r2.take n.toNat).length=n.toNat:=by rw[List.length_take];omega
 have hh:=loop_listI0 (τ:=List Int) (r2.take n.toNat) (f:=fun s=>Zq58.B d i x k n r2 f s.1 s.2) (fun j t=>((j:Int),t)) (fun _ v t=>cond (over8 v) (.inr (.inl false)) (.inl (t++[IntKind.u8.wrap v])))
  (fun t=>(.inr t:Bool⊕List Int)) (fun j t=>t.length=j)
  (fun j hj t ht=>by
   rw[hl] at hj
   have hj':j<r2.length:=by omega
   simp only[Zq58.B,show decide ((j:Int)<n)=true by simp;omega,inB_lt hj',cond_tt,toNat_cast,getD_lt _ hj',Option.bind_some,w64_succ (by omega:j<4294967296),List.getElem_take]
   rw[show decide ((t++[IntKind.u8.wrap r2[j]]).length≤2147483648)=true by simp;omega]
   show cond (over8 r2[j]) _ _=_
   cases over8 r2[j]<;>rfl)
  (fun j hj t t' ht e=>by
   cases hb:over8 (r2.take n.toNat)[j] with
   |true=>rw[hb] at e;cases e
   |false=>rw[hb] at e;cases e;simp[ht])
  (fun t ht=>by
   rw[hl]
   simp only[Zq58.B,show decide (((n.toNat:Nat):Int)<n)=false by simp;omega,cond_ff]) [] rfl (s:=(0,[])) rfl
 rw[foldE_stop] at hh
 exact hh
structure BlkOk (x:Inode_):Prop where
 len:x.2.2.2.1.length≤4
 rng:∀ b∈x.2.2.2.1,0≤b∧b≤19
 n:∀ k,k<x.2.2.2.1.length→0≤nF x k∧nF x k≤8
theorem BlkOk.of {x:Inode_} (h:inodeF x=0):BlkOk x:=by
 obtain⟨h1,h2,h3,h4⟩:=inodeF_file h
 refine⟨h1,h2,fun k hk=>?_⟩
 have hx:x.1=1:=by
  by_cases e:x.1=1
  ·exact e
  ·rw[h3 e] at hk;simp at hk
 have hf:=h4 hx
 unfold fileF at hf
 cases c1:inR x.2.1 1 60 with
 |false=>rw[c1] at hf;cases hf
 |true=>
  rw[c1] at hf
  cases c2:inR x.2.2.1 0 32 with
  |false=>rw[c2] at hf;cases hf
  |true=>
   rw[c2] at hf
   have r:=inR_iff.1 c2
   cases c3:((x.2.2.2.1.length:Int) != forF x.2.2.1) with
   |true=>rw[c3] at hf;cases hf
   |false=>
    have e:(x.2.2.2.1.length:Int)=forF x.2.2.1:=by simpa using c3
    unfold forF at e
    rw[w64n (n:=x.2.2.1+8) (by omega) (by omega),w64n (n:=x.2.2.1+8-1) (by omega) (by omega),Int.tdiv_eq_ediv_of_nonneg (by omega),w64n (by omega) (by omega)] at e
    unfold nF minF
    rw[w64n (n:=(k:Int)*8) (by omega) (by omega),w64n (by omega) (by omega)]
    by_cases c:(8:Int)<x.2.2.1-(k:Int)*8
    ·rw[decide_eq_true c];simp
    ·rw[decide_eq_false c];simp only[cond_ff];omega
def resE (l:List Inode_):List (List Int)⊕List (List Int)→(Bool×Fs_)⊕Fs_
 |.inl D=>.inl (false,(l,D,()))
 |.inr D=>.inr (l,D,())
theorem foldE_goP (d:Disk_) (l:List Inode_) (x:Inode_):∀ (bs:List Int) (k:Nat) (D:List (List Int)),
  foldE (fun k b D=>cond (bad27 d b (nF x k)) (.inr (.inl (false,(l,D,())))) (.inl (D.set b.toNat (dat27 d b (nF x k))))) (fun D=>(.inr (l,D,()):(Bool×Fs_)⊕Fs_)) k bs D=resE l (goP d (pairE x k bs) D)
 |[],k,D=>rfl
 |b::bs,k,D=>by
  simp only[foldE,pairE,goP]
  cases bad27 d b (nF x k) with
  |true=>rfl
  |false=>exact foldE_goP d l x bs (k+1) _
theorem sp_b1 {d:Disk_} (h:Disk47 d) (l:List Inode_) (i:Nat) (hi:i<l.length) (hx:BlkOk l[i]) (D:List (List Int)) (hD:D.length=20) :
  Zq59 d (i:Int) i (0,(l,D,()))=some (resE l (goP d (pairE l[i] 0 l[i].2.2.2.1) D)):=by
 have h47:=h.l
 have h4:=hx.len
 have hh:=loop_listI0 (τ:=List (List Int)) l[i].2.2.2.1 (f:=fun s=>Zq59.B d (i:Int) i s.1 s.2) (fun k D=>((k:Int),(l,D,())))
  (fun k b D=>cond (bad27 d b (nF l[i] k)) (.inr (.inl (false,(l,D,())))) (.inl (D.set b.toNat (dat27 d b (nF l[i] k))))) (fun D=>(.inr (l,D,()):(Bool×Fs_)⊕Fs_)) (fun k D=>D.length=20)
  (fun k hk D hD=>by
   have hb:=hx.rng _ (List.getElem_mem hk)
   have hn:=hx.n k hk
   have e27:w64 ((27:Int)+l[i].2.2.2.1[k])=27+l[i].2.2.2.1[k]:=w64n (by omega) (by omega)
   simp only[Zq59.B,getD_lt _ hi,Option.bind_some,lt_dec hk,inB_lt hk,cond_tt,toNat_cast,getD_lt _ hk,Zq288,e27,Zq302 h.ok.l2 (at_:=27+l[i].2.2.2.1[k]) (by omega) (by omega),w64_succ (by omega:k<4294967296)]
   rw[show minF 8 (w64 (l[i].2.2.1-w64 ((k:Int)*8)))=nF l[i] k from rfl]
   unfold bad27 dat27
   generalize blockF d (27+l[i].2.2.2.1[k])=r2
   by_cases c:(r2.length:Int)<nF l[i] k
   ·rw[decide_eq_true c];rfl
   ·rw[decide_eq_false c,sp_b2 d _ _ _ r2 _ hn c]
    simp only[cond_ff,Option.bind_some]
    cases (r2.take (nF l[i] k).toNat).any over8 with
    |true=>rfl
    |false=>
     simp only[cond_ff,sel_inr]
     rw[show inB l[i].2.2.2.1[k] D.length=true from inB_ok hb.1 (by omega)]
     rfl)
  (fun k hk D D' hD e=>by
   cases hb:bad27 d l[i].2.2.2.1[k] (nF l[i] k) with
   |true=>rw[hb] at e;cases e
   |false=>rw[hb] at e;cases e;simpa using hD)
  (fun D hD=>by
   simp only[Zq59.B,getD_lt _ hi,Option.bind_some,ge_dec (Nat.le_refl _),cond_ff]) D hD (s:=(0,(l,D,()))) rfl
 rw[foldE_goP] at hh
 exact hh
def stepB (d:Disk_) (L:List Inode_) (x:Inode_) (D:List (List Int)):List (List Int)⊕((Bool×Fs_)⊕Fs_):=sel (goP d (pairE x 0 x.2.2.2.1) D) (fun D'=>.inr (.inl (false,(L,D',())))) (fun D'=>.inl D')
theorem foldE_goL (d:Disk_) (L:List Inode_):∀ (l:List Inode_) (k:Nat) (D:List (List Int)),foldE (fun _ x D=>stepB d L x D) (fun D=>(.inr (L,D,()):(Bool×Fs_)⊕Fs_)) k l D=resE L (goP d (pairL l) D)
 |[],k,D=>rfl
 |x::l,k,D=>by
  simp only[foldE,pairL,goP_app,stepB]
  cases goP d (pairE x 0 x.2.2.2.1) D with
  |inl D'=>rfl
  |inr D'=>exact foldE_goL d L l (k+1) D'
theorem sp_bytes {d:Disk_} (h:Disk47 d) (l:List Inode_) (hl:l.length≤10) (hx:∀ x∈l,BlkOk x) (D:List (List Int)) (hD:D.length=20) :
  Zq61 d (l,D,())=some (match goP d (pairL l) D with | .inl D'=>(false,(l,D',())) | .inr D'=>(true,(l,D',()))):=by
 have hh:=loop_listI0 (τ:=List (List Int)) l (f:=fun s=>Zq60.B d s.1 s.2) (fun k D=>((k:Int),(l,D,()))) (fun _ x D=>stepB d l x D) (fun D=>(.inr (l,D,()):(Bool×Fs_)⊕Fs_)) (fun k D=>D.length=20)
  (fun i hi D hD=>by
   simp only[Zq60.B,lt_dec hi,inB_lt hi,cond_tt,toNat_cast,sp_b1 h l i hi (hx _ (List.getElem_mem hi)) D hD,Option.bind_some,w64_succ (by omega:i<4294967296),stepB]
   cases goP d (pairE l[i] 0 l[i].2.2.2.1) D<;>rfl)
  (fun i hi D D' hD e=>by
   simp only[stepB] at e
   cases hg:goP d (pairE l[i] 0 l[i].2.2.2.1) D with
   |inl Dx=>rw[hg] at e;cases e
   |inr Dx=>rw[hg] at e;cases e;rw[goP_len hg];exact hD)
  (fun D hD=>by simp only[Zq60.B,ge_dec (Nat.le_refl _),cond_ff]) D hD (s:=(0,(l,D,()))) rfl
 rw[foldE_goL] at hh
 have hh':Zq60 d (0,(l,D,()))=some (resE l (goP d (pairL l) D)):=hh
 simp only[Zq61,hh',Option.bind_some]
 cases goP d (pairL l) D<;>rfl
theorem c1_any (l:List Int) (hl:l.length≤2147483648):Zq144 l ()=some (l.any over8):=by
 have h:Zq142 l () (l.length:Int) ((0:Nat):Int)=_:=loop_idx l (f:=fun s=>Zq142.B l () (l.length:Int) s) over8 (fun i hi=>by
  simp only[Zq142.B,Zq141,lt_dec hi,inB_lt hi,cond_tt,toNat_cast,getD_lt _ hi,Option.bind_some,over8,w64_succ (by omega:i<4294967296)]) (by
  simp only[Zq142.B,ge_dec (Nat.le_refl _),cond_ff]) 0 (Nat.zero_le _)
 rw[List.drop_zero] at h
 simp only[Zq144,Zq143]
 rw[show Zq142 l () (l.length:Int) 0=_ from h]
 exact idx_contains over8 l
theorem im_l2 (d:Disk_) (w r5:List Int) (n:Int) (r7:Bool) (l:List Inode_) (D:List (List Int)) (v:Nat) (hv:v<D.length) (list:List Int) (hl:list.length≤1000) (h0:D.getD v []=[]) :
  Zq159 d (v:Int) w (v:Int) r5 n list r7 list (list.length:Int) noFs (0,(l,D,()))=some (l,D.set v (list.map IntKind.u8.wrap),()):=by
 have hh:=loop_listI0 (τ:=List Int) list (f:=fun s=>Zq159.B d (v:Int) w (v:Int) r5 n list r7 list (list.length:Int) noFs s.1 s.2) (fun i t=>((i:Int),(l,D.set v t,()))) (fun _ x t=>.inl (t++[IntKind.u8.wrap x])) (fun t=>((l,D.set v t,()):Fs_)) (fun i t=>t.length=i)
  (fun i hi t ht=>by
   have hv':v<(D.set v t).length:=by simpa using hv
   have hg:(D.set v t).getD v []=t:=by simp only[List.getD];rw[List.getElem?_set_self hv];rfl
   simp only[Zq159.B,lt_dec hi,inB_lt hi,inB_lt hv',cond_tt,toNat_cast,getD_lt _ hi,hg,Option.bind_some,w64_succ (by omega:i<4294967296),Nat.beq_refl,Bool.and_true,List.set_set]
   rw[show decide ((t++[IntKind.u8.wrap list[i]]).length≤2147483648)=true by simp;omega]
   rfl)
  (fun i hi t t' ht e=>by cases e;simp[ht]) (fun t ht=>by simp only[Zq159.B,ge_dec (Nat.le_refl _),cond_ff]) [] rfl (s:=(0,(l,D,()))) (by
   have:D.set v []=D:=by
    refine List.ext_getElem (by simp) fun i hi hi'=>?_
    rw[List.getElem_set]
    split
    ·rename_i e;subst e;rw[←h0,getD_lt _ hv]
    ·rfl
   show _=(((0:Nat):Int),((l,D.set v [],()):Fs_))
   rw[this];rfl)
 rw[foldE_map] at hh
 exact hh
theorem im_l1 {d:Disk_} (h:Disk47 d) (l:List Inode_) (w:List Int) (hw:w.length=20) (hn:∀ v,0≤w.getD v 0∧w.getD v 0≤8) :
  Zq160 d w noFs (0,(l,Dz,()))=some (cond (badW d w) (.inl (5,noFs)) (.inr (l,datW d w,()))):=by
 have h47:=h.l
 have hh:=loop_listI0 (τ:=List (List Int)) (List.range 20) (f:=fun s=>Zq160.B d w noFs s.1 s.2) (fun i t=>((i:Int),(l,t++List.replicate (20-i) [],())))
  (fun _ v t=>cond (bad27 d (v:Int) (w.getD v 0)) (.inr (.inl (5,noFs))) (.inl (t++[dat27 d (v:Int) (w.getD v 0)]))) (fun t=>(.inr (l,t,()):(Int×Fs_)⊕Fs_)) (fun i t=>t.length=i)
  (fun i hi t ht=>by
   have hi:i<20:=by simpa using hi
   rw[List.getElem_range]
   have e27:w64 ((27:Int)+(i:Int))=27+(i:Int):=w64n (by omega) (by omega)
   have hni:=hn i
   simp only[Zq160.B,show decide ((i:Int)<20)=true by simp;omega,inB_lt hi,cond_tt,toNat_cast,e27,Zq300 h.ok.l2 (at_:=27+(i:Int)) (by omega) (by omega),Option.bind_some,Zq95,List.drop_zero,w64_succ (by omega:i<4294967296)]
   have hbl:=blockF_len h.ok (27+(i:Int))
   unfold bad27 dat27
   generalize blockF d (27+(i:Int))=r5 at hbl ⊢
   generalize w.getD i 0=n at hni ⊢
   by_cases c:(r5.length:Int)<n
   ·rw[decide_eq_true c];rfl
   ·rw[decide_eq_false c,show(decide ((0:Int)≤n)&&decide (n≤(r5.length:Int)))=true by simp;omega,c1_any _ (by rw[List.length_take];omega)]
    simp only[cond_ff,cond_tt,Option.bind_some]
    cases (r5.take n.toNat).any over8 with
    |true=>rfl
    |false=>
     have hg:(t++List.replicate (20-i) ([]:List Int)).getD i []=[]:=by
      simp only[List.getD];rw[List.getElem?_append_right (by omega),ht,Nat.sub_self,List.getElem?_replicate];simp[show 0<20-i by omega]
     have hs:∀ y:List Int,(t++List.replicate (20-i) ([]:List Int)).set i y=(t++[y])++List.replicate (20-(i+1)) []:=fun y=>by
      rw[show 20-i=(20-(i+1))+1 by omega,List.replicate_succ,List.set_append_right _ _ (by omega),ht,Nat.sub_self];simp
     simp only[cond_ff]
     rw[im_l2 d w r5 n false l _ i (by simp;omega) _ (by rw[List.length_take];omega) hg,hs]
     rfl)
  (fun i hi t t' ht e=>by
   cases hb:bad27 d (((List.range 20)[i]:Nat):Int) (w.getD (List.range 20)[i] 0) with
   |true=>rw[hb] at e;cases e
   |false=>rw[hb] at e;cases e;simp[ht])
  (fun t ht=>by
   rw[List.length_range]
   show some (Sum.inr (Sum.inr (l,t++List.replicate (20-20) [],())))=_
   simp) [] rfl (s:=(0,(l,Dz,()))) rfl
 rw[foldE_stop] at hh
 exact hh
structure FsB (f:Fs_):Prop where
 l:f.1.length≤10
 s:∀ x∈f.1,SmallI x
 d:f.2.1.length=20
 dl:∀ b∈f.2.1,b.length≤64
theorem FsB.bd {f:Fs_} (h:FsB f):Bd tFs_ f:=by
 refine⟨⟨?_,fun x hx=>?_⟩,⟨?_,fun b hb=>⟨?_,fun _ _=>trivial⟩⟩,trivial⟩
 ·have:=h.l;show f.1.length≤_;omega
 ·have hs:=h.s x hx
  refine⟨trivial,trivial,trivial,⟨?_,fun _ _=>trivial⟩,⟨?_,fun e he=>⟨?_,trivial,trivial⟩⟩,trivial⟩
  ·have:=hs.blk;show x.2.2.2.1.length≤_;omega
  ·have:=hs.ent;show x.2.2.2.2.1.length≤_;omega
  ·have:=hs.nam e he;show e.1.length≤_;omega
 ·have:=h.d;show f.2.1.length≤_;omega
 ·have:=h.dl b hb;show b.length≤_;omega
theorem FsB.wt {f:Fs_} (h:FsB f):wt tFs_ f≤100000:=by
 have e1:∀ w:List Int,(w.map (Mf.wt (.int .i64))).sum=w.length:=fun w=>wt_ints .i64 w
 have e2:∀ w:List Int,(w.map (Mf.wt (.int .u8))).sum=w.length:=fun w=>wt_ints .u8 w
 have h1:=sum_leB (Mf.wt tInode_) 100 (xs:=f.1) (fun x hx=>by
  have hs:=h.s x hx
  have hb:=hs.blk
  have he:=hs.ent
  have h2:=sum_leB (Mf.wt tEntry_) 6 (xs:=x.2.2.2.2.1) (fun e hee=>by
   have:=hs.nam e hee
   simp only[wt_pair,wt_str,wt_int,wt_unit];omega)
  have e:Mf.wt tInode_ x=1+(1+(1+((x.2.2.2.1.map (Mf.wt (.int .i64))).sum+1+((x.2.2.2.2.1.map (Mf.wt tEntry_)).sum+1+0)))):=rfl
  rw[e,e1]
  omega)
 have h2:=sum_leB (Mf.wt (.sl (.int .u8))) 65 (xs:=f.2.1) (fun b hb=>by
  have:=h.dl b hb
  rw[wt_sl,e2];omega)
 have hl:=h.l
 have hd:=h.d
 rw[wt_pair,wt_pair,wt_unit,wt_sl,wt_sl]
 rw[hd] at h2
 have:f.1.length*100≤10*100:=Nat.mul_le_mul_right _ hl
 omega
theorem datW_zero (d:Disk_):datW d (List.replicate 20 0)=Dz:=by
 refine List.ext_getElem (by simp[datW,Dz]) fun i hi hi'=>?_
 have hi2:i<20:=by simpa [datW] using hi
 simp only[datW,Dz,List.getElem_map,List.getElem_range,List.getElem_replicate]
 have:(List.replicate 20 (0:Int)).getD i 0=0:=by simp only[List.getD,List.getElem?_replicate];split<;>rfl
 rw[this];rfl
theorem badW_zero (d:Disk_):badW d (List.replicate 20 0)=false:=by
 refine List.any_eq_false.2 fun v hv=>?_
 have hv:=List.mem_range.1 hv
 have:(List.replicate 20 (0:Int)).getD v 0=0:=by simp only[List.getD,List.getElem?_replicate];split<;>rfl
 rw[this]
 unfold bad27
 rw[show decide (((blockF d (27+(v:Int))).length:Int)<0)=false by simp];simp
theorem pairE_n (x:Inode_) (h:BlkOk x):∀ (bs:List Int) (k:Nat),k+bs.length≤x.2.2.2.1.length→∀ p∈pairE x k bs,0≤p.2∧p.2≤8
 |[],k,_,p,hp=>by cases hp
 |b::bs,k,hk,p,hp=>by
  simp only[List.length_cons] at hk
  rcases List.mem_cons.1 hp with rfl | hp
  ·exact h.n k (by omega)
  ·exact pairE_n x h bs (k+1) (by omega) p hp
theorem pairL_n:∀ (l:List Inode_),(∀ x∈l,BlkOk x)→∀ p∈pairL l,0≤p.2∧p.2≤8
 |[],_,p,hp=>by cases hp
 |x::l,h,p,hp=>by
  rcases List.mem_append.1 hp with hp | hp
  ·exact pairE_n x (h x List.mem_cons_self) _ 0 (by omega) p hp
  ·exact pairL_n l (fun y hy=>h y (List.mem_cons_of_mem _ hy)) p hp
theorem wantF_bd {l:List Inode_} (h:∀ x∈l,BlkOk x):∀ v,0≤(wantF l).getD v 0∧(wantF l).getD v 0≤8:=by
 unfold wantF
 rw[wantL_P]
 exact wantP_bd _ _ (pairL_n l h) (fun v=>by
  simp only[List.getD,List.getElem?_replicate];split<;>simp)
theorem Zq313 (d:Disk_) {l:List Inode_} (hok:InOk l) (ho:onceF l=true) :
  (badW d (wantF l)=false∧goP d (pairL l) Dz=.inr (datW d (wantF l)))∨(badW d (wantF l)=true∧∃ D',goP d (pairL l) Dz=.inl D'):=by
 have:=goP_rel d (pairL l) (List.replicate 20 0) (by simp) (fun p hp=>hok.all.2 _ (by rw[←pairL_fst];exact List.mem_map.2 ⟨p,hp,rfl⟩)) (by rw[pairL_fst];exact of_decide_eq_true ho) (badW_zero d)
 rw[datW_zero] at this
 unfold wantF
 rw[wantL_P]
 exact this
theorem load_both {d:Disk_} (h:Disk47 d) (hs:SupOk d):∃ c f g,Zq80 d=some (c,f,())∧Zq161 d=some (g,c)∧(c=0→g=f∧FsB f)∧(c≠0→f=noFs):=by
 have hsq:=seqF_sup h hs
 have hi:=Zq311 h Dz
 have hp:=Zq312 h Dz
 have e20:(decide ((0:Int)≤(20:Int))&&(decide ((20:Int)≤(20:Int))&&decide ((20:Int)≤2147483648)))=true:=rfl
 simp only[Zq80,Zq161,Zq304,hsq,Option.bind_some,show((0:Int) != 0)=false from rfl,cond_ff,e20,cond_tt]
 rw[show Zq79 d (0,([],[],()),()) (0,0,([],List.replicate (20:Int).toNat ([]:List Int),()))=_ from hp,
  show Zq158 d ([],[],()) (0,0,([],List.replicate (20:Int).toNat ([]:List Int),()))=_ from hi]
 cases ht:inoF d with
 |none=>exact⟨5,noFs,noFs,rfl,rfl,(fun e=>by cases e),fun _=>rfl⟩
 |some t=>
  obtain⟨t1,t2,t3⟩:=inoF_ok ht
  simp only[Option.bind_some,optR,sel_inr,List.drop_zero,Nat.sub_zero]
  rw[show(decide ((0:Int)≤t.2)&&decide (t.2≤(t.1.length:Int)))=true by simp;omega]
  simp only[cond_tt]
  have hl:(t.1.take t.2.toNat).length≤10:=by rw[List.length_take];omega
  have hin:∀ y∈t.1.take t.2.toNat,inodeF y=0:=fun y hy=>t3 y (List.mem_of_mem_take hy)
  generalize t.1.take t.2.toNat=l at hl hin ⊢
  have hb0:FsB (l,Dz,()):=⟨hl,fun x hx=>SmallI.of (hin x hx),by simp[Dz],fun b hb=>by have:=List.eq_of_mem_replicate hb;subst this;simp⟩
  rw[Zq274 (l,Dz,()) hb0.bd,Zq277 (l,Dz,()) hb0.bd]
  simp only[Option.bind_some]
  cases htr:(treeF (l,Dz,()) != 0) with
  |true=>exact⟨treeF (l,Dz,()),noFs,noFs,rfl,rfl,(fun e=>by rw[e] at htr;cases htr),fun _=>rfl⟩
  |false=>
   have htree:=TreeOk.of (show treeF (l,Dz,())=0 by simpa using htr)
   have hok:InOk l:=InOk.of htree.inod
   have hbk:∀ x∈l,BlkOk x:=fun x hx=>BlkOk.of (hin x hx)
   simp only[cond_ff,Zq291 l hok,Option.bind_some]
   rw[show Zq160 d (wantF l) ([],[],()) (0,(l,Dz,()))=_ from im_l1 h l (wantF l) (wantF_len l) (wantF_bd hbk),sp_bytes h l hl hbk Dz (by simp[Dz])]
   simp only[Option.bind_some]
   rcases Zq313 d hok htree.once with ⟨h1,h2⟩ | ⟨h1,D',h2⟩
   ·rw[h1,h2]
    simp only[cond_ff,sel_inr,Bool.not_true]
    have hb1:FsB (l,datW d (wantF l),()):=⟨hl,fun x hx=>SmallI.of (hin x hx),by simp[datW],fun b hb=>by
     simp only[datW,List.mem_map,List.mem_range] at hb
     obtain⟨v,hv,rfl⟩:=hb
     have:=blockF_len h.ok (27+(v:Int))
     simp only[dat27,List.length_map,List.length_take];omega⟩
    rw[Zq294 _ hb1.bd,Zq295 _ hb1.bd]
    simp only[Option.bind_some]
    cases hc:(fsF (l,datW d (wantF l),()) != 0) with
    |true=>exact⟨fsF (l,datW d (wantF l),()),noFs,(l,datW d (wantF l),()),rfl,rfl,(fun e=>by rw[e] at hc;cases hc),fun _=>rfl⟩
    |false=>
     have hc0:fsF (l,datW d (wantF l),())=0:=by simpa using hc
     exact⟨0,(l,datW d (wantF l),()),(l,datW d (wantF l),()),rfl,by rw[hc0],(fun _=>⟨rfl,hb1⟩),fun h=>absurd rfl h⟩
   ·rw[h1,h2]
    exact⟨5,noFs,noFs,rfl,rfl,(fun e=>by cases e),fun _=>rfl⟩
theorem LoadImage.main (d:Disk_) (hf:Fit tDisk_ d) (hw:wt tDisk_ d≤1048576):∃ r,Zq80 d=some r∧Zq163 d=some r∧wt tFsResult_ r≤2147483648:=by
 have small:∀ c:Int,wt tFsResult_ (c,([],[],()),())≤2147483648:=fun c=>by simp[wt]
 cases h:((seqF d).2 != 0) with
 |true=>
  refine⟨((seqF d).2,([],[],()),()),?_,?_,small _⟩
  ·simp only[Zq80,Zq304,Option.bind_some,h,cond_tt]
  ·simp only[Zq163,Zq303,Option.bind_some,h,cond_tt]
 |false=>
  have h0:(seqF d).2=0:=by simpa using h
  obtain⟨hok,h47⟩:=seqF_ok h0
  obtain⟨c,f,g,l1,l2,l3,l4⟩:=load_both (d:=d) ⟨hok,by omega⟩ (sup_of h0)
  refine⟨(c,f,()),l1,?_,?_⟩
  ·simp only[Zq163,Zq303,Option.bind_some,h,cond_ff,l2,Zq162]
   cases hc:(c != 0) with
   |true=>rw[l4 (by simpa using hc)];rfl
   |false=>
    have hc0:c=0:=by simpa using hc
    obtain⟨rfl,_⟩:=l3 hc0
    rw[hc0];rfl
  ·by_cases hc:c=0
   ·have:=(l3 hc).2.wt
    rw[wt_pair,wt_pair,wt_int,wt_unit]
    show 1+(wt tFs_ f+0)≤_
    omega
   ·rw[l4 hc];exact small c
theorem LoadImage.law (x:PT.Els (shs [tDisk_])) (hf:FitAll [tDisk_] x) (hw:wtAll [tDisk_] x≤1048576):Zq215 x.1=some true:=by
 simp only[wtAll] at hw
 have hf0:Fit tDisk_ x.1:=hf.1
 have hw0:wt tDisk_ x.1≤1048576:=by omega
 clear hw hf
 generalize x.1=a0 at hf0 hw0 ⊢
 obtain⟨r,hr1,hr2,hr3⟩:=LoadImage.main a0 hf0 hw0
 obtain⟨r_0,⟨r_1_0,r_1_1,⟨⟩⟩,⟨⟩⟩:=r
 replace hr3:wt tFsResult_ (r_0,(r_1_0,r_1_1,()),())≤2147483648:=hr3
 replace hr1:Zq80 a0=some (r_0,(r_1_0,r_1_1,()),()):=hr1
 replace hr2:Zq163 a0=some (r_0,(r_1_0,r_1_1,()),()):=hr2
 have er:=Zq234 (r_0,(r_1_0,r_1_1,()),()) hr3
 obtain⟨kr,y0,y1,l1,l2,hm,hh⟩:=Zq250 r_0 r_1_0 r_1_1 1 (by omega) (by omega) hr3
 have to0:=Zq225 a0 (by omega)
 have eq0:=Zq238 a0 (by omega)
 obtain⟨k0,z0_0,z0_1,l0,u0,m0⟩:=Zq242 a0.1 a0.2.1 1 (by omega) (by show _+((wt tDisk_ a0:Nat):Int)≤_;omega) (by show wt tDisk_ a0≤_;omega)
 have u0:k0≤1+((wt tDisk_ a0:Nat):Int):=u0
 try simp only[peta] at m0
 have hsz:∀ g:Option Bool,g=some true→∀ b:Bool,cond b (some true) g=some true:=fun g h b=>by cases b<;>first | rfl | exact h
 simp only[Zq215]
 repeat' (first | with_reducible refine hsz _ ?_ _ | (rw[Option.bind_some]) | (obtain⟨q,hq⟩:=Zq220 a0 _ (by omega);rw[hq,Option.bind_some];clear hq))
 simp only[er,hm,hh,to0,eq0,m0,hr1,hr2,peta,Option.bind_some,Bool.not_true,cond_ff,cond_tt,bne_self,beq_selfB,beq_selfS,neg_dec (by omega:0≤kr),neg_dec (by omega:0≤k0)]
end Mf
