import Derived.Test.YtmgbiodgebigeaaDoorWordsOfA
set_option linter.unusedVariables false
set_option linter.unusedSimpArgs false
noncomputable section
namespace Mf
open Go
set_option maxRecDepth 100000
theorem Xas (a:(List (List UInt8))) (hw:wt (.sl .str) a≤2147483648):Xab a a=some true:=by
 have hw2:=hw;simp only[wA] at hw2
 have hl:a.length≤2147483648:=by have:=Yq2 (wt .str) (fun x=>by simp only[wA];omega) a;omega
 have lp:Xv a a 0=some (.inr ()):=by
  refine Ysy (n:=a.length) (fun s=>Xv.B a a s) (fun i hi=>?_) ?_
  ·have hm:=Yq3 (wt .str) a i hi
   have hb:inB (i:Int) a.length=true:=Ytm (by omega) (by omega)
   simp only[Xv.B,Ytp hi,hb,Ytf,Yte,toNat_cast,getD_lt _ hi,jA,jK,Yst,Ysp,Yso,Ytb (by omega:i<4294967296)]
  ·simp only[Xv.B,Ytl (jB _),Yte]
 simp only[Xab,Yst,Yte,lp,jA,sel]
theorem Xat (a:Xd) (hw:wt Xc a≤2147483648):X5 a a=some true:=by
 obtain⟨x0,x1,⟨⟩⟩:=a;simp only[wA] at hw
 have h_x1_0:=Xas x1 (by simp only[wA];omega)
 simp only[X5,h_x1_0,jA,jK,Yst,Ysp,Yso,Yte,Ytf]
theorem Xaq:∀ (n:Nat) (k:Int) (out:List UInt8),0≤k→k<10 ^ n→out.length+n≤2147483648→k≤4611686018427387904→∃ s,Xw (k,out)=some s∧s.length≤out.length+n
 |0,k,out,h0,h1,h2,h3=>by
  have:k=0:=by simp at h1;omega
  subst this
  exact⟨out,Yep (by simp only[Xw.B];rfl),by omega⟩
 |n+1,k,out,h0,h1,h2,h3=>by
  by_cases hk:k=0
  ·subst hk;exact⟨out,Yep (by simp only[Xw.B];rfl),by omega⟩
  ·have hd:k.tdiv 10=k / 10:=Int.tdiv_eq_ediv_of_nonneg h0
   have hq:w64 (k / 10)=k / 10:=Yqj (by omega) (by omega)
   have hp:k / 10<10 ^ n:=by rw[Int.pow_succ] at h1;omega
   obtain⟨s,hs,hl⟩:=Xaq n (k / 10) ((([IntKind.u8.wrap (w64 ((48:Int)+(k.tmod 10)))]).map fun n=>UInt8.ofNat n.toNat)++out) (by omega) hp (by simp;omega) (by omega)
   refine⟨s,?_,by simp at hl;omega⟩
   rw[←hs];refine Yeq (s':=(k / 10,_)) ?_
   simp only[Xw.B,show decide (k>0)=true by simp;omega,Ytf,show(!((10:Int) == 0))=true from rfl,jA,hd,hq]
   rw[show decide ((([IntKind.u8.wrap (w64 ((48:Int)+(k.tmod 10)))]).map fun n=>UInt8.ofNat n.toNat).length+out.length≤2147483648)=true by simp;omega]
   rfl
theorem Xau (k:Int) (h:0≤k) (hk:k≤4611686018427387904):∃ s,X0 k=some s:=by
 obtain⟨s,hs,hl⟩:=Xaq 19 k [] h (by omega) (by simp) hk
 simp only[X0];cases decide (k≤0)
 ·simp only[Yte,hs,jA]
  rw[show decide (([109]:List UInt8).length+s.length≤2147483648)=true by simp at hl ⊢;omega]
  exact⟨_,rfl⟩
 ·exact⟨_,rfl⟩
theorem Xav (a:(List (List UInt8))) (k:Int) (hk:0≤k) (hw:k+wt (.sl .str) a≤4611686018427387904) (hz:wt (.sl .str) a≤2147483648):MH Xx Xy (wt (.sl .str) a) a k:=by
 simp only[wA] at hw hz
 have hl:a.length≤2147483648:=by have:=Yq2 (wt .str) (fun x=>by simp only[wA];omega) a;omega
 have hs:∀ (k:Int) (i:Nat) (a:(List (List UInt8))) (h:i<a.length),a.length≤2147483648→0≤k→k+wt .str a[i]≤4611686018427387904→wt .str a[i]≤2147483648→∃ k2 x2,k≤k2∧k2≤k+wt .str a[i]∧Xq.B k (i:Int) a=some (.inl (k2,((i+1:Nat):Int),a.set i x2))∧∀ b:(List (List UInt8)),b.length=a.length→b[i]? = some x2→Xr.B b k (i:Int)=some (.inl (k2,((i+1:Nat):Int))):=by
  clear hw hz hl hk k a;intro k i a hi hl hk hw hz
  have hb:inB (i:Int) a.length=true:=Ytm (by omega) (by omega)
  simp only[wA] at hw hz
  obtain⟨s1,w1⟩:=Xau (k) (by omega) (by omega)
  have w2:w64 (k+1)=k+1:=Ytx (by omega) (by omega)
  refine⟨k+1,s1,by omega,by simp only[wA];omega,?_,fun b hlb hx=>?_⟩
  ·simp only[Xq.B,Ytp hi,hb,Ytf,toNat_cast,getD_lt _ hi,jA,w1,w2,Ytb (by omega:i<4294967296),kM,kC,Ys2 _ _ hi,show(!((3:Int) == 0))=true from rfl]
  ·have hc:inB (i:Int) b.length=true:=Ytm (by omega) (by omega)
   have hd:decide ((i:Int)<(b.length:Int))=true:=Ytp (by omega)
   simp only[Xr.B,hd,hc,Ytf,Yte,toNat_cast,Ytg _ hx,jA,Yst,Ysp,Yso,jK,w1,w2,Ytb (by omega:i<4294967296),kM,kC,Ys2 _ _ hi,show(!((3:Int) == 0))=true from rfl]
 obtain⟨k2,a2,e1,e2,e3,e4⟩:=Ysa (wt .str) 4611686018427387904 (fun s=>Xq.B s.1 s.2.1 s.2.2) (fun b s=>Xr.B b s.1 s.2) (fun k a=>by simp only[Xq.B,Ytl (jB _),Yte]) (fun k a=>by simp only[Xr.B,Ytl (jB _),Yte]) hs k a hl hk (by omega) (by omega)
 refine⟨k2,a2,e1,by simp only[wA];omega,?_,?_⟩
 ·have:Xq (k,0,a)=some (k2,a2):=e3
  simp only[Xx,this,jA]
 ·have:Xr a2 (k,0)=some (.inr k2):=e4
  simp only[Xy,this,jA,sel]
theorem Xaw (x_0:Int) (x_1:List (List UInt8)) (k:Int) (hk:0≤k) (hw:k+wt Xc (x_0,x_1,())≤4611686018427387904) (hz:wt Xc (x_0,x_1,())≤2147483648):∃ k2 y0,k≤k2∧k2≤k+wt Xc (x_0,x_1,())∧Xac (x_0,x_1,()) k=some (k2,(x_0,y0,()))∧X6 (x_0,y0,()) k=some k2:=by
 simp only[wA] at hw hz
 obtain⟨k0,y0,l0,u0,w0,v0⟩:=Xav x_1 k (by omega) (by simp only[wA];omega) (by simp only[wA];omega)
 simp only[wA] at u0
 refine⟨k0,y0,by omega,by simp only[wA];omega,?_,?_⟩
 ·simp only[Xac,w0,jA,Ytw]
 ·simp only[X6,v0,jA,Yte,Yth (by omega:0≤k0)]
def Xe (c:UInt8):List UInt8→List UInt8→List (List UInt8)
 |acc,[]=>[acc]
 |acc,b::l=>match b == c with
  |true=>acc::Xe c [] l
  |false=>Xe c (acc++[b]) l
theorem X4 (c:UInt8):∀ (l acc:List UInt8),(Xe c acc l).length=l.count c+1:=by
 intro l
 induction l with
 |nil=>intro acc;rfl
 |cons b l ih=>
  intro acc;simp only[Xe]
  cases h:b == c with
  |true=>simp only[jH,ih,List.count_cons,h,if_true]
  |false=>simp[ih,List.count_cons,h]
theorem Xaf (c:UInt8):∀ (m l acc:List UInt8),(∀ x∈m,(x == c)=false)→Xe c acc (m++l)=Xe c (acc++m) l:=by
 intro m
 induction m with
 |nil=>intro l acc h;simp
 |cons b m ih=>
  intro l acc h;simp only[jQ,Xe,h b (jF),ih _ _ (fun x hx=>h x (jG _ hx)),kO,jO]
theorem Xaj (c:UInt8) (l acc:List UInt8):Xe c acc (c::l)=acc::Xe c [] l:=by simp[Xe]
theorem Xt (c:UInt8):∀ (l:List UInt8),(Go.Lib.indexByte l c = -1∧l.count c=0∧∀ x∈l,(x == c)=false)∨
  ∃ k:Nat,Go.Lib.indexByte l c=k∧k<l.length∧(∀ x∈l.take k,(x == c)=false)∧l=l.take k++c::l.drop (k+1)∧l.count c=(l.drop (k+1)).count c+1:=by
 intro l
 induction l with
 |nil=>exact .inl ⟨rfl,rfl,fun x hx=>by cases hx⟩
 |cons b l ih=>
  cases h:b == c with
  |true=>
   have e:b=c:=by simpa using h
   subst e
   exact .inr ⟨0,by simp[Go.Lib.indexByte],by simp,by simp,by simp,by simp⟩
  |false=>
   rcases ih with ⟨i1,i2,i3⟩ | ⟨k,i1,i2,i3,i4,i5⟩
   ·refine .inl ⟨by simp[Go.Lib.indexByte,h,i1],by simp[List.count_cons,h,i2],fun x hx=>?_⟩
    rcases List.mem_cons.1 hx with rfl | hx
    ·exact h
    ·exact i3 x hx
   ·refine .inr ⟨k+1,?_,by simpa using i2,fun x hx=>?_,?_,?_⟩
    ·have:¬ ((k:Int) = -1):=by omega
     simp[Go.Lib.indexByte,h,i1,this]
    ·rw[List.take_succ_cons] at hx
     rcases List.mem_cons.1 hx with rfl | hx
     ·exact h
     ·exact i3 x hx
    ·rw[List.take_succ_cons,List.drop_succ_cons,jQ,←i4]
    ·rw[List.drop_succ_cons,List.count_cons,h,i5];simp
theorem Xax (l:List UInt8) (c:UInt8) (hl:l.length≤1048576):Zq1 l (c.toNat:Int)=some (Xe c [] l):=by
 have fin:∀ (fr:Int) (out:List (List UInt8)),Zq0 l (c.toNat:Int) (fr,((l.length+1:Nat):Int),out)=some out:=fun fr out=>by
  refine Yep ?_;simp only[Zq0.B]
  rw[show decide (((l.length+1:Nat):Int)≤(l.length:Int))=false by simp;omega]
  rfl
 have key:∀ (m fr i:Nat) (out:List (List UInt8)),m=l.length-i→fr≤i→i≤l.length→out.length≤fr→
   Zq0 l (c.toNat:Int) ((fr:Int),(i:Int),out)=some (out++Xe c ((l.take i).drop fr) (l.drop i)):=by
  intro m
  induction m with
  |zero=>
   intro fr i out hm h1 h2 h3
   have hi:i=l.length:=by omega
   subst hi;refine(Yeq (s':=(((l.length+1:Nat):Int),((l.length+1:Nat):Int),out++[(l.take l.length).drop fr])) ?_).trans ?_
   ·simp only[Zq0.B]
    rw[show decide ((l.length:Int)≤(l.length:Int))=true by simp,show((l.length:Int) == (l.length:Int))=true by simp,
     show(decide ((0:Int)≤(l.length:Int))&&true&&(decide ((0:Int)≤(fr:Int))&&decide ((fr:Int)≤(l.length:Int))))=true by simp;omega]
    simp only[Ytf,jK,Yte,jA,toNat_cast]
    rw[show decide ((out++[(l.take l.length).drop fr]).length≤2147483648)=true by simp;omega,Ytb (by omega)]
    rfl
   ·refine(fin _ _).trans ?_;simp[Xe]
  |succ m ih=>
   intro fr i out hm h1 h2 h3
   have hlt:i<l.length:=by omega
   have hd:l.drop i=l[i]::l.drop (i+1):=kZ hlt
   have hg:((l.getD (i:Int).toNat 0).toNat:Int)=(l[i].toNat:Int):=by simp[List.getD,hlt]
   have hb:inB (i:Int) l.length=true:=Ytm (by omega) (by omega)
   have q1:decide ((i:Int)≤(l.length:Int))=true:=by simp;omega
   have q2:((i:Int) == (l.length:Int))=false:=by simp;omega
   cases hc:l[i] == c with
   |true=>
    have e:l[i]=c:=by simpa using hc
    refine(Yeq (s':=(((i+1:Nat):Int),((i+1:Nat):Int),out++[(l.take i).drop fr])) ?_).trans ?_
    ·simp only[Zq0.B]
     rw[q1,q2,hb,hg,e,show((c.toNat:Int) == (c.toNat:Int))=true by simp,
      show(decide ((0:Int)≤(i:Int))&&true&&(decide ((0:Int)≤(fr:Int))&&decide ((fr:Int)≤(i:Int))))=true by simp;omega]
     simp only[Ytf,kQ,Yte,jA,toNat_cast]
     rw[show decide ((out++[(l.take i).drop fr]).length≤2147483648)=true by simp;omega,Ytb (by omega)]
     rfl
    ·refine(ih (i+1) (i+1) _ (by omega) (jB _) (by omega) (by simp;omega)).trans ?_
     rw[hd,e,Xaj]
     simp
   |false=>
    have ne:¬ l[i].toNat=c.toNat:=fun e=>by
     have:l[i]=c:=UInt8.toNat_inj.1 e;simp[this] at hc
    refine(Yeq (s':=((fr:Int),((i+1:Nat):Int),out)) ?_).trans ?_
    ·simp only[Zq0.B]
     rw[q1,q2,hb,hg,show((l[i].toNat:Int) == (c.toNat:Int))=false by simp;omega]
     simp only[Ytf,kQ,Yte,jA,toNat_cast]
     rw[Ytb (by omega)]
    ·refine(ih fr (i+1) _ (by omega) (by omega) (by omega) h3).trans ?_
     rw[hd];simp only[Xe,hc]
     congr 2
     rw[List.take_succ_eq_append_getElem hlt,List.drop_append_of_le_length (by simp;omega)]
 simp only[Zq1]
 rw[show((0:Int),(0:Int),([]:List (List UInt8)))=(((0:Nat):Int),((0:Nat):Int),[]) from rfl,key l.length 0 0 [] (by omega) (jB _) (kE _) (jB _)]
 rfl
theorem Xay (l:List UInt8) (c:UInt8):Zq6 l [c]=some (Go.Lib.indexByte l c):=by
 have h1:Xa l ((([c]:List UInt8).getD (0:Int).toNat 0).toNat:Int)=some (Go.Lib.indexByte l c):=by
  show some (Go.Lib.indexByte l (c.toNat:Int).toNat.toUInt8)=_
  congr 2
  simp
 simp only[Zq6,Xb,jA]
 cases h:([c]:List UInt8) == l with
 |true=>
  have e:[c]=l:=by simpa using h
  subst e
  simp[Go.Lib.indexByte]
 |false=>
  rw[h1];simp[inB]
theorem Xaz (l:List UInt8) (c:UInt8) (hl:l.length≤1048576):Zq9 l [c]=some (Xe c [] l):=by
 have hcl:l.count c≤l.length:=List.count_le_length
 have key:∀ (m:Nat) (s:List UInt8) (i:Nat) (dn:List (List UInt8)),m=s.count c→i+m=l.count c→dn.length=i→dn++Xe c [] s=Xe c [] l→s.length≤l.length→
   ∃ s' dn',Zq7 [c] 0 (l.count c:Int) (s,(i:Int),dn++List.replicate (m+1) [])=some (s',(l.count c:Int),dn'++[([]:List UInt8)])∧dn'.length=l.count c∧dn'++[s']=Xe c [] l:=by
  intro m
  induction m with
  |zero=>
   intro s i dn hm hi hd hc hs
   refine⟨s,dn,Yep ?_,by omega,?_⟩
   ·simp only[Zq7.B]
    rw[show decide ((i:Int)<(l.count c:Int))=false by simp;omega]
    have:(i:Int)=(l.count c:Int):=by omega
    simp[this]
   ·rw[←hc]
    rcases Xt c s with ⟨_,_,q⟩ | ⟨k,_,_,_,_,q⟩
    ·have:=Xaf c s [] [] q
     simp only[qC,jO] at this;rw[this];rfl
    ·omega
  |succ m ih=>
   intro s i dn hm hi hd hc hs;rcases Xt c s with ⟨_,q,_⟩ | ⟨k,k1,k2,k3,k4,k5⟩
   ·omega
   ·obtain⟨s',dn',r1,r2,r3⟩:=ih (s.drop (k+1)) (i+1) (dn++[s.take k]) (by omega) (by omega) (by simp;omega)
     (by
      rw[←hc,kO]
      congr 1
      conv=>rhs;rw[k4]
      rw[Xaf c _ _ _ k3,Xaj]
      simp) (by simp;omega)
    refine⟨s',dn',(Yeq ?_).trans r1,r2,r3⟩;have hcl2:=hcl;simp only[Zq7.B,Xay,jA,k1]
    have e0:w64 ((k:Int)+0)=(k:Int):=Yqj (by omega) (by omega)
    have e1:w64 ((k:Int)+(([c]:List UInt8).length:Int))=((k+1:Nat):Int):=by
     rw[show((k:Int)+(([c]:List UInt8).length:Int))=((k+1:Nat):Int) by simp]
     exact Yqj (by omega) (by omega)
    rw[show decide ((i:Int)<(l.count c:Int))=true by simp;omega,show decide ((k:Int)<0)=false by simp,e0,e1,
     show(decide ((0:Int)≤(k:Int))&&decide ((k:Int)≤(s.length:Int)))=true by simp;omega,
     show inB (i:Int) (dn++List.replicate (m+1+1) ([]:List UInt8)).length=true from Ytm (by omega) (by simp;omega),
     show(decide ((0:Int)≤((k+1:Nat):Int))&&decide (((k+1:Nat):Int)≤(s.length:Int)))=true by simp;omega,
     Ytb (by omega)]
    simp only[Ytf,Yte,jA,toNat_cast,List.drop_zero,List.take_length]
    have e2:(dn++List.replicate (m+1+1) ([]:List UInt8)).set i (s.take k)=(dn++[s.take k])++List.replicate (m+1) []:=by
     rw[List.set_append,jM (by omega),hd,Nat.sub_self,List.replicate_succ]
     simp
    rw[e2]
 obtain⟨s',dn',r1,r2,r3⟩:=key (l.count c) l 0 [] rfl (by omega) rfl rfl (jB _)
 have hv:(cond (decide (w64 ((l.length:Int)+1)<w64 ((l.count c:Int)+1))) (w64 ((l.length:Int)+1)) (w64 ((l.count c:Int)+1)))=((l.count c+1:Nat):Int):=by
  rw[show((l.length:Int)+1)=((l.length+1:Nat):Int) by simp,show((l.count c:Int)+1)=((l.count c+1:Nat):Int) by simp,Yqj (x:=((l.length+1:Nat):Int)) (by omega) (by omega),Yqj (x:=((l.count c+1:Nat):Int)) (by omega) (by omega)]
  rw[show decide (((l.length+1:Nat):Int)<((l.count c+1:Nat):Int))=false by simp;omega]
  rfl
 simp only[Zq9,Zq8,Zq5,countP,jA]
 rw[hv,show w64 (((l.count c+1:Nat):Int)-1)=(l.count c:Int) by rw[Yqj (by omega) (by omega)];omega]
 rw[show((-1:Int) == 0)=false by rfl,show(([c]:List UInt8) == [])=false by rfl,show decide ((-1:Int)<0)=true by rfl,
  show(decide ((0:Int)≤((l.count c+1:Nat):Int))&&(decide (((l.count c+1:Nat):Int)≤((l.count c+1:Nat):Int))&&decide (((l.count c+1:Nat):Int)≤2147483648)))=true by simp;omega]
 simp only[Ytf,Yte,toNat_cast];simp only[jO] at r1;rw[show((0:Int))=((0:Nat):Int) from rfl] at *;rw[r1];simp only[jA,toNat_cast]
 rw[show inB (l.count c:Int) (dn'++[([]:List UInt8)]).length=true from Ytm (by omega) (by simp;omega),Ytb (by omega)]
 have e2:(dn'++[([]:List UInt8)]).set (l.count c) s'=Xe c [] l:=by
  rw[List.set_append,jM (by omega),r2,Nat.sub_self,←r3];rfl
 have e3:(Xe c [] l).length=l.count c+1:=X4 c l []
 rw[e2,e3,show(decide (((0:Nat):Int)≤((l.count c+1:Nat):Int))&&decide (((l.count c+1:Nat):Int)≤((l.count c+1:Nat):Int)))=true by simp;omega]
 simp only[Ytf,jA,toNat_cast,List.drop_zero,Nat.sub_zero];rw[←e3,List.take_length]
def full (s:List UInt8):Bool:=!(s == ([]:List UInt8))
theorem Xa0 (l:List UInt8) (hl:l.length≤1048576):Zq3 l=some ((Xe 32 [] l).filter full):=by
 have hn:(Xe 32 [] l).length≤1048577:=by rw[X4];have:=List.count_le_length (a:=(32:UInt8)) (l:=l);omega
 have e32:=Xax l 32 hl;generalize Xe 32 [] l=r at hn e32
 have key:∀ (m i:Nat) (out:List (List UInt8)),m=r.length-i→i≤r.length→out.length≤i→Zq2 r ((i:Int),out)=some (out++(r.drop i).filter full):=by
  intro m
  induction m with
  |zero=>
   intro i out hm h1 h2
   have:i=r.length:=by omega
   subst this;refine Yep ?_;simp only[Zq2.B,Ytl (jB _),Yte]
   simp
  |succ m ih=>
   intro i out hm h1 h2
   have hlt:i<r.length:=by omega
   have hd:r.drop i=r[i]::r.drop (i+1):=kZ hlt
   have hb:inB (i:Int) r.length=true:=Ytm (by omega) (by omega)
   cases hf:full r[i] with
   |true=>
    refine(Yeq (s':=(((i+1:Nat):Int),out++[r[i]])) ?_).trans ?_
    ·simp only[Zq2.B,Ytp hlt,hb,Ytf,toNat_cast,getD_lt _ hlt]
     rw[show(!r[i] == ([]:List UInt8))=true from hf];simp only[Ytf]
     rw[show decide ((out++[r[i]]).length≤2147483648)=true by simp;omega,Ytb (by omega)]
     rfl
    ·refine(ih (i+1) _ (by omega) (by omega) (by simp;omega)).trans ?_
     rw[hd,List.filter_cons_of_pos hf];simp
   |false=>
    refine(Yeq (s':=(((i+1:Nat):Int),out)) ?_).trans ?_
    ·simp only[Zq2.B,Ytp hlt,hb,Ytf,toNat_cast,getD_lt _ hlt]
     rw[show(!r[i] == ([]:List UInt8))=false from hf,Ytb (by omega)]
     rfl
    ·refine(ih (i+1) _ (by omega) (by omega) (by omega)).trans ?_
     rw[hd,List.filter_cons_of_neg (by simp[hf])]
 simp only[Zq3]
 rw[show(32:Int)=((32:UInt8).toNat:Int) by rfl,e32]
 simp only[jA]
 rw[show((0:Int),([]:List (List UInt8)))=(((0:Nat):Int),[]) from rfl,key r.length 0 [] (by omega) (kE _) (jB _)]
 rfl
theorem Xag (r:List (List UInt8)) (hr:r.length≤1048577) :
  (Xo r ()=some (-1)∧r.filter full=r)∨∃ k:Nat,Xo r ()=some (k:Int)∧k<r.length∧(r.take (k+1)).filter full=r.take k:=by
 have key:∀ (m i:Nat),m=r.length-i→i≤r.length→(r.take i).filter full=r.take i→
   (Xk r () (r.length:Int) (i:Int)=some (.inr ())∧r.filter full=r)∨
   ∃ k:Nat,Xk r () (r.length:Int) (i:Int)=some (.inl (k:Int))∧k<r.length∧(r.take (k+1)).filter full=r.take k:=by
  intro m
  induction m with
  |zero=>
   intro i hm h1 h2
   have:i=r.length:=by omega
   subst this
   refine .inl ⟨Yep ?_,by simpa using h2⟩
   simp only[Xk.B,Ytl (jB _),Yte]
  |succ m ih=>
   intro i hm h1 h2
   have hlt:i<r.length:=by omega
   have hb:inB (i:Int) r.length=true:=Ytm (by omega) (by omega)
   have ht:r.take (i+1)=r.take i++[r[i]]:=List.take_succ_eq_append_getElem hlt
   cases hf:full r[i] with
   |true=>
    have st:Xk r () (r.length:Int) (i:Int)=Xk r () (r.length:Int) ((i+1:Nat):Int):=by
     refine Yeq ?_;simp only[Xk.B,Ytp hlt,hb,Ytf,toNat_cast,getD_lt _ hlt,Xn,jA]
     rw[show(r[i] == ([]:List UInt8))=false by simpa [full] using hf,Ytb (by omega)]
     rfl
    rw[st]
    exact ih (i+1) (by omega) (by omega) (by rw[ht,List.filter_append,h2,List.filter_cons_of_pos hf];rfl)
   |false=>
    refine .inr ⟨i,Yep ?_,hlt,by rw[ht,List.filter_append,h2,List.filter_cons_of_neg (by simp[hf])];simp⟩
    simp only[Xk.B,Ytp hlt,hb,Ytf,toNat_cast,getD_lt _ hlt,Xn,jA]
    rw[show(r[i] == ([]:List UInt8))=true by simpa [full] using hf]
    rfl
 simp only[Xo]
 rcases key r.length 0 (by omega) (kE _) rfl with ⟨h1,h2⟩ | ⟨k,h1,h2,h3⟩
 ·exact .inl ⟨by rw[show Xk r () (r.length:Int) 0=_ from h1];rfl,h2⟩
 ·exact .inr ⟨k,by rw[show Xk r () (r.length:Int) 0=_ from h1];rfl,h2,h3⟩
theorem Xad (r:List (List UInt8)) (hr:r.length≤1048577):Xp r ()=some (r.filter full):=by
 rcases Xag r hr with ⟨h1,h2⟩ | ⟨k,h1,h2,h3⟩
 ·simp only[Xp,h1,jA,h2];rfl
 have key:∀ (m i j:Nat) (s:List (List UInt8)),m=r.length-j→i≤j→j≤r.length→s.length=r.length→s.take i=(r.take j).filter full→s.drop j=r.drop j→
   ∃ (i':Nat) (s':List (List UInt8)),Xu () ((i:Int),(j:Int),s)=some ((i':Int),s')∧i'≤s'.length∧s'.length=r.length∧s'.take i'=r.filter full:=by
  intro m
  induction m with
  |zero=>
   intro i j s hm h1 h2 h3 h4 h5
   have:j=r.length:=by omega
   subst this
   refine⟨i,s,Yep ?_,by omega,h3,by simpa using h4⟩
   simp only[Xu.B]
   rw[show decide ((r.length:Int)<(s.length:Int))=false by simp;omega]
   rfl
  |succ m ih=>
   intro i j s hm h1 h2 h3 h4 h5
   have hlt:j<r.length:=by omega
   have hls:j<s.length:=by omega
   have ht:r.take (j+1)=r.take j++[r[j]]:=List.take_succ_eq_append_getElem hlt
   have hg:s[j]=r[j]:=by
    have e1:s.drop j=s[j]::s.drop (j+1):=kZ hls;have e2:r.drop j=r[j]::r.drop (j+1):=kZ hlt;rw[e1,e2] at h5;exact(List.cons.inj h5).1
   have h5':s.drop (j+1)=r.drop (j+1):=by rw[←List.drop_drop,←List.drop_drop,h5]
   have hb:inB (j:Int) s.length=true:=Ytm (by omega) (by omega)
   cases hf:full r[j] with
   |true=>
    obtain⟨i',s',r1,r2,r3,r4⟩:=ih (i+1) (j+1) (s.set i r[j]) (by omega) (by omega) (by omega) (by simp[h3])
     (by
      rw[ht,List.filter_append,←h4,List.filter_cons_of_pos hf,List.take_succ_eq_append_getElem (by simp;omega)]
      simp[List.take_set_of_le]) (by rw[List.drop_set_of_lt (by omega),h5'])
    refine⟨i',s',(Yeq ?_).trans r1,r2,r3,r4⟩;simp only[Xu.B,Ytp hls,hb,Ytf,toNat_cast,getD_lt _ hls,Xn,jA,hg]
    rw[show(!r[j] == ([]:List UInt8))=true from hf,show inB (i:Int) s.length=true from Ytm (by omega) (by omega),Ytb (by omega),Ytb (by omega)]
    rfl
   |false=>
    obtain⟨i',s',r1,r2,r3,r4⟩:=ih i (j+1) s (by omega) (by omega) (by omega) h3
     (by rw[ht,List.filter_append,←h4,List.filter_cons_of_neg (by simp[hf])];simp) h5'
    refine⟨i',s',(Yeq ?_).trans r1,r2,r3,r4⟩;simp only[Xu.B,Ytp hls,hb,Ytf,toNat_cast,getD_lt _ hls,Xn,jA,hg]
    rw[show(!r[j] == ([]:List UInt8))=false from hf,Ytb (i:=j) (by omega)]
    rfl
 obtain⟨i',s',r1,r2,r3,r4⟩:=key (r.length-(k+1)) k (k+1) r rfl (by omega) (by omega) rfl h3.symm rfl
 simp only[Xp,h1,jA]
 rw[show((k:Int) == -1)=false by simp,Ytb (by omega),Yte,r1]
 simp only[jA,toNat_cast]
 rw[show(decide ((0:Int)≤(i':Int))&&decide ((i':Int)≤(s'.length:Int)))=true by simp;omega]
 simp only[Ytf,jA]
 have hs:splice s' i' (List.replicate (s'.length-i') [])=s'.take i'++List.replicate (s'.length-i') []:=by
  simp only[splice,List.length_replicate]
  rw[List.drop_eq_nil_of_le (by omega),qC]
 rw[hs,show(decide ((0:Int)≤(i':Int))&&decide ((i':Int)≤((s'.take i'++List.replicate (s'.length-i') ([]:List UInt8)).length:Int)))=true by simp;omega]
 simp only[Ytf,List.drop_zero,Nat.sub_zero]
 rw[List.take_append_of_le_length (by simp;omega),List.take_take,Nat.min_self,r4]
theorem Xa1 (l:List UInt8) (hl:l.length≤1048576):Xaa l=some ((Xe 32 [] l).filter full):=by
 simp only[Xaa,Xaz l 32 hl,jA]
 rw[Xad _ (by rw[X4];have:=List.count_le_length (a:=(32:UInt8)) (l:=l);omega)]
 rfl
theorem Xap (c:UInt8):∀ (l acc:List UInt8),((Xe c acc l).map (wt .str)).sum≤acc.length+l.length+l.length+1:=by
 intro l
 induction l with
 |nil=>intro acc;simp[Xe,wt]
 |cons b l ih=>
  intro acc;simp only[Xe]
  cases h:b == c with
  |true=>
   have:=ih [];simp only[jS,List.sum_cons,jH,Ysn,kD] at *
   omega
  |false=>
   have:=ih (acc++[b]);simp only[jP,jH,kD] at *;omega
theorem X7 (p:List UInt8→Bool):∀ r:List (List UInt8),((r.filter p).map (wt .str)).sum≤(r.map (wt .str)).sum:=by
 intro r
 induction r with
 |nil=>exact jB _
 |cons x r ih=>
  cases h:p x with
  |true=>rw[List.filter_cons_of_pos h];simp only[jS,List.sum_cons];omega
  |false=>rw[List.filter_cons_of_neg (by simp[h])];simp only[jS,List.sum_cons];omega
theorem WordsOf.main (l:List UInt8) (hf:Fit .str l) (hw:wt .str l≤1048576):∃ r,Zq4 l=some r∧X3 l=some r∧wt Xc r≤2147483648:=by
 have hl:l.length≤1048576:=by rw[Ysn] at hw;omega
 refine⟨(0,(Xe 32 [] l).filter full,()),?_,?_,?_⟩
 ·simp only[Zq4,Xa0 l hl,jA]
 ·simp only[X3,Xa1 l hl,jA]
 ·have h1:=Xap 32 l []
  have h2:=X7 full (Xe 32 [] l);simp only[kD] at h1;rw[Yrq,Yrq,Ysm,Yrr,Ytc];show 1+(((((Xe 32 [] l).filter full).map (wt .str)).sum+1)+0)≤_;omega
theorem WordsOf.law (x:PT.Els (shs [.str])) (hf:Yl7 [.str] x) (hw:Yn0 [.str] x≤1048576):Xae x.1=some true:=by
 simp only[Yn0] at hw;have hf0:Fit .str x.1:=hf.1
 have hw0:wt .str x.1≤1048576:=by omega
 clear hw hf;generalize x.1=a0 at hf0 hw0 ⊢;obtain⟨r,hr1,hr2,hr3⟩:=WordsOf.main a0 hf0 hw0;obtain⟨r_0,r_1,⟨⟩⟩:=r;replace hr3:wt Xc (r_0,r_1,())≤2147483648:=hr3;replace hr1:Zq4 a0=some (r_0,r_1,()):=hr1;replace hr2:X3 a0=some (r_0,r_1,()):=hr2;have er:=Xat (r_0,r_1,()) hr3
 obtain⟨kr,y0,l1,l2,hm,hh⟩:=Xaw r_0 r_1 1 (by omega) (by omega) hr3
 have hsz:∀ g:Option Bool,g=some true→∀ b:Bool,cond b (some true) g=some true:=fun g h b=>by cases b<;>first | rfl | exact h
 simp only[Xae]
 repeat' (first | with_reducible refine hsz _ ?_ _ | (rw[jA]))
 simp only[er,hm,hh,hr1,hr2,Ytw,jA,jK,Yte,Ytf,Yst,Yso,Ysp,Yth (by omega:0≤kr)]
end Mf
