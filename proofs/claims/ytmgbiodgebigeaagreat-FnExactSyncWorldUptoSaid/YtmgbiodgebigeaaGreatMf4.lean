import Derived.Test.YtmgbiodgebigeaaGreatMf3
set_option linter.unusedVariables false
set_option linter.unusedSimpArgs false
set_option autoImplicit true
set_option relaxedAutoImplicit true
namespace Mf
open Go
variable {C:Cx} {G:Gam} {P:Program} {S:St} {Z:W0} {np nt:Nat} {tb:Tb} {w w':World}
section
open Go.ChangeShapes
variable {H:Type} {enc:TypeId×Value→H}
theorem Ynj {r:Reach} {base:Nat} {t:TypeId} {v:Value} {i:Yey} (hd:TOk P t i) (h:Value.okWide P w r base t v):i.ty.isAgg=true↔∃ cs,v=.agg cs:=by
 obtain⟨⟨d,hu,hD,ha⟩,_⟩:=hd;rw[ha];unfold Value.okWide at h;rw[hu] at h;obtain⟨td,ty,by_⟩:=i;simp only at hD
 have leaf:d.isRow=false→Cell.okWide P w r base t v→(d=.bool∨d=.string∨(∃ k,d=.int k)∨∃ e,d=.slice e)→(d.isRow=true↔∃ cs,v=.agg cs):=by
  intro h1 h2 h3;rw[h1]
  refine⟨(fun e=>by cases e),fun⟨cs,e⟩=>?_⟩
  subst e
  rcases h3 with rfl | rfl | ⟨k,rfl⟩ | ⟨e,rfl⟩<;>simp[Cell.okWide,Cell.ok,hu] at h2
 cases td with
 |int k=>obtain⟨rfl,rfl⟩:=hD;exact leaf rfl h (.inr (.inr (.inl ⟨k,rfl⟩)))
 |bool=>obtain⟨rfl,rfl⟩:=hD;exact leaf rfl h (.inl rfl)
 |str=>obtain⟨rfl,rfl⟩:=hD;exact leaf rfl h (.inr (.inl rfl))
 |sl e=>obtain⟨rfl,_⟩:=hD;exact leaf rfl h (.inr (.inr (.inr ⟨e,rfl⟩)))
 |arr n e=>
  obtain⟨rfl,_⟩:=hD;obtain⟨cs,rfl,_⟩:=h
  exact⟨fun _=>⟨cs,rfl⟩,fun _=>rfl⟩
 |st offs=>
  obtain⟨fs,rfl,_⟩:=hD;obtain⟨cs,rfl,_⟩:=h
  exact⟨fun _=>⟨cs,rfl⟩,fun _=>rfl⟩
 |ptr e=>exact hD.elim
 |other=>exact hD.elim
def Ypn (tb:Tb):List TypeId→List Ty→Bool
 |[],[]=>true
 |t::ts,u::us=>(match lk t tb with | some i=>decide (i.ty=u) | none=>false)&&Ypn tb ts us
 |_,_=>false
abbrev shs (tys:List Ty):List PT:=tys.map fun t=>.cl .sh t
def Yn1:(tys:List Ty)→PT.Els (shs tys)→Prop
 |[],_=>True
 |t::l,x=>Fit t x.1∧Yn1 l x.2
def Ypc:(tys:List Ty)→PT.Els (shs tys)→Nat
 |[],_=>0
 |t::l,x=>wt t x.1+Ypc l x.2
def Ye2 (w:World):(tys:List Ty)→PT.Els (shs tys)→List Value→Prop
 |[],_,vs=>vs=[]
 |t::l,x,v::vs=>(Rep w noB t .sh x.1 (.reg v.cells.toList 0) noB∧v.cells.size=t.size∧(t.isAgg=true↔∃ cs,v=.agg cs))∧Ye2 w l x.2 vs
 |_::_,_,[]=>False
theorem Yod (hb:Yag P tb) {t:TypeId} {i:Yey} (hl:lk t tb=some i) {held:Bool} {fuel:Nat} {sp:Nat→Bool} {v:Value} {d:DataW H} {ps:List MemPlace} (hagg:i.ty.isAgg=true↔∃ cs,v=.agg cs)
  (h:DataW.trod enc P w 0 sp held fuel t v.cells.toList=some (d,ps)):v.cells.size=i.ty.size:=by
 cases hh:i.ty.isAgg with
 |false=>
  have:¬ ∃ cs,v=.agg cs:=fun e=>by rw[hagg.2 e] at hh;cases hh
  rw[Ybz this]
  cases ht:i.ty<;>rw[ht] at hh<;>first | rfl | cases hh
 |true=>
  obtain⟨⟨u,hu,hD,ha⟩,_⟩:=hb t i hl;have hcell:=Ycz (hb t i hl)
  cases fuel with
  |zero=>simp[DataW.trod] at h
  |succ n=>
   obtain⟨td,ty,by_⟩:=i;simp only at hD hh ha hcell ⊢
   cases td with
   |int k=>obtain⟨_,rfl⟩:=hD;cases hh
   |bool=>obtain⟨_,rfl⟩:=hD;cases hh
   |str=>obtain⟨_,rfl⟩:=hD;cases hh
   |sl e=>obtain⟨_,te,ie,rfl,_⟩:=hD;cases hh
   |arr n e=>
    obtain⟨rfl,_⟩:=hD;simp only[DataW.trod,hu] at h
    split at h
    ·rename_i hc;rw[←hcell,←hc];simp
    ·cases h
   |st offs=>
    obtain⟨fs,rfl,_⟩:=hD;simp only[DataW.trod,hu] at h
    split at h
    ·rename_i hc;rw[←hcell,←hc];simp
    ·cases h
   |ptr e=>exact hD.elim
   |other=>exact hD.elim
theorem Ykc (hb:Yag P tb) (hc:Yc1 P tb tb=true) {bk:DataW H→Nat} (hf:Ytx bk) {held:Bool} {sp:Nat→Bool} {base:Nat}:∀ (ts:List TypeId) (tys:List Ty) (vs:List Value) (ds:List (DataW H)) (ps:List MemPlace),
  Ypn tb ts tys=true→(∀ (j:Nat) t v,ts[j]? = some t→vs[j]? = some v→Value.okWide P w .any base t v)→DataW.TrodAll enc P w 0 sp held ts vs ds ps→
  ∃ x:PT.Els (shs tys),Ye2 w tys x vs∧Yn1 tys x∧Ypc tys x≤Yeg bk ds
 |[],[],vs,ds,ps,ht,hv,h=>by
  obtain⟨rfl,rfl,rfl⟩:=trodAll_nil h
  exact⟨(),rfl,trivial,kE _⟩
 |t::ts,ty::tys,vs,ds,ps,ht,hv,h=>by
  obtain⟨v,vs1,d,ds1,a,b,rfl,rfl,rfl,h1,h2⟩:=trodAll_cons h;simp only[Ypn,jC] at ht;obtain⟨ht1,ht2⟩:=ht
  split at ht1
  ·rename_i i hi
   rw[jI] at ht1;subst ht1
   obtain⟨x2,p1,p2,p3⟩:=Ykc hb hc hf ts tys vs1 ds1 b ht2 (fun j t v e1 e2=>hv (j+1) t v (by simpa using e1) (by simpa using e2)) h2
   obtain⟨fuel,h1⟩:=h1;have hagg:=Ynj (hb t i hi) (hv 0 t v rfl rfl);have hsz:=Yod hb hi hagg h1
   obtain⟨x1,q1,q2,q3⟩:=Yiw hb hc hf fuel t i _ d a hi h1 (.reg v.cells.toList 0) (fun k u hk=>by simp only[Src.cell,jJ];exact hk) (by simp[hsz])
   refine⟨(x1,x2),⟨⟨q1,hsz,hagg⟩,p1⟩,⟨q2,p2⟩,?_⟩;simp only[Ypc,Yeg];omega
  ·cases ht1
 |[],_::_,vs,ds,ps,ht,hv,h=>by cases ht
 |_::_,[],vs,ds,ps,ht,hv,h=>by cases ht
theorem Yfw (hb:Yag P tb) (hc:Yc1 P tb tb=true) (hw:∀ b,b<w.heap.size→w'.heap[b]? = w.heap[b]?) {held held':Bool} {sp':Nat→Bool}:∀ (ts:List TypeId) (tys:List Ty) (vs:List Value) (ds:List (DataW H)) (ps:List MemPlace),
  Ypn tb ts tys=true→DataW.TrodAll enc P w 0 (fun _=>true) held ts vs ds ps→(∀ p∈ps,sp' p.block=true)→DataW.TrodAll enc P w' 0 sp' held' ts vs ds ps
 |[],[],vs,ds,ps,ht,h,hp=>by
  obtain⟨rfl,rfl,rfl⟩:=trodAll_nil h
  exact trodAll_mk0
 |t::ts,ty::tys,vs,ds,ps,ht,h,hp=>by
  obtain⟨v,vs1,d,ds1,a,b,rfl,rfl,rfl,h1,h2⟩:=trodAll_cons h;simp only[Ypn,jC] at ht;obtain⟨ht1,ht2⟩:=ht
  split at ht1
  ·rename_i i hi
   obtain⟨fuel,h1⟩:=h1;exact⟨a,b,⟨fuel,Yjv hb hc hw fuel t i _ d a hi h1 (fun p hp'=>hp p (jW _ hp'))⟩,Yfw hb hc hw ts tys vs1 ds1 b ht2 h2 (fun p hp'=>hp p (kB _ hp')),rfl⟩
  ·cases ht1
 |[],_::_,vs,ds,ps,ht,h,hp=>by cases ht
 |_::_,[],vs,ds,ps,ht,h,hp=>by cases ht
theorem Ye2.length {tys:List Ty}:∀ {x:PT.Els (shs tys)} {vs:List Value},Ye2 w tys x vs→vs.length=(PT.mks (shs tys) x).length:=by
 induction tys with
 |nil=>intro x vs h;rw[show vs=[] from h];rfl
 |cons t l ih=>
  intro x vs h
  cases vs with
  |nil=>exact h.elim
  |cons v vs=>exact congrArg (·+1) (ih h.2)
theorem Ye2.get {tys:List Ty}:∀ {x:PT.Els (shs tys)} {vs:List Value} (i:Nat) {c:TV},Ye2 w tys x vs→(PT.mks (shs tys) x)[i]? = some c→
  ∃ t y v,c=.cl .sh t y∧vs[i]? = some v∧Rep w noB t .sh y (.reg v.cells.toList 0) noB∧v.cells.size=t.size∧(t.isAgg=true↔∃ cs,v=.agg cs):=by
 induction tys with
 |nil=>intro x vs i c h hc;cases hc
 |cons t l ih=>
  intro x vs i c h hc
  cases vs with
  |nil=>exact h.elim
  |cons v vs=>
   cases i with
   |zero=>cases hc;exact⟨t,x.1,v,rfl,rfl,h.1.1,h.1.2.1,h.1.2.2⟩
   |succ i=>
    obtain⟨t',y,u,h1,h2,h3⟩:=ih i h.2 (c:=c) hc
    exact⟨t',y,u,h1,by simpa using h2,h3⟩
theorem Ytd {tys:List Ty}:∀ (x:PT.Els (shs tys)),PT.rds (shs tys) (PT.mks (shs tys) x)=some x:=by
 induction tys with
 |nil=>intro x;rfl
 |cons t l ih=>
  intro x
  have e1:(PT.cl .sh t).rd (.cl .sh t x.1)=some x.1:=by
   simp only[PT.rd];rw[show decEq Ow.sh Ow.sh=isTrue rfl from Subsingleton.elim _ _,show decEq t t=isTrue rfl from Subsingleton.elim _ _]
  have h2:=ih x.2;change PT.rds (PT.cl .sh t::shs l) (TV.cl .sh t x.1::PT.mks (shs l) x.2)=some x;simp only[PT.rds];rw[e1,h2];rfl
theorem Yrr (r:Nat) (p:Path) (t:Ty) (x:t.El):Yal r p .sh t x=.cl .sh t x:=by
 cases t<;>simp only[Yal]<;>first | rfl | (split<;>rfl)
theorem Yqc {f:FuncId} {ms:List Md} {tys:List Ty} {x:PT.Els (shs tys)} {us:Array Value} {o:Ow} {b:Bool} (hC:Ycf P f ms (PT.mks (shs tys) x) ⟨[.cl o .bool b],[]⟩) (ha:Ye2 w tys x us.toList) :
  Calls P f us w fun e w'=>e=.returned (.bool b)∧(∀ i,i<w.heap.size→w'.heap[i]? = w.heap[i]?)∧w'.os=w.os∧w'.output=w.output∧w.heap.size≤w'.heap.size:=by
 have hlen:us.size=(PT.mks (shs tys) x).length:=by rw[←ha.length];simp
 let Z:W0:=⟨w,noB,fun _ _=>False,noB,fun i=>if i<us.size then some (.reg (us.getD i undef).cells.toList 0) else none,us.size⟩
 let C:Cx:=⟨fun i=>.reg (us.getD i undef).cells.toList 0,fun _=>noB⟩
 have hroot:∀ r,(Yh (PT.mks (shs tys) x)).root r=none:=by
  intro r;unfold St.root Yh;simp only[Ykd];rw[jL (kE r)]
  cases hc:(PT.mks (shs tys) x)[r-0]? with
  |none=>rfl
  |some c=>
   obtain⟨t,y,v,rfl,_⟩:=ha.get _ hc
   have:Y8 (.cl .sh t y)=none:=by
    show(match t.pure,Ow.sh with | true,_=>none | false,.sh=>none | false,o=>some (Root.mk .reg (.cl o t y)))=none
    cases t.pure<;>rfl
   simp[this]
 have hM:∀ b,¬ Mt Z C (Yh (PT.mks (shs tys) x)).root noB b:=by
  rintro b (⟨r,R,h,_⟩ | h | h)
  ·rw[hroot] at h;cases h
  ·exact h
  ·exact h
 have I:Inv Z (Yh (PT.mks (shs tys) x)) C ⟨us,[]⟩ w:=by
  refine⟨⟨?_,?_,?_,?_,fun _ h=>h.elim,?_,?_,?_,jB _,fun _ _ _=>rfl,fun _ _ _=>rfl,fun _ _ _ _=>rfl,fun _ h=>h.elim,fun _ _ h=>h.elim,rfl,rfl,rfl⟩,fun i v hv=>?_,rfl,rfl⟩
  ·intro r R h;rw[hroot] at h;cases h
  ·intro r R h;rw[hroot] at h;cases h
  ·intro r R h;rw[hroot] at h;cases h
  ·intro r R b h;rw[hroot] at h;cases h
  ·intro r r' R R' _ h;rw[hroot] at h;cases h
  ·intro r R h;rw[hroot] at h;cases h
  ·intro r R h;rw[hroot] at h;cases h
  ·have h1:=Yev (PT.mks (shs tys) x) 0 i
   rw[show lk i (Yc7 0 (PT.mks (shs tys) x))=some v from hv,jL (kE i)] at h1
   cases hc:(PT.mks (shs tys) x)[i-0]? with
   |none=>rw[hc] at h1;cases h1
   |some c=>
    rw[hc] at h1;obtain⟨t,y,u,rfl,hu,hr,hs,hg⟩:=ha.get _ hc;simp only[jT,jD,TV.mir,Yrr] at h1;subst h1;rw[Nat.sub_zero] at hu
    have hu':us.getD i undef=u:=by
     rw[kU,←Array.getElem?_toList,hu];rfl
    show Yb _ _ _ _ _ _;rw[show(Act.mk us []).tmps=us from rfl,hu'];refine⟨?_,hs,hg⟩;have:=Ya.mono (Lf:=Yi w (Mt Z C (Yh (PT.mks (shs tys) x)).root noB) C.L (Yh (PT.mks (shs tys) x)).root) (tv:=.cl .sh t y) hr (M':=Mt Z C (Yh (PT.mks (shs tys) x)).root noB) (fun b h=>(hM b h).elim);exact this
 refine(hC.calls Z C us hlen rfl (fun i hi=>jM (by omega)) (fun i hi=>jL hi) I).mono fun e w' he=>?_
 obtain⟨v,rfl,C',G,ρ,Fr,hS,_,_,hres,_⟩:=he
 have hv:v=.bool b:=by
  obtain⟨h1,h2,h3⟩:Ya _ _ _ (TV.cl o .bool b) (.reg v.cells.toList 0) Fr∧v.cells.size=1∧((TV.cl o .bool b).isAgg=true↔∃ cs,v=.agg cs):=hres
  have hna:¬ ∃ cs,v=.agg cs:=fun e=>by have:=h3.2 e;cases this
  have h4:v.cells.toList[0+0]? = some (.bool b):=h1;rw[Ybz hna] at h4
  simpa using h4
 subst hv;exact⟨rfl,fun i hi=>hS.old i hi (fun h=>h),hS.os,hS.output,hS.sz⟩
theorem Yms {may:MemPlace→Prop} (h:∀ i,i<w.heap.size→w'.heap[i]? = w.heap[i]?) (h1:w'.os=w.os) (h2:w'.output=w.output):w.keptBut w' may:=by
 have hr:=World.keptBut_refl w may;refine⟨h1,h2,fun i hi=>?_⟩;rw[h i hi];exact hr.2.2 i hi
theorem Ytc (hb:Yag P tb) (hc:Yc1 P tb tb=true) {bk:DataW H→Nat} (hf:Ytx bk) {f:FuncId} {fn:Func} {tys:List Ty} (hty:Ypn tb fn.params.toList tys=true)
  {ms:List Md} {F:PT.Els (shs tys)→Option Bool} {o:Ow} (hok:Ycs P f (Ycc ms (shs tys) F (fun b=>⟨[.cl o .bool b],[]⟩))) {N:Nat} {s:ChangeSpec} (hvars:s.vars=[]) {W:World} {base:Nat} {args:Array Value} {ds gs:List (DataW H)} {before:List MemPlace}
  (hval:∀ (j:Nat) t v,fn.params[j]? = some t→args[j]? = some v→Value.okWide P W .any base t v) (hW:DataW.Whole enc P fn.params.toList s.vars false W args.toList ds gs before)
  (hk:Yeg bk (ds++gs)≤N) (law:∀ x,Yn1 tys x→Ypc tys x≤N→F x=some true)
  (hs:s.fn H (ds++gs)={results:=[.lit (.bool true)],args:=ds }) {tr:TypeId} (hres:fn.resultTypes=#[tr]) (hbool:P.underlying tr=some .bool) :
  Calls P f args W fun e W'=>∃ v,e=.returned v∧s.post enc P fn false true false false W args v W':=by
 have hW0:=hW;obtain⟨p,q,hA,hV,rfl,hfz,hnd⟩:=hW
 obtain⟨rfl,rfl⟩:gs=[]∧q=[]:=by rw[hvars] at hV;exact trodVars_none hV
 obtain⟨x,h1,h2,h3⟩:=Ykc hb hc hf fn.params.toList tys args.toList ds p hty (fun j t v e1 e2=>hval j t v (by simpa using e1) (by simpa using e2)) hA
 rw[qC] at hk;have hF:=law x h2 (jU h3 hk)
 obtain⟨out,e1,hC⟩:=hok (PT.mks (shs tys) x) Out some ⟨[.cl o .bool true],[]⟩ (by simp only[Ycc,Ytd,hF];rfl)
 cases e1;refine(Yqc hC h1).mono fun e W' he=>?_;obtain⟨rfl,hold,hos,hout,hsz⟩:=he
 refine⟨_,rfl,ds,[],p++[],[],p,[],hW0,?_,?_,?_,Yms hold hos hout,fun h=>by cases h⟩
 ·rw[hs,hres]
  exact trodAll_mk1 ⟨1,by simp[DataW.trod,hbool,Value.resultList,Value.cells]⟩
 ·rw[hs]
  refine Yfw hb hc hold fn.params.toList tys args.toList ds p hty hA (fun y hy=>?_)
  have:=hW0.lt y (by simpa using hy)
  simpa using this
 ·rw[hvars,hs];rfl
end
theorem Yj7:∀ {n:Nat} {s:σ} {r:ρ},iter f n s=some r→iter f (n+1) s=some r
 |0,s,r,h=>by cases h
 |n+1,s,r,h=>by
  rw[iter] at h ⊢
  cases hf:f s with
  |none=>rw[hf] at h;cases h
  |some o=>
   rw[hf] at h
   cases o with
   |inl s'=>exact Yj7 (n:=n) h
   |inr r'=>exact h
theorem Yo7 {σ ρ:Type} {f:σ→Option (σ⊕ρ)} {n m:Nat} {s:σ} {r:ρ} (h:iter f n s=some r) (hnm:n≤m):iter f m s=some r:=by
 induction hnm with
 |refl=>exact h
 |step _ ih=>exact Yj7 ih
theorem Yii {σ ρ:Type} {f:σ→Option (σ⊕ρ)} {s:σ} {r:ρ} {n:Nat} (h:iter f n s=some r):Yaj f s=some r:=by
 unfold Yaj;have hh:∃ r n,iter f n s=some r:=⟨r,n,h⟩;rw[dif_pos hh];obtain⟨m,hm⟩:=hh.choose_spec;have h1:=Yo7 h (Nat.le_max_left n m);have h2:=Yo7 hm (Nat.le_max_right n m);rw[h1] at h2;exact h2.symm
theorem Yap {σ ρ:Type} {f:σ→Option (σ⊕ρ)} {s:σ} {r:ρ} (h:f s=some (.inr r)):Yaj f s=some r:=
 Yii (n:=1) (by rw[iter,h];rfl)
theorem Ybe {σ ρ:Type} {f:σ→Option (σ⊕ρ)} {s s':σ} (h:f s=some (.inl s')):Yaj f s=Yaj f s':=by
 by_cases hh:∃ r n,iter f n s'=some r
 ·obtain⟨r,n,hn⟩:=hh
  rw[Yii hn]
  exact Yii (n:=n+1) (by rw[iter,h];exact hn)
 ·have h1:¬ ∃ r n,iter f n s=some r:=by
   rintro⟨r,n,hn⟩
   cases n with
   |zero=>cases hn
   |succ n=>rw[iter,h] at hn;exact hh ⟨r,n,hn⟩
  unfold Yaj;rw[dif_neg hh,dif_neg h1]
theorem Yr5 (h1 : -9223372036854775808≤x) (h2:x≤9223372036854775807):w64 x=x:=by
 simp[w64,IntKind.wrap,IntKind.bits,IntKind.signed];omega
theorem Yt7 {i:Int} {n:Nat} (h1:0≤i) (h2:i<n):inB i n=true:=by
 simp[inB,h1,h2]
theorem Yv6 {i n:Nat} (h:i<n):decide ((i:Int)<(n:Int))=true:=by simp;omega
theorem Ywf {i n:Nat} (h:n≤i):decide ((i:Int)<(n:Int))=false:=by simp;omega
theorem Yvf {i:Nat} (h:i<4294967296):w64 ((i:Int)+1)=((i+1:Nat):Int):=by rw[Yr5 (by omega) (by omega)];rfl
def Ybg {α τ ρ:Type} (step:Nat→α→τ→τ⊕ρ) (e:τ→ρ):Nat→List α→τ→ρ
 |_,[],t=>e t
 |i,x::l,t=>sel (step i x t) (fun t'=>Ybg step e (i+1) l t') (fun r=>r)
theorem Ygi (l:List α) (mk:Nat→τ→σ) (step:Nat→α→τ→τ⊕ρ) (e:τ→ρ)
  (hs:∀ (i:Nat) (h:i<l.length) (t:τ),f (mk i t)=some (sel (step i l[i] t) (fun t'=>.inl (mk (i+1) t')) (fun r=>.inr r)))
  (he:∀ t,f (mk l.length t)=some (.inr (e t))):∀ (k i:Nat) (t:τ),i+k=l.length→Yaj f (mk i t)=some (Ybg step e i (l.drop i) t)
 |0,i,t,hi=>by
  have:i=l.length:=by omega
  subst this
  rw[Yap (he t)];simp[Ybg]
 |k+1,i,t,hi=>by
  have hlt:i<l.length:=by omega
  rw[kZ hlt,Ybg];have:=hs i hlt t
  cases hst:step i l[i] t with
  |inl t'=>rw[hst] at this;rw[Ybe this,Ygi l mk step e hs he k (i+1) t' (by omega)];rfl
  |inr r=>rw[hst] at this;rw[Yap this];rfl
theorem Yi0 (l:List α) (mk:Nat→τ→σ) (step:Nat→α→τ→τ⊕ρ) (e:τ→ρ)
  (hs:∀ (i:Nat) (h:i<l.length) (t:τ),f (mk i t)=some (sel (step i l[i] t) (fun t'=>.inl (mk (i+1) t')) (fun r=>.inr r)))
  (he:∀ t,f (mk l.length t)=some (.inr (e t))) (t:τ) (hs0:s=mk 0 t):Yaj f s=some (Ybg step e 0 l t):=by
 rw[hs0,Ygi l mk step e hs he l.length 0 t (by omega)];rfl
theorem Yix (l:List α) (mk:Nat→τ→σ) (step:Nat→α→τ→τ⊕ρ) (e:τ→ρ) (I:Nat→τ→Prop)
  (hs:∀ (i:Nat) (h:i<l.length) (t:τ),I i t→f (mk i t)=some (sel (step i l[i] t) (fun t'=>.inl (mk (i+1) t')) (fun r=>.inr r)))
  (hI:∀ (i:Nat) (h:i<l.length) (t t':τ),I i t→step i l[i] t=.inl t'→I (i+1) t')
  (he:∀ t,I l.length t→f (mk l.length t)=some (.inr (e t))):∀ (k i:Nat) (t:τ),i+k=l.length→I i t→Yaj f (mk i t)=some (Ybg step e i (l.drop i) t)
 |0,i,t,hi,h0=>by
  have:i=l.length:=by omega
  subst this
  rw[Yap (he t h0)];simp[Ybg]
 |k+1,i,t,hi,h0=>by
  have hlt:i<l.length:=by omega
  rw[kZ hlt,Ybg];have:=hs i hlt t h0
  cases hst:step i l[i] t with
  |inl t'=>rw[hst] at this;rw[Ybe this,Yix l mk step e I hs hI he k (i+1) t' (by omega) (hI i hlt t t' h0 hst)];rfl
  |inr r=>rw[hst] at this;rw[Yap this];rfl
theorem Ymm (l:List α) (mk:Nat→τ→σ) (step:Nat→α→τ→τ⊕ρ) (e:τ→ρ) (I:Nat→τ→Prop)
  (hs:∀ (i:Nat) (h:i<l.length) (t:τ),I i t→f (mk i t)=some (sel (step i l[i] t) (fun t'=>.inl (mk (i+1) t')) (fun r=>.inr r)))
  (hI:∀ (i:Nat) (h:i<l.length) (t t':τ),I i t→step i l[i] t=.inl t'→I (i+1) t')
  (he:∀ t,I l.length t→f (mk l.length t)=some (.inr (e t))) (t:τ) (h0:I 0 t) (hs0:s=mk 0 t):Yaj f s=some (Ybg step e 0 l t):=by
 rw[hs0,Yix l mk step e I hs hI he l.length 0 t (by omega) h0];rfl
theorem Ykl (p:α→Bool) (r e:ρ):∀ (l:List α) (i:Nat),Ybg (τ:=Unit) (fun _ x _=>cond (p x) (.inr r) (.inl ())) (fun _=>e) i l ()=cond (l.any p) r e
 |[],i=>rfl
 |x::l,i=>by
  simp only[Ybg,List.any_cons];cases h:p x
  ·simp only[cond_false,sel,Bool.false_or];exact Ykl p r e l (i+1)
  ·rfl
def Ygk {α:Type} (c:α→Int):List α→Int
 |[]=>0
 |x::l=>cond (c x != 0) (c x) (Ygk c l)
theorem Yql (g:α→β) (e:List β→ρ):∀ (l:List α) (i:Nat) (t:List β),Ybg (fun _ x t=>.inl (t++[g x])) e i l t=e (t++l.map g)
 |[],i,t=>by simp[Ybg]
 |x::l,i,t=>by simp only[Ybg,sel,Yql g e l (i+1),jS,kO,List.singleton_append]
theorem Yh6 (g:τ→α→τ) (e:τ→ρ):∀ (l:List α) (i:Nat) (t:τ),Ybg (fun _ x t=>.inl (g t x)) e i l t=e (l.foldl g t)
 |[],i,t=>rfl
 |x::l,i,t=>by simp only[Ybg,sel,Yh6 g e l (i+1),kI]
theorem Yuw {α:Type} (b:Bool) (x y:α):some (cond b x y)=cond b (some x) (some y):=by cases b<;>rfl
theorem getD_lt {α:Type} {l:List α} {i:Nat} (d:α) (h:i<l.length):l.getD i d=l[i]:=by simp[List.getD,h]
theorem toNat_cast (i:Nat):((i:Int)).toNat=i:=kY i
theorem Yv9 {i n:Nat} (h:i<n):inB (i:Int) n=true:=Yt7 (by omega) (by omega)
theorem Yv0 {α:Type} (x y:α):cond true x y=x:=rfl
theorem Yvy {α:Type} (x y:α):cond false x y=y:=rfl
theorem Yut {α:Type} (b:Bool) (x:α):cond b x x=x:=by cases b<;>rfl
theorem Yvp (a:α) (f:α→γ) (g:β→γ):sel (.inl a) f g=f a:=rfl
theorem Yv1 (a:β) (f:α→γ) (g:β→γ):sel (.inr a) f g=g a:=rfl
theorem Yub {α:Type} (l:List α) {f:Int→Option (Int⊕(Int⊕Unit))} (c:α→Int)
  (hs:∀ (i:Nat) (h:i<l.length),f (i:Int)=cond (c l[i] != 0) (some (.inr (.inl (c l[i])))) (some (.inl ((i+1:Nat):Int)))) (he:f (l.length:Int)=some (.inr (.inr ()))) :
  Yaj f 0=some (cond (Ygk c l != 0) (.inl (Ygk c l)) (.inr ())):=by
 have h:=Yi0 (τ:=Unit) l (fun i _=>(i:Int)) (fun _ x _=>cond (c x != 0) (.inr (.inl (c x))) (.inl ())) (fun _=>(.inr ():Int⊕Unit)) (fun i hi t=>by rw[hs i hi];cases (c l[i] != 0)<;>rfl) (fun t=>he) () (s:=0) rfl
 rw[h]
 congr 1
 clear h hs he
 have:∀ (l:List α) (i:Nat),Ybg (τ:=Unit) (fun _ x _=>cond (c x != 0) (.inr (.inl (c x))) (.inl ())) (fun _=>(.inr ():Int⊕Unit)) i l ()=cond (Ygk c l != 0) (.inl (Ygk c l)) (.inr ()):=by
  intro l
  induction l with
  |nil=>intro i;rfl
  |cons x l ih=>
   intro i;simp only[Ybg,Ygk];cases h:(c x != 0)
   ·simp only[cond_false,sel];exact ih (i+1)
   ·simp only[cond_true,sel,h]
 exact this l 0
theorem Yu1 {α ρ:Type} (l:List α) {f:Int→Option (Int⊕(ρ⊕Unit))} (p:α→Bool) (r:ρ)
  (hs:∀ (i:Nat) (h:i<l.length),f (i:Int)=cond (p l[i]) (some (.inr (.inl r))) (some (.inl ((i+1:Nat):Int)))) (he:f (l.length:Int)=some (.inr (.inr ()))) :
  Yaj f 0=some (cond (l.any p) (.inl r) (.inr ())):=by
 have h:=Yi0 (τ:=Unit) l (fun i _=>(i:Int)) (fun _ x _=>cond (p x) (.inr (.inl r)) (.inl ())) (fun _=>(.inr ():ρ⊕Unit)) (fun i hi t=>by rw[hs i hi];cases (p l[i])<;>rfl) (fun t=>he) () (s:=0) rfl
 rw[h,Ykl]
def Yoh {α:Type} (p:α→Bool):Nat→List α→Option Nat
 |_,[]=>none
 |i,x::l=>cond (p x) (some i) (Yoh p (i+1) l)
theorem Yve {α:Type} (l:List α) {f:Int→Option (Int⊕(Int⊕Unit))} (p:α→Bool)
  (hs:∀ (i:Nat) (h:i<l.length),f (i:Int)=cond (p l[i]) (some (.inr (.inl (i:Int)))) (some (.inl ((i+1:Nat):Int)))) (he:f (l.length:Int)=some (.inr (.inr ()))) (n:Nat) (hn:n≤l.length) :
  Yaj f (n:Int)=some (match Yoh p n (l.drop n) with | some j=>.inl (j:Int) | none=>.inr ()):=by
 have h:=Ygi (τ:=Unit) l (fun i _=>(i:Int)) (fun i x _=>cond (p x) (.inr (.inl (i:Int))) (.inl ())) (fun _=>(.inr ():Int⊕Unit)) (fun i hi t=>by rw[hs i hi];cases (p l[i])<;>rfl) (fun t=>he) (l.length-n) n () (by omega)
 rw[h]
 congr 1
 clear h hs he
 have:∀ (l:List α) (i:Nat),Ybg (τ:=Unit) (fun i x _=>cond (p x) (.inr (.inl (i:Int))) (.inl ())) (fun _=>(.inr ():Int⊕Unit)) i l ()=(match Yoh p i l with | some j=>.inl (j:Int) | none=>.inr ()):=by
  intro l
  induction l with
  |nil=>intro i;rfl
  |cons x l ih=>
   intro i;simp only[Ybg,Yoh];cases h:(p x)
   ·simp only[cond_false,sel];exact ih (i+1)
   ·simp only[cond_true,sel]
 exact this _ _
theorem Yp9:∀ {l:List α} {i:Nat},Yoh p i l=none↔l.any p=false
 |[],i=>by simp[Yoh]
 |x::l,i=>by
  simp only[Yoh,List.any_cons];cases p x
  ·simp only[cond_false,Bool.false_or];exact Yp9
  ·simp
theorem Yoo {α τ ρ:Type} (l:List α) {f:Int×τ→Option ((Int×τ)⊕ρ)} (g:τ→α→τ) (e:τ→ρ) (I:Nat→τ→Prop)
  (hs:∀ (i:Nat) (h:i<l.length) (t:τ),I i t→f ((i:Int),t)=some (.inl (((i+1:Nat):Int),g t l[i]))∧I (i+1) (g t l[i])) (he:∀ t,I l.length t→f ((l.length:Int),t)=some (.inr (e t))) (t:τ) (h0:I 0 t) :
  Yaj f (0,t)=some (e (l.foldl g t)):=by
 have h:=Ymm (τ:=τ) l (fun i t=>((i:Int),t)) (fun _ x t=>.inl (g t x)) e I (fun i hi t h=>by rw[(hs i hi t h).1];rfl) (fun i hi t t' h e=>by cases e;exact(hs i hi t h).2) he t h0 (s:=(0,t)) rfl
 rw[h,Yh6]
theorem foldl_map {α β:Type} (g:α→β):∀ (l:List α) (t:List β),l.foldl (fun t x=>t++[g x]) t=t++l.map g
 |[],t=>by simp
 |x::l,t=>by simp[foldl_map g l]
theorem Yuv {α β ρ:Type} (l:List α) {f:Int×List β→Option ((Int×List β)⊕ρ)} (g:α→β) (e:List β→ρ) (n:Nat)
  (hs:∀ (i:Nat) (h:i<l.length) (t:List β),t.length=n+i→f ((i:Int),t)=some (.inl (((i+1:Nat):Int),t++[g l[i]]))) (he:∀ t,t.length=n+l.length→f ((l.length:Int),t)=some (.inr (e t))) (t:List β) (ht:t.length=n) :
  Yaj f (0,t)=some (e (t++l.map g)):=by
 rw[Yoo l (fun t x=>t++[g x]) e (fun i t=>t.length=n+i) (fun i hi t h=>⟨hs i hi t h,by simp[h];omega⟩) (fun t h=>he t h) t (by omega),foldl_map]
theorem Yvz {α β:Type} {x:Option α} {f:α→Option β} (h:∃ r,x=some r) (hf:∀ r,∃ q,f r=some q):∃ q,x.bind f=some q:=by
 obtain⟨r,rfl⟩:=h;exact hf r
theorem Yvx {α:Type} {b:Bool} {x y:Option α} (hx:∃ q,x=some q) (hy:∃ q,y=some q):∃ q,cond b x y=some q:=by
 cases b<;>assumption
theorem Yva {α β:Type} {b:Bool} {x y:Option (α⊕β)} {P:α→Prop} (hx:(∃ q,x=some (.inl q)∧P q)∨∃ q,x=some (.inr q)) (hy:(∃ q,y=some (.inl q)∧P q)∨∃ q,y=some (.inr q)) :
  (∃ q,cond b x y=some (.inl q)∧P q)∨∃ q,cond b x y=some (.inr q):=by
 cases b<;>assumption
theorem Ysg {σ ρ τ:Type} {f:σ→Option (σ⊕ρ)} (mk:Nat→τ→σ) (n:Nat)
  (h:∀ i k,i<n→(∃ s,f (mk i k)=some (.inl s)∧∃ k',s=mk (i+1) k')∨∃ r,f (mk i k)=some (.inr r)) (he:∀ k,∃ r,f (mk n k)=some (.inr r)) :
  ∀ (m i:Nat) (k:τ),i+m=n→∃ r,Yaj f (mk i k)=some r
 |0,i,k,hi=>by
  have:i=n:=by omega
  subst this;obtain⟨r,hr⟩:=he k
  exact⟨r,Yap hr⟩
 |m+1,i,k,hi=>by
  rcases h i k (by omega) with ⟨s,hs,k',rfl⟩ | ⟨r,hr⟩
  ·rw[Ybe hs];exact Ysg mk n h he m (i+1) k' (by omega)
  ·exact⟨r,Yap hr⟩
theorem Ypf (a:List α) (B:Int×List α→Option ((Int×List α)⊕List α))
  (hs:∀ (i:Nat) (h:i<a.length) (out:List α),out.length=a.length→B ((i:Int),out)=some (.inl (((i+1:Nat):Int),out.set i a[i])))
  (he:∀ out:List α,out.length=a.length→B ((a.length:Int),out)=some (.inr out)) :
  ∀ (k i:Nat) (out:List α),i+k=a.length→out.length=a.length→(∀ j:Nat,j<i→out[j]? = a[j]?)→Yaj B ((i:Int),out)=some a
 |0,i,out,h1,h2,h3=>by
  have e:out=a:=List.ext_getElem? (fun j=>by
   by_cases hj:j<i
   ·exact h3 j hj
   ·rw[List.getElem?_eq_none (by omega),List.getElem?_eq_none (by omega)])
  have:i=a.length:=by omega
  subst this
  rw[Yap (he out h2),e]
 |k+1,i,out,h1,h2,h3=>by
  have hi:i<a.length:=by omega
  rw[Ybe (hs i hi out h2)]
  refine Ypf a B hs he k (i+1) _ (by omega) (by simp[h2]) (fun j hj=>?_)
  by_cases e:j=i
  ·subst e
   rw[List.getElem?_set_self (by omega),kV hi]
  ·rw[List.getElem?_set_ne (fun x=>e x.symm)]
   exact h3 j (by omega)
theorem Yu3 (a:List α) (B:Int×List α→Option ((Int×List α)⊕List α)) (z:α)
  (hs:∀ (i:Nat) (h:i<a.length) (out:List α),out.length=a.length→B ((i:Int),out)=some (.inl (((i+1:Nat):Int),out.set i a[i])))
  (he:∀ out:List α,out.length=a.length→B ((a.length:Int),out)=some (.inr out)):Yaj B (0,List.replicate (a.length:Int).toNat z)=some a:=by
 have:=Ypf a B hs he a.length 0 (List.replicate (a.length:Int).toNat z) (by omega) (by simp) (fun j hj=>by omega)
 simpa using this
theorem Ypd (B:Int→Option (Int⊕(Bool⊕Unit))) (hs:∀ i:Nat,i<n→B (i:Int)=some (.inl ((i+1:Nat):Int))) (he:B (n:Int)=some (.inr (.inr ()))) :
  ∀ (k i:Nat),i+k=n→Yaj B (i:Int)=some (.inr ())
 |0,i,h=>by
  have:i=n:=by omega
  subst this;exact Yap he
 |k+1,i,h=>by rw[Ybe (hs i (by omega))];exact Ypd B hs he k (i+1) (by omega)
theorem Yvi (B:Int→Option (Int⊕(Bool⊕Unit))) (hs:∀ i:Nat,i<n→B (i:Int)=some (.inl ((i+1:Nat):Int))) (he:B (n:Int)=some (.inr (.inr ()))):Yaj B 0=some (.inr ()):=Ypd B hs he n 0 (by omega)
def MH {α:Type} (M:α→Int→Option (Int×α)) (H:α→Int→Option Int) (w:Nat) (a:α) (k:Int):Prop:=
 ∃ k' a',k≤k'∧k'≤k+w∧M a k=some (k',a')∧H a' k=some k'
theorem Yjr (w:α→Nat) (N:Int) (MB:Int×Int×List α→Option ((Int×Int×List α)⊕(Int×List α))) (HB:List α→Int×Int→Option ((Int×Int)⊕(Int⊕Int)))
  (he:∀ (k:Int) (a:List α),MB (k,(a.length:Int),a)=some (.inr (k,a))) (heH:∀ (k:Int) (a:List α),HB a (k,(a.length:Int))=some (.inr (.inr k)))
  (hs:∀ (k:Int) (i:Nat) (a:List α) (h:i<a.length),a.length≤2147483648→0≤k→k+w a[i]≤N→w a[i]≤2147483648→
   ∃ k' x',k≤k'∧k'≤k+w a[i]∧MB (k,(i:Int),a)=some (.inl (k',((i+1:Nat):Int),a.set i x'))∧
    ∀ b:List α,b.length=a.length→b[i]? = some x'→HB b (k,(i:Int))=some (.inl (k',((i+1:Nat):Int)))) :
  ∀ (n i:Nat) (k:Int) (a:List α),i+n=a.length→a.length≤2147483648→0≤k→k+((a.drop i).map w).sum≤N→((a.drop i).map w).sum≤2147483648→
   ∃ k' a',k≤k'∧k'≤k+((a.drop i).map w).sum∧a'.length=a.length∧Yaj MB (k,(i:Int),a)=some (k',a')∧(∀ j:Nat,j<i→a'[j]? = a[j]?)∧
    ∀ b:List α,b.length=a.length→(∀ j:Nat,i≤j→b[j]? = a'[j]?)→Yaj (HB b) (k,(i:Int))=some (.inr k')
 |0,i,k,a,h1,hl,h2,h3,h4=>by
  have:i=a.length:=by omega
  subst this
  refine⟨k,a,by omega,by omega,rfl,Yap (he k a),fun _ _=>rfl,fun b hb _=>?_⟩
  rw[←hb];exact Yap (heH k b)
 |n+1,i,k,a,h1,hl,h2,h3,h4=>by
  have hi:i<a.length:=by omega
  rw[kZ hi,jS,List.sum_cons] at h3 h4
  obtain⟨k1,x1,e1,e2,e3,e4⟩:=hs k i a hi hl h2 (by omega) (by omega)
  have hd:(a.set i x1).drop (i+1)=a.drop (i+1):=by rw[List.drop_set_of_lt (by omega)]
  obtain⟨k',a',f1,f2,f3,f4,f5,f6⟩:=Yjr w N MB HB he heH hs n (i+1) k1 (a.set i x1) (by simp;omega) (by simpa using hl) (by omega) (by rw[hd];omega) (by rw[hd];omega)
  rw[hd] at f2;rw[kC] at f3
  refine⟨k',a',by omega,?_,f3,by rw[Ybe e3];exact f4,fun j hj=>?_,fun b hb h=>?_⟩
  ·rw[kZ hi,jS,List.sum_cons];omega
  ·rw[f5 j (by omega),List.getElem?_set_ne (by omega)]
  ·have hx:b[i]? = some x1:=by rw[h i (jB _),f5 i (by omega),List.getElem?_set_self hi]
   rw[Ybe (e4 b hb hx)]
   exact f6 b (by rw[kC];exact hb) (fun j hj=>h j (by omega))
theorem Yt8 (w:α→Nat) (N:Int) (MB:Int×Int×List α→Option ((Int×Int×List α)⊕(Int×List α))) (HB:List α→Int×Int→Option ((Int×Int)⊕(Int⊕Int)))
  (he:∀ (k:Int) (a:List α),MB (k,(a.length:Int),a)=some (.inr (k,a))) (heH:∀ (k:Int) (a:List α),HB a (k,(a.length:Int))=some (.inr (.inr k)))
  (hs:∀ (k:Int) (i:Nat) (a:List α) (h:i<a.length),a.length≤2147483648→0≤k→k+w a[i]≤N→w a[i]≤2147483648→
   ∃ k' x',k≤k'∧k'≤k+w a[i]∧MB (k,(i:Int),a)=some (.inl (k',((i+1:Nat):Int),a.set i x'))∧
    ∀ b:List α,b.length=a.length→b[i]? = some x'→HB b (k,(i:Int))=some (.inl (k',((i+1:Nat):Int))))
  (k:Int) (a:List α) (hl:a.length≤2147483648) (h0:0≤k) (hw:k+(a.map w).sum≤N) (hz:(a.map w).sum≤2147483648) :
   ∃ k' a',k≤k'∧k'≤k+(a.map w).sum∧Yaj MB (k,0,a)=some (k',a')∧Yaj (HB a') (k,0)=some (.inr k'):=by
 obtain⟨k',a',e1,e2,e3,e4,_,e6⟩:=Yjr w N MB HB he heH hs a.length 0 k a (by omega) hl h0 (by simpa using hw) (by simpa using hz)
 exact⟨k',a',e1,by simpa using e2,e4,e6 a' e3 fun _ _=>rfl⟩
theorem Ylz {α:Type} (w:α→Nat) (h:∀ x,1≤w x):∀ xs:List α,xs.length≤(xs.map w).sum
 |[]=>jB _
 |x::xs=>by have:=Ylz w h xs;have:=h x;simp only[jS,List.sum_cons,jH];omega
theorem Ys0 {α:Type} (w:α→Nat):∀ (xs:List α) (i:Nat) (h:i<xs.length),w xs[i]≤(xs.map w).sum
 |[],i,h=>absurd h (Nat.not_lt_zero _)
 |x::xs,0,h=>by simp
 |x::xs,i+1,h=>by
  have:=Ys0 w xs i (by simpa using h)
  simp only[List.getElem_cons_succ,jS,List.sum_cons];omega
theorem Yvs {α:Type} {b:List α} {i:Nat} {x:α} (d:α) (h:b[i]? = some x):b.getD i d=x:=by simp[List.getD,h]
theorem Yvb {α:Type} {l:List α} {i:Nat} (x d:α) (h:i<l.length):(l.set i x).getD i d=x:=by simp[List.getD,h]
theorem Ywk (h1:0≤x) (h2:x≤9223372036854775807):w64 x=x:=Yr5 (by omega) h2
theorem Yvm {α β γ:Type} {x:Option α} {f:α→Option (β⊕γ)} {P:β→Prop} (h:∃ r,x=some r) (hf:∀ r,(∃ q,f r=some (.inl q)∧P q)∨∃ q,f r=some (.inr q)) :
  (∃ q,x.bind f=some (.inl q)∧P q)∨∃ q,x.bind f=some (.inr q):=by
 obtain⟨r,rfl⟩:=h;exact hf r
def MK {α:Type} (M:α→Int→Option (Int×α)) (w:Nat) (a:α) (k:Int):Prop:=∃ k' a',k≤k'∧k'≤k+w∧M a k=some (k',a')
theorem MH.mk {α:Type} {M:α→Int→Option (Int×α)} {H:α→Int→Option Int} {w:Nat} {a:α} {k:Int} (h:MH M H w a k):MK M w a k:=by
 obtain⟨k',a',h1,h2,h3,_⟩:=h;exact⟨k',a',h1,h2,h3⟩
theorem Yvw {α:Type} (x:α):∃ q,some x=some q:=⟨x,rfl⟩
theorem Ywa {σ ρ:Type} {P:σ→Prop} (r:ρ):(∃ s,some (Sum.inr r:σ⊕ρ)=some (.inl s)∧P s)∨∃ q,some (Sum.inr r:σ⊕ρ)=some (.inr q):=.inr ⟨_,rfl⟩
theorem Ywj {α β:Type} (p:α×β):(p.1,p.2)=p:=rfl
theorem Yrd (e:Ty) (xs:List e.El):wt (.sl e) xs=(xs.map (wt e)).sum+1:=rfl
theorem Ykt (a b:Ty) (x:a.El×b.El):wt (.pair a b) x=wt a x.1+wt b x.2:=rfl
theorem Yt2 (k:IntKind) (x:Int):wt (.int k) x=1:=rfl
theorem Yof (x:List UInt8):wt .str x=x.length+1:=rfl
theorem Ys1 (x:Unit):wt .unit x=0:=rfl
theorem wA:(∀ (e:Ty) (x:List e.El),wt (.sl e) x=(x.map (wt e)).sum+1)∧(∀ (a b:Ty) (x:a.El×b.El),wt (.pair a b) x=wt a x.1+wt b x.2)∧(∀ (k:IntKind) (x:Int),wt (.int k) x=1)∧(∀ x:Bool,wt .bool x=1)∧(∀ x:List UInt8,wt .str x=x.length+1)∧∀ x:Unit,wt .unit x=0:=
 ⟨Yrd,Ykt,Yt2,fun _=>rfl,Yof,Ys1⟩
theorem Yvv {k:Int} (h:0≤k):decide (k<0)=false:=by simp;omega
theorem Yu2 (x:Int):(x != x)=false:=by simp
theorem Yux (x:List UInt8):(x == x)=true:=by simp
theorem Yuu (x:Bool):(x == x)=true:=by simp
def Bd:(t:Ty)→t.El→Prop
 |.int _,_ | .bool,_ | .unit,_=>True
 |.str,x=>(x:List UInt8).length≤2147483648
 |.pair a b,x=>Bd a x.1∧Bd b x.2
 |.sl e,xs=>(xs:List e.El).length≤2147483648∧∀ x∈(xs:List e.El),Bd e x
 |.arr _ e,xs=>(xs:List e.El).length≤2147483648∧∀ x∈(xs:List e.El),Bd e x
def Ypu:Ty→Bool
 |.int _ | .bool | .str | .sl _=>true
 |.unit | .arr _ _=>false
 |.pair a b=>Ypu a || Ypu b
def okT:Ty→Bool
 |.int _ | .bool | .str | .unit=>true
 |.sl e=>Ypu e&&okT e
 |.arr _ e=>Ypu e&&okT e
 |.pair a b=>okT a&&okT b
theorem Yls:∀ {t:Ty},Ypu t=true→∀ x:t.El,1≤wt t x
 |.int _,_,x | .bool,_,x=>jB 1
 |.str,_,x=>by simp only[Yof];omega
 |.sl e,_,x=>by simp only[Yrd];omega
 |.unit,h,x | .arr _ _,h,x=>by cases h
 |.pair a b,h,x=>by
  simp only[Ypu,Bool.or_eq_true] at h;simp only[Ykt];rcases h with h | h
  ·have:=Yls h x.1;omega
  ·have:=Yls h x.2;omega
theorem Yjf {α:Type} (w:α→Nat) {x:α}:∀ {xs:List α},x∈xs→w x≤(xs.map w).sum
 |y::xs,h=>by
  simp only[jS,List.sum_cons];rcases List.mem_cons.1 h with rfl | h
  ·omega
  ·have:=Yjf w h;omega
theorem Yo5:∀ {t:Ty},okT t=true→∀ {x:t.El},wt t x≤2147483648→Bd t x
 |.int _,_,x,_ | .bool,_,x,_ | .unit,_,x,_=>trivial
 |.str,_,x,h=>by rw[Yof] at h;show x.length≤_;omega
 |.pair a b,ht,x,h=>by
  simp only[okT,jC] at ht;simp only[Ykt] at h
  exact⟨Yo5 ht.1 (by omega),Yo5 ht.2 (by omega)⟩
 |.sl e,ht,xs,h=>by
  simp only[okT,jC] at ht;simp only[Yrd] at h;have:=Ylz (wt e) (Yls ht.1) xs
  exact⟨by omega,fun x hx=>Yo5 ht.2 (by have:=Yjf (wt e) hx;omega)⟩
 |.arr _ e,ht,xs,h=>by
  simp only[okT,jC] at ht;have h:(List.map (wt e) xs).sum≤2147483648:=h;have:=Ylz (wt e) (Yls ht.1) xs
  exact⟨by omega,fun x hx=>Yo5 ht.2 (by have:=Yjf (wt e) hx;omega)⟩
theorem Yth {α:Type} (w:α→Nat) (B:Nat):∀ {xs:List α},(∀ x∈xs,w x≤B)→(xs.map w).sum≤xs.length*B
 |[],h=>by simp
 |y::xs,h=>by
  have:=Yth w B (xs:=xs) fun x hx=>h x (jG _ hx);have:=h y (jF ..);simp only[jS,List.sum_cons,jH,jY];omega
def Ylo {α:Type} (xs:List α):Option (List α):=cond (decide (xs.length≤2147483648)) (some xs) none
def Ytl (xs:List Int):Option (List Int):=cond (decide (xs.length≤2147483648)) (some (xs.mergeSort fun x y=>decide (x≤y))) none
def Yfj (ps:List (Int×List Int×Unit)) (at_:Int):Nat→Option Nat
 |0=>none
 |k+1=>if (ps.getD k (0,[],())).1=at_ then some k else Yfj ps at_ k
def Yk7 (d:List (List Int)×List (Int×List Int×Unit)×Unit) (at_:Int):Option (List Int):=
 cond (decide (d.2.1.length≤2147483648)) (match Yfj d.2.1 at_ d.2.1.length with
  |some j=>some (d.2.1.getD j (0,[],())).2.1
  |none=>cond (inB at_ d.1.length) (some (d.1.getD at_.toNat [])) none) none
def Yfe (l:List (Int×List Int×Unit)):Option (List (Int×List Int×Unit)):=cond (decide (l.length≤2147483648)&&l.all (fun x=>decide (x.2.1.length≤2147483648))) (some l) none
def toStep (p:Int×List Int×Unit):Bool×Int×List Int×Unit:=(false,p.1,p.2.1,())
def Ygh (l:List (Int×List Int×Unit)):Option (List (Bool×Int×List Int×Unit)):=cond (decide (l.length≤1048576)&&l.all (fun x=>decide (x.2.1.length≤2147483648))) (some (l.map toStep)) none
def Yb0 (bs:List (List Int)) (ps:List (Int×List Int×Unit)) (pick:Nat→Bool):Nat→List (List Int)
 |0=>bs
 |k+1=>if pick k=true then(Yb0 bs ps pick k).set (ps.getD k (0,[],())).1.toNat (ps.getD k (0,[],())).2.1 else Yb0 bs ps pick k
def Yk0 (d:(List (List Int)×List (Int×List Int×Unit)×Unit)):Option (List (List Int)×List (Int×List Int×Unit)×Unit):=cond (decide (d.2.1.length≤1152921504606846976)&&d.2.1.all (fun p=>inB p.1 d.1.length)) (some (Yb0 d.1 d.2.1 (fun _=>true) d.2.1.length,[],())) none
section
variable {a:Act}
theorem Yhh (g:o.guard=none):Region.wanted o (yielded ops a.tmps)=true:=by
 unfold Region.wanted;rw[g]
theorem Yoq (h:(execOp a.eval o).run P w=.ok (.value u) w) (hK:K (a.put o.dst u) w):o.wp P a w K Q:=by
 unfold Oper.wp;rw[h];exact hK
theorem Yp5 {id:Nat} {o1 o2:Oper} {t t' et:TypeId} {e:Ty} {xs:List e.El} {d0 d1 d2:Nat}
  (h1:o1.op=.move (.tmp d0)) (e1:o1.dst=some d1) (g1:o1.guard=none)
  (h2:o2.op=.binOp .eql t (.tmp d1) (.const (.slice none 0 0)) t') (e2:o2.dst=some d2) (g2:o2.guard=none)
  (hu:P.underlying t=some (.slice et)) (I:Inv Z S C a w) (hS:Ybd S) (hd1:d1<Z.nt) (hd2:d2<Z.nt) (hx:lk d0 S.tm=some (.cl .sh (.sl e) xs)) {Q:Exit→Act→World→Prop}
  (hQ:∀ a' (b:Bool),(b=true→xs=[])→Inv Z ((S.ap ⟨[(d1,.cl .sh (.sl e) xs)],[],[]⟩).ap ⟨[(d2,.cl .sh .bool b)],[],[]⟩) C a' w→Q .normal a' w) :
  (Code.region id #[o1,o2] false).wp P Q a w:=by
 have hv:Yb w (Mt Z C S.root noB) C.L S.root (.cl .sh (.sl e) xs) (a.tmps.getD d0 undef):=I.tm d0 _ hx;obtain⟨A,c,hval⟩:=hv.sl
 have hA:A=none→xs=[]:=by
  intro hn;obtain⟨A',c',hc,hle,hne⟩:=(hv.1:Rep _ _ (.sl e) .sh xs _ _);rw[hval] at hc;have:some (Value.slice A xs.length c)=some (.slice A' xs.length c'):=hc;cases this
  by_cases hxs:xs=[]
  ·exact hxs
  ·obtain⟨b,off,h,_⟩:=hne hxs;rw[hn] at h;cases h
 refine wp_region ?_;show wpOps P #[o1,o2] Q [0,1] a w;rw[wpOps_cons]
 refine Ygd (o:=o1) rfl (Yhh g1) (Yoq (u:=a.tmps.getD d0 undef) (by simp[execOp,h1,Act.eval]) ?_)
 have I1:Inv Z (S.ap ⟨[(d1,.cl .sh (.sl e) xs)],[],[]⟩) C (a.put o1.dst (a.tmps.getD d0 undef)) w:=by
  rw[e1];exact I.slot (fun i t b x h=>absurd h (hS i t b x)) hd1 (VOk.tm (v:=.cl .sh (.sl e) xs) hv _)
 have hval1:(a.put o1.dst (a.tmps.getD d0 undef)).eval (.tmp d1)=.slice A xs.length c:=by
  have:=I1.tm d1 (.cl .sh (.sl e) xs) (by simp[St.ap,Yv,lk])
  rw[e1,Act.put];simp only[Act.eval];rw[←hval];have hts:=I.ts;simp[Array.getD,hts,hd1]
 generalize hS1:(S.ap ⟨[(d1,.cl .sh (.sl e) xs)],[],[]⟩)=S1 at I1 hQ;generalize ha1:a.put o1.dst (a.tmps.getD d0 undef)=a1 at I1 hval1;rw[wpOps_cons]
 have hS1n:Ybd S1:=by
  rw[←hS1];intro s t b v hv;rw[Yd4] at hv;simp only at hv
  by_cases es:s=d1
  ·subst es;rw[Yk] at hv;cases hv
  ·rw[Yr es] at hv
   simp only[lk] at hv
   cases hl:lk s S.tm with
   |none=>rw[hl] at hv;cases hv
   |some v0=>
    rw[hl] at hv;simp only[jT,jD] at hv;obtain⟨u',rfl⟩:=Ygj hv;exact hS s t b u' hl
 refine Ygd (o:=o2) rfl (Yhh g2) (Yoq (u:=.bool A.isNone) ?_ ?_)
 ·have hq:=Lib.run_eql_slice_nil (P:=P) w t et A xs.length c 0 0 hu
  have hg:(eqGuard .eql t (.tmp d1) (.const (.slice none 0 0)) (.slice A xs.length c) (.slice none 0 0)).run P w=.ok () w:=by unfold eqGuard;rfl
  have hc:a1.eval (.const (.slice none 0 0))=.slice none 0 0:=rfl;simp only[execOp,h2,hval1,hc,Sem.run_bind,hg,Result.andThen_ok,hq];rfl
 ·show Q .normal _ w
  refine hQ _ A.isNone (fun h=>hA (by simpa using h)) ?_
  rw[e2];exact I1.slot (fun i t b x h=>absurd h (hS1n i t b x)) hd2 (VOk.tm (v:=.cl .sh .bool A.isNone) (Yb.Ybq _ _) _)
end
section
variable {a:Act}
variable {L:Lam} {hn:Hint}
def Yb9 (e:Ty):SP:=⟨[(0,.cl .sh (.sl e))],[]⟩
def Ycr (o:Ow) (e:Ty) (xs:List e.El):St:=⟨[(2,.seg 2 [])],[(2,some ⟨.reg,.cl o (.sl e) xs⟩)]⟩
def Ykx (o:Ow) (e:Ty) (xs:List e.El):St:=⟨[(2,.seg 2 []),(0,.cl .sh (.sl e) xs)],[(2,some ⟨.reg,.cl o (.sl e) []⟩)]⟩
def Yc0 (o:Ow) (e:Ty) (xs:List e.El) (b:Bool):St:=(((Ykx o e xs).ap ⟨[(3,.cl .sh (.sl e) xs)],[],[]⟩).ap ⟨[(4,.cl .sh .bool b)],[],[]⟩).is 4 b
def Yln (o:Ow) (e:Ty) (x:(Yb9 e).El) (R:Type) (k:Ex→St→Option R):Option R:=cond (decide (x.1.1.length≤2147483648)) (k .rt (Ycr o e x.1.1)) none
theorem Yoa (ht:Yag P tb) (hG:GOk P G) (hm:P.follows .mixedOrders=true)
  (h1:o1.op=.move (.tmp 0)) (e1:o1.dst=some 3) (g1:o1.guard=none)
  (h2:o2.op=.binOp .eql t (.tmp 3) (.const (.slice none 0 0)) t') (e2:o2.dst=some 4) (g2:o2.guard=none) (hu:P.underlying t=some (.slice et))
  (E0:∀ xs:List e.El,ev tb hn 8 1 G (mkL []) R0 .no ⟨[(0,.cl .sh (.sl e) xs)],[]⟩ (fun e S=>some (e,S))=some (.nm,Ykx o e xs))
  (E2:∀ xs:List e.El,ev tb hn 8 1 G (mkL []) R2 .no (Yc0 o e xs true) (fun e S=>some (e,S.keep [2] [2]))=some (.rt,Ycr o e []))
  (E3:∀ xs:List e.El,ev tb hn 8 1 G (mkL []) R3 .no (Yc0 o e xs false) (fun e S=>some (e,S.keep [2] [2]))=cond (decide (xs.length≤2147483648)) (some (.rt,Ycr o e xs)) none) :
  Ya9 P 8 1 (R0.seq (((Code.region i1 #[o1,o2] false).seq (.cond (.tmp 4) R2 .skip)).seq R3)) (Yfd (Yb9 e) (Yln o e)):=by
 intro S R k r hS he;unfold Yfd at he
 split at he
 ·rename_i x hx
  simp only[Yln] at he
  cases hl:decide (x.1.1.length≤2147483648) with
  |false=>rw[hl] at he;cases he
  |true=>
   rw[hl] at he;have hkeep:=SP.Yo4 (sp:=Yb9 e) rfl hx
   have hret:Ybd (Ycr o e x.1.1):=by
    intro s t b v hv;simp only[Ycr,lk] at hv
    split at hv<;>cases hv
   refine⟨.rt,_,he,hret,fun Z C a w Q hnt hnp I hQ=>?_⟩;have I0:=I.keep (Yb9 e).tk (Yb9 e).rk;rw[←hkeep] at I0
   have hN0:Ybd ((Yb9 e).mk' x):=by rw[hkeep];exact hS.keep _ _
   obtain⟨ex,S',q1,q2,q3⟩:=Ydg (np:=1) (nt:=8) (hn:=hn) (L:=mkL []) ht hG hm R0 .no trivial ((Yb9 e).mk' x) _ _ _ hN0 (E0 x.1.1);cases q1;refine wp_seq (q3 Z C a w _ hnt hnp I0 (fun C a w I1=>?_))
   refine wp_seq (wp_seq (Yp5 h1 e1 g1 h2 e2 g2 hu I1 q2 (by omega) (by omega) (xs:=x.1.1) rfl (fun a' b hb I2=>?_)))
   have hb4:a'.tmps.getD 4 undef=.bool b:=(I2.tm 4 (.cl .sh .bool b) rfl:Yb _ _ _ _ _ _).bool;have I3:=I2.is hb4
   have hN3:Ybd (Yc0 o e x.1.1 b):=by
    have:(Yc0 o e x.1.1 b).tm=[(4,.kb b),(4,.cl .sh .bool b),(3,.cl .sh (.sl e) x.1.1),(2,.seg 2 []),(0,.cl .sh (.sl e) x.1.1)]:=rfl;intro s t b' v hv;rw[this] at hv;simp only[lk_consU] at hv
    repeat' (split at hv)
    all_goals cases hv
   cases b with
   |true=>
    have hx0:=hb rfl;obtain⟨ex,S',q1,q2,q3⟩:=Ydg (np:=1) (nt:=8) (hn:=hn) (L:=mkL []) ht hG hm R2 .no trivial (Yc0 o e x.1.1 true) _ _ _ hN3 (E2 x.1.1);simp only[jD,jV] at q1;obtain⟨rfl,hk⟩:=q1;refine wp_cond_true hb4 (q3 Z C a' w _ hnt hnp I3 (fun C a w I4=>?_));have I5:=I4.keep [2] [2];rw[hk] at I5;refine hQ C a w ?_
    rw[hx0];exact I5
   |false=>
    have hE:=E3 x.1.1;rw[hl] at hE;obtain⟨ex,S',q1,q2,q3⟩:=Ydg (np:=1) (nt:=8) (hn:=hn) (L:=mkL []) ht hG hm R3 .no trivial (Yc0 o e x.1.1 false) _ _ _ hN3 hE;simp only[jD,jV] at q1;obtain⟨rfl,hk⟩:=q1;refine wp_cond_false hb4 (wp_skip ?_);refine q3 Z C a' w _ hnt hnp I3 (fun C a w I4=>?_);have I5:=I4.keep [2] [2];rw[hk] at I5;exact hQ C a w I5
 ·cases he
def opAt (c:Code) (i:Nat):Oper:=match c with
 |.region _ ops _=>ops.toList.getD i {dst:=none,op:=.move (.tmp 0),type:=0,pos:="",after:=#[],guard:=none }
 |_=>{dst:=none,op:=.move (.tmp 0),type:=0,pos:="",after:=#[],guard:=none }
def Yv5 (c:Code):Nat:=match c with
 |.region i _ _=>i
 |_=>0
theorem Yvn (ht:Yag P tb) (hm:P.follows .mixedOrders=true) (hf:P.funcs[f]? = some fn) (hb:fn.body=some (Yai fn)) (hname:(fn.name == "runtime.NumGoroutine")=false) (hnt:fn.ntmps=8) (o:Ow) (e:Ty) (t t' et:TypeId)
  (hbody:Yai fn=(Yao (Yai fn) [0]).seq (((Code.region (Yv5 (Yao (Yai fn) [1,0,0])) #[opAt (Yao (Yai fn) [1,0,0]) 0,opAt (Yao (Yai fn) [1,0,0]) 1] false).seq (.cond (.tmp 4) (Yao (Yai fn) [1,0,1,0]) .skip)).seq (Yao (Yai fn) [1,1])))
  (h1:(opAt (Yao (Yai fn) [1,0,0]) 0).op=.move (.tmp 0)) (e1:(opAt (Yao (Yai fn) [1,0,0]) 0).dst=some 3) (g1:(opAt (Yao (Yai fn) [1,0,0]) 0).guard=none)
  (h2:(opAt (Yao (Yai fn) [1,0,0]) 1).op=.binOp .eql t (.tmp 3) (.const (.slice none 0 0)) t') (e2:(opAt (Yao (Yai fn) [1,0,0]) 1).dst=some 4) (g2:(opAt (Yao (Yai fn) [1,0,0]) 1).guard=none) (hu:P.underlying t=some (.slice et))
  (E0:∀ xs:List e.El,ev tb hn 8 1 (mkG []) (mkL []) (Yao (Yai fn) [0]) .no ⟨[(0,.cl .sh (.sl e) xs)],[]⟩ (fun e S=>some (e,S))=some (.nm,Ykx o e xs))
  (E2:∀ xs:List e.El,ev tb hn 8 1 (mkG []) (mkL []) (Yao (Yai fn) [1,0,1,0]) .no (Yc0 o e xs true) (fun e S=>some (e,S.keep [2] [2]))=some (.rt,Ycr o e []))
  (E3:∀ xs:List e.El,ev tb hn 8 1 (mkG []) (mkL []) (Yao (Yai fn) [1,1]) .no (Yc0 o e xs false) (fun e S=>some (e,S.keep [2] [2]))=cond (decide (xs.length≤2147483648)) (some (.rt,Ycr o e xs)) none)
  (hfin:∀ x:PT.Els [.cl .sh (.sl e)],Yfd (Yb9 e) (Yln o e) (Yh (PT.mks [.cl .sh (.sl e)] x)) Out (Ysz tb hn fn [.sh])=cond (decide (x.1.length≤2147483648)) (some ⟨[.cl o (.sl e) x.1],[]⟩) none) :
  Ycs P f (Ycc [.sh] [.cl .sh (.sl e)] (fun x=>Ylo x.1) fun y=>⟨[.cl o (.sl e) y],[]⟩):=by
 refine Ytr (fn:=fn) (hn:=hn) (E:=Yfd (Yb9 e) (Yln o e)) ht hf hb hname ?_ rfl (by rw[hnt];rfl) fun x=>?_
 ·rw[hnt,hbody];exact Yoa ht GOk.nil hm h1 e1 g1 h2 e2 g2 hu E0 E2 E3
 ·rw[hfin,Ylo,Ymj]
  rfl
end
section
open Go.Sort
variable {a:Act}
theorem Ymg {α:Type} (enc:α→Value) [Inhabited α] (w:World) (b off:Nat) (d:Array α) (b':Nat) (h:b'≠b):Same w (putRow enc w b off d) b':=by
 unfold Same putRow mapBlock;simp only[Array.getElem?_modify];rw[jM (fun e=>h e.symm)]
theorem Yrw {M:Yd} {xs:List Int} {b off:Nat} (hc:∀ i (h:i<xs.length),w.cell? ⟨b,off+i,none⟩=some (.int .i64 xs[i])) (i:Nat) (h:i<xs.length):Rep w M (.int .i64) (Ow.deep.elem) (xs[i]'h) (.mem b (off+i*(Ty.int .i64).size)) noB:=by
 show(Src.mem b (off+i*1)).cell w 0=_;simp only[Src.cell,Nat.mul_one,kF];exact hc i h
theorem Yqj {f:FuncId} (hthere:Ya6 P f)
  (hC:∀ (blk off cap:Nat) (zs:List Int) (w:World),Holds (Value.int .i64) w blk off zs.toArray→blk<w.heap.size→zs.length<4611686018427387904→Calls P f #[.slice (some ⟨blk,off,none⟩) zs.length cap] w fun e w'=>
   e=.returned (.tuple #[])∧∃ n os,w'=grow (putRow (Value.int .i64) (Sort.ahead w n) blk off (zs.mergeSort fun x y=>decide (x≤y)).toArray) os)
  (hN:∀ (p:Option Addr) (cap:Nat) (w:World),Calls P f #[.slice p 0 cap] w fun e w'=>e=.returned (.tuple #[])∧w'=w) (xs:List Int) (hlen:xs.length≤2147483648) :
  Ycf P f [.mu] [.cl .deep (.sl (.int .i64)) xs] ⟨[],[.cl .deep (.sl (.int .i64)) (xs.mergeSort fun x y=>decide (x≤y))]⟩ where
 there:=hthere
 calls:=by
  intro Z C us hl hnt hP1 hP2 I;have hus:us.size=1:=hl;have hR:(Yh [.cl .deep (.sl (.int .i64)) xs]).root 0=some ⟨.reg,.cl .deep (.sl (.int .i64)) xs⟩:=rfl
  have hR':∀ r R,(Yh [.cl .deep (.sl (.int .i64)) xs]).root r=some R→r=0∧R=⟨.reg,.cl .deep (.sl (.int .i64)) xs⟩:=by
   intro r R h
   by_cases e:r=0
   ·subst e;rw[hR] at h;refine And.intro rfl ?_;cases h;rfl
   ·exfalso
    have:(Yh [.cl .deep (.sl (.int .i64)) xs]).root r=none:=by
     rw[Yau,List.getElem?_eq_none (by simp;omega)];rfl
    rw[this] at h;cases h
  obtain⟨cs,hcs⟩:=I.str.reg 0 _ hR rfl;obtain⟨A,c,h1,h2,h3⟩:=(I.str.rep 0 _ hR:Rep Z.w _ (.sl (.int .i64)) .deep xs (C.L 0) (C.F 0))
  have hu:us[0]? = some (.slice A xs.length c):=by
   have ht:Yb _ _ _ _ (.seg 0 []) ((⟨us,[]⟩:Act).tmps.getD 0 undef):=I.tm 0 (.seg 0 []) rfl;obtain⟨u,e1,R,s,o,e,ys,q1,q2,q3,q4,A',n',c',q5⟩:=ht.1;rw[hR] at q1;cases q1;rw[Yf] at q2;cases q2;rw[h1] at q4;cases q4
   have hagg:¬ ∃ cs,us.getD 0 undef=.agg cs:=fun h=>by
    have:=ht.2.2.2 h;cases this
   have hone:=Ybz hagg;simp only[Src.cell,hone] at e1
   have:us.getD 0 undef=.slice A xs.length c:=by simpa using e1
   have h0:0<us.size:=by omega
   simp[Array.getD,h0] at this;rw[Array.getElem?_eq_getElem h0,this]
  have hus2:us=#[.slice A xs.length c]:=by
   apply Array.ext (by simp[hus])
   intro i h4 h5
   have:i=0:=by omega
   subst this;rw[Array.getElem?_eq_getElem h4] at hu
   simpa using hu
  rw[hus2]
  have S0:Str Z (fun _ _=>False) C noB (Yh [.cl .deep (.sl (.int .i64)) xs]).root Z.w:=by
   have hs:=I.str
   refine {hs with rep:=?_ }
   intro r R h;obtain⟨rfl,rfl⟩:=hR' r R h;exact hs.rep 0 _ hR
  have fin:∀ (w':World) (ρ:Yc) (ys:List Int),Str Z (fun _ _=>False) C noB ρ w'→ρ 0=some ⟨.reg,.cl .deep (.sl (.int .i64)) ys⟩→Yi3 Z [.mu] ⟨[],[.cl .deep (.sl (.int .i64)) ys]⟩ (.tuple #[]) w':=by
   intro w' ρ ys hS hρ;exact⟨C,noB,ρ,noB,hS.lf (fun _ _ h=>h.elim),⟨⟨_,hρ,rfl⟩,trivial⟩,fun _ h=>h,rfl,rfl,rfl⟩
  by_cases hx:xs=[]
  ·subst hx
   refine(hN A c Z.w).mono fun e w' ⟨he,hw⟩=>?_;subst he;subst hw
   exact⟨_,rfl,fin _ _ _ S0 (by rw[List.mergeSort_nil];exact hR)⟩
  ·have hpos:0<xs.length:=List.length_pos_iff.2 hx
   obtain⟨b,off,Fs,e1,e2,e3,e4,e5⟩:=h3 (by omega)
   subst e1
   have hcell:∀ i (h:i<xs.length),Z.w.cell? ⟨b,off+i,none⟩=some (.int .i64 xs[i]):=by
    intro i h;have:=(e4 i h).1;have h0:(Src.mem b (off+i*1)).cell Z.w 0=some (.int .i64 xs[i]):=this
    simpa [Src.cell] using h0
   have hH:Holds (Value.int .i64) Z.w b off xs.toArray:=by
    intro j hj
    have hj':j<xs.length:=by simpa using hj
    refine⟨by rw[hcell j hj'];simp[hj'],?_⟩
    exact(e3 j (by simp[Ty.size];omega)).2
   have hb:=(I.str.bnd 0 _ b hR e2).1
   refine(hC b off c xs Z.w hH hb (by omega)).mono fun e w' ⟨he,n,os,hw⟩=>?_
   subst he;refine⟨_,rfl,?_⟩;generalize hys:(xs.mergeSort fun x y=>decide (x≤y))=ys at hw ⊢
   have hyl:ys.length=xs.length:=by rw[←hys];exact(List.mergeSort_perm _ _).length_eq
   let w2:=putRow (Value.int .i64) (Sort.ahead Z.w n) b off ys.toArray
   have hHa:Holds (Value.int .i64) (Sort.ahead Z.w n) b off xs.toArray:=hH
   have hc2:∀ i (h:i<ys.length),w2.cell? ⟨b,off+i,none⟩=some (.int .i64 ys[i]):=by
    intro i h
    have:=cell?_putRow (Value.int .i64) (Sort.ahead Z.w n) b off xs.toArray ys.toArray hHa (by simp[hyl]) i (by simpa using h)
    rw[this];simp[h]
   have hroom:Room w2 b off (c*(Ty.int .i64).size):=by
    intro i hi;obtain⟨r1,r2⟩:=e3 i hi
    refine⟨?_,by rw[frozen?_putRow];exact r2⟩
    by_cases h:i<ys.length
    ·rw[hc2 i h];rfl
    ·rw[cell?_putRow_other _ _ _ _ _ _ (.inr (.inr (by simp;omega)))];exact r1
   have hsz:w2.heap.size=Z.w.heap.size:=size_putRow _ _ _ _ _
   have hrep:Ya w2 (Mt Z C (Yh [.cl .deep (.sl (.int .i64)) xs]).root noB) (fun _ _=>False) (.cl .deep (.sl (.int .i64)) ys) (C.L 0) (C.F 0):=by
    refine⟨some ⟨b,off,none⟩,c,?_,by omega,fun _=>⟨b,off,fun _=>noB,rfl,e2,hroom,fun i hi=>⟨Yrw hc2 i hi,fun _ h=>h.elim,fun h=>h⟩,fun _ _ _ _ _ h=>h.elim⟩⟩
    rw[hyl];rw[hcs] at h1 ⊢;exact h1
   obtain⟨q1,_⟩:=S0.inside (r:=0) (b0:=b) (w':=w2) (R':=⟨.reg,.cl .deep (.sl (.int .i64)) ys⟩) hR rfl rfl e2 hsz (fun b' hb'=>Ymg _ (Sort.ahead Z.w n) b off _ b' hb') hrep rfl rfl rfl
    (fun q b1 off1 hn=>by
     cases q with
     |nil=>rw[Yf] at hn ⊢;exact hn
     |cons st q=>
      rw[hcs] at hn h1 ⊢
      cases st with
      |el i=>
       have h1':(Src.reg cs 0).cell Z.w 0=some (.slice (some ⟨b,off,none⟩) xs.length c):=h1;have h1'':(Src.reg cs 0).cell w2 0=some (.slice (some ⟨b,off,none⟩) xs.length c):=h1;simp only[nav,h1',h1''] at hn ⊢;rw[hyl]
       split at hn
       ·rename_i hi
        rw[jL hi]
        cases q with
        |nil=>rw[Yf] at hn ⊢;exact hn
        |cons st q=>cases st<;>simp[nav] at hn
       ·cases hn
      |_=>simp[nav] at hn)
    (fun q s hn o e zs hg=>by
     cases q with
     |nil=>
      rw[Yf] at hn;cases hn;rw[Yg5,TV.get_nil] at hg;cases hg
      refine⟨Yf _ _ _,by rw[hcs];rfl,.deep,ys,Ydz (TV.get_nil _),hyl⟩
     |cons st q=>
      exfalso;rw[Yg5] at hg
      cases st with
      |el i=>
       cases q with
       |nil=>simp only[TV.get] at hg;cases hg
       |cons st q=>cases st<;>simp[TV.get] at hg
      |_=>simp[TV.get] at hg)
   obtain⟨q2,_⟩:=q1.hand (w':=grow w2 os) (G':=noB) (by simp) (fun b' hb' _=>heap_grow_old _ _ hb') (fun _ h=>h.elim) rfl rfl rfl
   rw[hw];exact fin _ _ _ q2 (Yc.Yn _ _ _)
theorem Yvr {f:FuncId} (hthere:Ya6 P f)
  (hC:∀ (blk off cap:Nat) (zs:List Int) (w:World),Holds (Value.int .i64) w blk off zs.toArray→blk<w.heap.size→zs.length<4611686018427387904→Calls P f #[.slice (some ⟨blk,off,none⟩) zs.length cap] w fun e w'=>
   e=.returned (.tuple #[])∧∃ n os,w'=grow (putRow (Value.int .i64) (Sort.ahead w n) blk off (zs.mergeSort fun x y=>decide (x≤y)).toArray) os)
  (hN:∀ (p:Option Addr) (cap:Nat) (w:World),Calls P f #[.slice p 0 cap] w fun e w'=>e=.returned (.tuple #[])∧w'=w) :
  Ycs P f (Ycc [.mu] [.cl .deep (.sl (.int .i64))] (fun x=>Ytl x.1) fun y=>⟨[],[.cl .deep (.sl (.int .i64)) y]⟩):=by
 intro cs R k r he;simp only[Ycc] at he
 split at he
 ·rename_i x hx
  have e:=PT.Yb7 hx;subst e;simp only[Ytl] at he
  cases hl:decide (List.length x.1≤2147483648) with
  |false=>rw[hl] at he;cases he
  |true=>rw[hl] at he;exact⟨_,he,Yqj hthere hC hN x.1 (by simpa using hl)⟩
 ·cases he
end
end Mf
namespace Go.Proofs
open Go.RowKit
abbrev Bk.Hd:=Int×Option Addr×Nat×Nat
def Bk.hv (h:Bk.Hd):Value:=.slice h.2.1 h.2.2.1 h.2.2.2
def Bk.enc (x:Int×Bk.Hd):Array Value:=#[.int .i64 x.1,.agg #[.int .i64 x.2.1,Bk.hv x.2]]
def Bk.at_ (len:Nat) (hd:Nat→Bk.Hd) (j:Nat):Int×Bk.Hd:=((len:Int)-1-j,hd (len-1-j))
def Bk.upto (len:Nat) (hd:Nat→Bk.Hd) (k:Nat):List (Int×Bk.Hd):=(List.range k).map (Bk.at_ len hd)
theorem Bk.Yqb (len:Nat) (hd:Nat→Bk.Hd) (k:Nat):Bk.upto len hd (k+1)=Bk.upto len hd k++[Bk.at_ len hd k]:=by simp[Bk.upto,List.range_succ]
theorem Bk.Ytp (len:Nat) (hd:Nat→Bk.Hd) (k:Nat):(Bk.upto len hd k).length=k:=by simp[Bk.upto]
def Bk.Yqh (n₀:Nat) (W:World) (A:Option Addr) (len:Nat) (hd:Nat→Bk.Hd):Prop:=
 0<len→∃ b off,A=some ⟨b,off,none⟩∧b<n₀∧∀ j,j<len→W.cell? ⟨b,off+j*2,none⟩=some (.int .i64 (hd j).1)∧W.cell? ⟨b,off+j*2+1,none⟩=some (Bk.hv (hd j))
theorem Bk.Yqh.below {n₀:Nat} {V W:World} (h:Below n₀ V W) {A:Option Addr} {len:Nat} {hd:Nat→Bk.Hd} (hl:Bk.Yqh n₀ V A len hd):Bk.Yqh n₀ W A len hd:=fun h0=>by
 obtain⟨b,off,h1,h2,h3⟩:=hl h0;exact⟨b,off,h1,h2,fun j hj=>⟨(h.cell (p:=⟨b,_,none⟩) h2).trans (h3 j hj).1,(h.cell (p:=⟨b,_,none⟩) h2).trans (h3 j hj).2⟩⟩
def Bk.last (hd:Nat→Bk.Hd) (at_:Int):Nat→Option Bk.Hd
 |0=>none
 |k+1=>if (hd k).1=at_ then some (hd k) else Bk.last hd at_ k
theorem Bk.Yp1 (len:Nat) (hd:Nat→Bk.Hd) (at_:Int):∀ k,k≤len→(∀ y∈Bk.upto len hd k,y.2.1≠at_)→Bk.last hd at_ len=Bk.last hd at_ (len-k)
 |0,_,_=>rfl
 |k+1,hk,h=>by
  rw[Bk.Yqb] at h
  rw[Bk.Yp1 len hd at_ k (by omega) (fun y hy=>h y (List.mem_append_left _ hy))]
  have h2:=h (Bk.at_ len hd k) (by simp)
  have e:len-k=(len-(k+1))+1:=by omega
  have e2:len-1-k=len-(k+1):=by omega
  simp only[Bk.at_,e2] at h2;rw[e,Bk.last,if_neg h2]
end Go.Proofs
namespace Mf
open Go Go.RowKit Go.Proofs
variable {P:Program} {Z:W0}
abbrev Ya7:Ty:=.pair (.int .i64) (.pair (.sl (.int .i64)) .unit)
abbrev Y6:Ty:=.pair (.sl (.sl (.int .i64))) (.pair (.sl Ya7) .unit)
theorem Yjw {ps:List (Int×List Int×Unit)} {at_:Int}:∀ {k j:Nat},Yfj ps at_ k=some j→j<k
 |k+1,j,h=>by
  unfold Yfj at h
  split at h
  ·cases h;omega
  ·exact Nat.lt_succ_of_lt (Yjw h)
theorem Yoz {ps:List (Int×List Int×Unit)} {hd:Nat→Bk.Hd} {at_:Int}:∀ (k:Nat),(∀ j,j<k→(hd j).1=(ps.getD j (0,[],())).1)→Bk.last hd at_ k=(Yfj ps at_ k).map hd
 |0,_=>rfl
 |k+1,h=>by
  simp only[Bk.last,Yfj,h k (by omega)]
  split
  ·rfl
  ·exact Yoz k (fun j hj=>h j (by omega))
theorem Yeu {Lf:TV→Value→Prop} {C:Cx} {w':World} (h:Below Z.w.heap.size Z.w w') (hx:∀ b,Z.X b→b<Z.w.heap.size) (hk:∀ b i,Z.K b i→b<Z.w.heap.size):Str Z Lf C noB (fun _=>none) w' where
 rep:=fun _ _ h=>by cases h
 reg:=fun _ _ h=>by cases h
 mem:=fun _ _ h=>by cases h
 bnd:=fun _ _ _ h=>by cases h
 gbnd:=fun _ h=>h.elim
 dis:=fun _ _ _ _ _ h=>by cases h
 gdis:=fun _ _ h=>by cases h
 plc:=fun _ _ h=>by cases h
 sz:=h.size
 old:=fun b hb _=>h.block b hb
 kp:=fun b i hh=>h.cell (p:=⟨b,i,none⟩) (hk b i hh)
 kf:=fun b i j hh=>h.frozen (p:=⟨b,j,none⟩) (hk b i hh)
 xb:=hx
 kb:=hk
 os:=h.os
 tape:=h.tape
 output:=h.output
theorem Ynr {f:FuncId} (hthere:Ya6 P f)
  (hC:∀ (bd od:Nat) (at_:Int) (A C:Option Addr) (nB cB nC cC:Nat) (hd:Nat→Bk.Hd) (w:World) (v:Bk.Hd),bd<w.heap.size→w.cell? ⟨bd,od,none⟩=some (.slice A nB cB)→w.cell? ⟨bd,od+1,none⟩=some (.slice C nC cC)→
   nC≤1152921504606846976→Bk.Yqh w.heap.size w C nC hd→
   (Bk.last hd at_ nC=none→∃ bB oB,A=some ⟨bB,oB,none⟩∧bB<w.heap.size∧0≤at_∧at_<nB∧w.cell? ⟨bB,oB+at_.toNat,none⟩=some (Bk.hv v))→
   Calls P f #[.pointer (some ⟨bd,od,none⟩),.int .i64 at_] w fun e W'=>e=.returned (Bk.hv ((Bk.last hd at_ nC).getD v))∧Below w.heap.size w W')
  (d:Y6.El) (at_:Int) (r:List Int) (hr:Yk7 d at_=some r) :
  Ycf P f [.sh,.sh] [.pt Y6 d,.cl .sh (.int .i64) at_] ⟨[.cl .sh (.sl (.int .i64)) r],[]⟩ where
 there:=hthere
 calls:=by
  intro Z C us hl hnt hP1 hP2 I;obtain⟨bs,ps,_⟩:=d;have hus:us.size=2:=hl
  have hroot:(Yh [.pt Y6 (bs,ps,()),.cl .sh (.int .i64) at_]).root=fun _=>none:=by
   funext r;rw[Yau];match r with | 0=>rfl | 1=>rfl | n+2=>rfl
  have h0:Yb _ _ _ _ (.pt Y6 (bs,ps,())) ((⟨us,[]⟩:Act).tmps.getD 0 undef):=I.tm 0 (.pt Y6 (bs,ps,())) rfl;have h1:Yb _ _ _ _ (.cl .sh (.int .i64) at_) ((⟨us,[]⟩:Act).tmps.getD 1 undef):=I.tm 1 (.cl .sh (.int .i64) at_) rfl;have e1:=h1.int;obtain⟨bd,od,e0,hM,hbd,hrep⟩:=h0.leaf rfl;obtain⟨F1,F2,hb,⟨F3,F4,hp,-⟩,-⟩:=hrep;obtain⟨A,cB,a1,a2,a3⟩:=hb;obtain⟨Cc,cC,c1,c2,c3⟩:=hp
  have hus2:us=#[.pointer (some ⟨bd,od,none⟩),.int .i64 at_]:=by
   apply Array.ext (by simp[hus])
   intro i h4 h5
   have:i=0∨i=1:=by omega
   rcases this with rfl | rfl
   ·have:us.getD 0 undef=.pointer (some ⟨bd,od,none⟩):=e0
    simpa [Array.getD,h4] using this
   ·have:us.getD 1 undef=.int .i64 at_:=e1
    simpa [Array.getD,h4] using this
  rw[hus2]
  have hput:∀ j,∃ h:Bk.Hd,h.1=(ps.getD j (0,[],())).1∧(j<ps.length→∀ b off,Cc=some ⟨b,off,none⟩→Z.w.cell? ⟨b,off+j*2,none⟩=some (.int .i64 h.1)∧Z.w.cell? ⟨b,off+j*2+1,none⟩=some (Bk.hv h)∧
    Rep Z.w (Mt Z C (fun _=>none) noB) (.sl (.int .i64)) .sh (ps.getD j (0,[],())).2.1 (.mem b (off+j*2+1)) noB):=by
   intro j
   by_cases hj:j<ps.length
   ·obtain⟨b,off,q1,q2,q3,q4⟩:=c3 (show ps≠[] from List.ne_nil_of_length_pos (by omega))
    obtain⟨G1,G2,r1,⟨G3,G4,r2,-⟩,-,s2,-⟩:=q4 j hj;obtain⟨A',c',t1,t2,t3⟩:=r2;refine⟨((ps.getD j (0,[],())).1,A',(ps.getD j (0,[],())).2.1.length,c'),rfl,fun _ b2 off2 e=>?_⟩;rw[q1] at e;cases e
    have eg:ps.getD j (0,[],())=ps[j]:=by simp[List.getD,hj]
    rw[eg]
    have r1':Z.w.cell? ⟨b,off+j*2,none⟩=some (.int .i64 ps[j].1):=by
     have hs:Ya7.size=2:=rfl;simp only[Rep,Src.cell,hs] at r1;simpa using r1
    have t1':Z.w.cell? ⟨b,off+j*2+1,none⟩=some (.slice A' ps[j].2.1.length c'):=by
     have hs:Ya7.size=2:=rfl;have hs1:(Ty.int .i64).size=1:=rfl;simp only[Src.cell,Src.sh,hs,hs1] at t1;simpa using t1
    refine⟨r1',t1',A',c',by simpa [Src.cell] using t1',t2,?_⟩
    rw[hroot] at t3;exact t3
   ·exact⟨((ps.getD j (0,[],())).1,none,0,0),rfl,fun h=>absurd h hj⟩
  obtain⟨hd,hhd⟩:=Classical.axiomOfChoice hput
  have hlies:Bk.Yqh Z.w.heap.size Z.w Cc ps.length hd:=fun hpos=>by
   obtain⟨b,off,q1,q2,q3,q4⟩:=c3 (show ps≠[] from List.ne_nil_of_length_pos hpos);exact⟨b,off,q1,q3,fun j hj=>⟨((hhd j).2 hj b off q1).1,((hhd j).2 hj b off q1).2.1⟩⟩
  have hlast:=Yoz (at_:=at_) ps.length (fun j _=>(hhd j).1);simp only[Yk7] at hr
  cases hle:decide (ps.length≤2147483648) with
  |false=>rw[hle] at hr;cases hr
  |true=>
   rw[hle] at hr;simp only[jI] at hle;simp only[cond_true] at hr
   have key:∃ v:Bk.Hd,(Bk.last hd at_ ps.length=none→∃ bB oB,A=some ⟨bB,oB,none⟩∧bB<Z.w.heap.size∧0≤at_∧at_<bs.length∧Z.w.cell? ⟨bB,oB+at_.toNat,none⟩=some (Bk.hv v))∧
     Rep Z.w (Mt Z C (fun _=>none) noB) (.sl (.int .i64)) .sh r (.reg [Bk.hv ((Bk.last hd at_ ps.length).getD v)] 0) noB:=by
    cases hix:Yfj ps at_ ps.length with
    |some j=>
     rw[hix] at hr hlast;simp only[jT] at hlast;cases hr;have hj:=Yjw hix
     refine⟨(0,none,0,0),(fun h=>by rw[hlast] at h;cases h),?_⟩
     rw[hlast]
     obtain⟨b,off,q1,q2,q3,q4⟩:=c3 (show ps≠[] from List.ne_nil_of_length_pos (by omega))
     obtain⟨u1,u2,u3⟩:=(hhd j).2 hj b off q1;refine u3.Ygn (fun i hi=>?_)
     have:i=0:=by simp[Ty.size] at hi;omega
     subst this;show some _=_
     simpa [Src.cell] using u2.symm
    |none=>
     rw[hix] at hr hlast;simp only[Option.map_none] at hlast
     cases hin:inB at_ bs.length with
     |false=>rw[hin] at hr;cases hr
     |true=>
      rw[hin] at hr;simp only[cond_true] at hr;cases hr;simp only[inB,jC,jI] at hin
      have hn:at_.toNat<bs.length:=by omega
      obtain⟨b,off,q1,q2,q3,q4⟩:=a3 (show bs≠[] from List.ne_nil_of_length_pos (by omega))
      have q5:=q4 at_.toNat hn;obtain⟨A',c',t1,t2,t3⟩:=q5
      have t1':Z.w.cell? ⟨b,off+at_.toNat,none⟩=some (.slice A' bs[at_.toNat].length c'):=by simpa [Src.cell,Ty.size] using t1
      refine⟨(0,A',bs[at_.toNat].length,c'),fun _=>⟨b,off,q1,q3,hin.1,hin.2,t1'⟩,?_⟩;rw[hlast]
      have eg:bs.getD at_.toNat []=bs[at_.toNat]:=by simp[List.getD,hn]
      rw[eg];rw[hroot] at t3;exact⟨A',c',rfl,t2,t3⟩
   obtain⟨v,hv,hrep⟩:=key
   refine(hC bd od at_ A Cc bs.length cB ps.length cC hd Z.w v hbd (by simpa [Src.cell] using a1) (by simpa [Src.cell,Src.sh,Ty.size] using c1) (by omega) hlies hv).mono fun e w' ⟨he,hbel⟩=>?_
   subst he;refine⟨_,rfl,C,noB,fun _=>none,noB,Yeu hbel I.str.xb I.str.kb,trivial,fun _ h=>h,?_,rfl,rfl⟩;refine⟨?_,rfl,?_⟩
   ·show Rep w' _ (.sl (.int .i64)) .sh r (.reg [Bk.hv ((Bk.last hd at_ ps.length).getD v)] 0) noB
    refine hrep.go ⟨hbel.size,fun _ h=>h.elim,fun b hb hlt=>⟨hbel.block b hlt,hb⟩⟩ (fun i hi=>rfl)
   ·exact⟨fun h=>(by cases h),fun⟨cs,h⟩=>(by cases h)⟩
theorem Yu8 {f:FuncId} (hthere:Ya6 P f)
  (hC:∀ (bd od:Nat) (at_:Int) (A C:Option Addr) (nB cB nC cC:Nat) (hd:Nat→Bk.Hd) (w:World) (v:Bk.Hd),bd<w.heap.size→w.cell? ⟨bd,od,none⟩=some (.slice A nB cB)→w.cell? ⟨bd,od+1,none⟩=some (.slice C nC cC)→
   nC≤1152921504606846976→Bk.Yqh w.heap.size w C nC hd→
   (Bk.last hd at_ nC=none→∃ bB oB,A=some ⟨bB,oB,none⟩∧bB<w.heap.size∧0≤at_∧at_<nB∧w.cell? ⟨bB,oB+at_.toNat,none⟩=some (Bk.hv v))→
   Calls P f #[.pointer (some ⟨bd,od,none⟩),.int .i64 at_] w fun e W'=>e=.returned (Bk.hv ((Bk.last hd at_ nC).getD v))∧Below w.heap.size w W') :
  Ycs P f (Ycc [.sh,.sh] [.pt Y6,.cl .sh (.int .i64)] (fun x=>Yk7 x.1 x.2.1) fun y=>⟨[.cl .sh (.sl (.int .i64)) y],[]⟩):=by
 intro cs R k r he;simp only[Ycc] at he
 split at he
 ·rename_i x hx
  have e:=PT.Yb7 hx;subst e
  cases hb:Yk7 x.1 x.2.1 with
  |none=>rw[hb] at he;cases he
  |some t=>rw[hb] at he;exact⟨_,he,Ynr hthere hC x.1 x.2.1 t hb⟩
 ·cases he
end Mf
namespace Mf
open Go
section
open Go.RowKit
theorem Rep.Yd2 {w:World} {M M':Yd}:∀ {t:Ty} {x:t.El} {s:Src} {F:Yd},Rep w M t .deep x s F→Rep w M' t .deep x s F:=by
 intro t
 induction t with
 |int k=>intro x s F h;exact h
 |bool=>intro x s F h;exact h
 |str=>intro x s F h;exact h
 |unit=>intro x s F h;trivial
 |pair a b iha ihb=>intro x s F h;obtain⟨F1,F2,h1,h2,h3⟩:=h;exact⟨F1,F2,iha h1,ihb h2,h3⟩
 |sl e ih=>
  intro x s F h;obtain⟨A,c,h1,h2,h3⟩:=h;refine⟨A,c,h1,h2,fun hc=>?_⟩;obtain⟨b,off,Fs,e1,e2,e3,e4,e5⟩:=h3 hc
  exact⟨b,off,Fs,e1,e2,e3,fun i hi=>⟨ih (e4 i hi).1,(e4 i hi).2⟩,e5⟩
 |arr n e ih=>
  intro x s F h;obtain⟨h1,Fs,h2,h3⟩:=h;exact⟨h1,Fs,fun i hi=>⟨ih (h2 i hi).1,(h2 i hi).2⟩,h3⟩
def Ypa (w w':World) (F:Yd):Prop:=∀ b,F b→w.heap.size≤b∧b<w'.heap.size
def Ybp (e:Ty) (o:Ow) (xs:List e.El) (w:World) (en:Ending) (w':World):Prop:=
 ∃ A c,en=.returned (.slice A xs.length c)∧Below w.heap.size w w'∧∃ F,Rep w' F (.sl e) o xs (.reg [.slice A xs.length c] 0) F∧Ypa w w' F
theorem Yiv {v:TV} (h:Y8 v=none):(Yh [v]).root=fun _=>none:=by
 funext r;rw[Yau];match r with | 0=>exact h | n+1=>rfl
theorem Ycf.Yt4 {f:FuncId} {e e':Ty} {o:Ow} {xs:List e.El} {ys:List e'.El} (h:Ycf P f [.sh] [.cl .sh (.sl e) xs] ⟨[.cl o (.sl e') ys],[]⟩) (ho:o≠.sh) (w:World) (A:Option Addr) (c:Nat)
  (hr:Rep w noB (.sl e) .sh xs (.reg [.slice A xs.length c] 0) noB):Calls P f #[.slice A xs.length c] w (Ybp e' o ys w):=by
 let C:Cx:=⟨fun _=>.reg [] 0,fun _=>noB⟩
 let Z:W0:=⟨w,noB,fun _ _=>False,noB,fun i=>if i<1 then some (.reg [] 0) else none,1⟩
 have hroot:=Yiv (v:=.cl .sh (.sl e) xs) rfl
 have hM:Ye (Mt Z C (Yh [.cl .sh (.sl e) xs]).root noB) noB:=by
  rw[hroot];rintro b (⟨r,R,h,_⟩ | h | h)
  ·cases h
  ·exact h
  ·exact h
 have I:Inv Z (Yh [.cl .sh (.sl e) xs]) C ⟨#[.slice A xs.length c],[]⟩ Z.w:=by
  refine⟨?_,?_,rfl,rfl⟩
  ·rw[hroot];exact Yeu (Below.refl _ _) (fun _ h=>h.elim) (fun _ _ h=>h.elim)
  ·intro i v hv
   rw[show(Yh [.cl .sh (.sl e) xs]).tm=[(0,.cl .sh (.sl e) xs)] from rfl,lk_consU] at hv
   split at hv
   ·rename_i e0
    subst e0;cases hv
    refine⟨?_,rfl,⟨fun h=>(by cases h),fun⟨cs,h⟩=>(by cases h)⟩⟩
    show Rep w _ (.sl e) .sh xs _ noB;have:=Ya.mono (Lf:=fun _ _=>False) (tv:=.cl .sh (.sl e) xs) (hr:Ya w noB _ (.cl .sh (.sl e) xs) _ noB) hM;exact this
   ·cases hv
 refine(h.calls Z C #[.slice A xs.length c] rfl rfl (fun i hi=>?_) (fun i hi=>?_) I).mono ?_
 ·show(if i<1 then _ else _)=_
  rw[jM (by have:(1:Nat)≤i:=hi;omega)]
 ·show(if i<1 then _ else _)=_
  rw[jL (by have:i<1:=hi;omega)]
 ·rintro en w' ⟨v,rfl,C',G,ρ,Fr,hs,-,hF,hres,-,-⟩
  obtain⟨h1,h2,h3⟩:Ya w' (Mt Z C' ρ G) (Yi w' (Mt Z C' ρ G) C'.L ρ) (.cl o (.sl e') ys) (.reg v.cells.toList 0) Fr∧v.cells.size=1∧_:=hres
  have hagg:¬ ∃ cs,v=.agg cs:=fun h=>by have:=h3.2 h;cases this
  have hone:=Ybz hagg;have hrep:Rep w' (Mt Z C' ρ G) (.sl e') o ys (.reg v.cells.toList 0) Fr:=h1;obtain⟨A',c',k1,k2,k3⟩:=hrep
  have hv:v=.slice A' ys.length c':=by
   have:(Src.reg v.cells.toList 0).cell w' 0=some v:=by rw[hone];rfl
   rw[this] at k1;exact jN k1
  subst hv;refine⟨A',c',rfl,⟨hs.os,hs.tape,hs.output,hs.sz,fun k hk=>hs.old k hk (fun h=>h)⟩,Fr,?_,fun b hb=>?_⟩
  ·have:=Ya.mono (Lf:=fun _ _=>False) (tv:=.cl o (.sl e') ys) (M:=Mt Z C' ρ G) (M':=Fr) (F:=Fr) (s:=.reg [.slice A' ys.length c'] 0) (w:=w') ⟨A',c',rfl,k2,k3⟩ (fun b hb=>.inr (.inl (hF b hb)))
   exact this
  ·obtain⟨q1,q2,q3,q4⟩:=hs.gbnd b (hF b hb)
   exact⟨q4.resolve_left (fun h=>h),q1⟩
theorem Ym7 {f:FuncId} {e e':Ty} {xs:List e.El} {ys:List e'.El} (ht:Ya6 P f)
  (h:∀ (w:World) (A:Option Addr) (c:Nat),Rep w noB (.sl e) .sh xs (.reg [.slice A xs.length c] 0) noB→Calls P f #[.slice A xs.length c] w (Ybp e' .deep ys w)) :
  Ycf P f [.sh] [.cl .sh (.sl e) xs] ⟨[.cl .deep (.sl e') ys],[]⟩ where
 there:=ht
 calls:=by
  intro Z C us hl hnt hP1 hP2 I;have hus:us.size=1:=hl;have hroot:=Yiv (v:=.cl .sh (.sl e) xs) rfl;have h0:Yb _ _ _ _ (.cl .sh (.sl e) xs) ((⟨us,[]⟩:Act).tmps.getD 0 undef):=I.tm 0 (.cl .sh (.sl e) xs) rfl;have hrep:Rep Z.w (Mt Z C (Yh [.cl .sh (.sl e) xs]).root noB) (.sl e) .sh xs (.reg (us.getD 0 undef).cells.toList 0) noB:=h0.1;have hone:=h0.one rfl;have hrep0:=hrep;obtain⟨A,c,k1,k2,k3⟩:=hrep
  have hv:us.getD 0 undef=.slice A xs.length c:=by
   have:(Src.reg (us.getD 0 undef).cells.toList 0).cell Z.w 0=some (us.getD 0 undef):=by
    rw[show(us.getD 0 undef).cells=#[us.getD 0 undef] from hone];rfl
   rw[this] at k1;exact jN k1
  have hus2:us=#[.slice A xs.length c]:=by
   apply Array.ext (by simp[hus])
   intro i h4 h5
   have:i=0:=by omega
   subst this
   simpa [Array.getD,h4] using hv
  rw[hus2]
  have hr:Rep Z.w noB (.sl e) .sh xs (.reg [.slice A xs.length c] 0) noB:=by
   rw[hv] at hrep0;exact Ya.mono (Lf:=fun _ _=>False) (tv:=.cl .sh (.sl e) xs) (M':=noB) (hrep0:Ya Z.w _ _ (.cl .sh (.sl e) xs) _ noB) (fun _ h=>h.elim)
  refine(h Z.w A c hr).mono ?_;rintro en w' ⟨A',c',rfl,hb,F,hF,hfr⟩;refine⟨_,rfl,C,F,fun _=>none,F,?_,trivial,fun _ h=>h,?_,rfl,rfl⟩
  ·refine {Yeu (Lf:=Yi w' (Mt Z C (fun _=>none) F) C.L (fun _=>none)) (C:=C) hb I.str.xb I.str.kb with gbnd:=?_,gdis:=(fun _ _ h=>by cases h),rep:=(fun _ _ h=>by cases h) }
   intro b hbF;have:=hfr b hbF
   exact⟨this.2,fun i hk=>by have:=I.str.kb b i hk;omega,fun hx=>by have:=I.str.xb b hx;omega,.inr this.1⟩
  ·refine⟨?_,rfl,⟨fun h=>(by cases h),fun⟨cs,h⟩=>(by cases h)⟩⟩
   show Rep w' _ (.sl e') .deep ys _ F;exact hF.Yd2
end
section
open Go.RowKit
abbrev Ya3:=List (Int×List Int×Unit)
structure CpI (w0 W:World) (l:Ya3) (b off cap k:Nat):Prop where
 bel:Below w0.heap.size w0 W
 b1:w0.heap.size≤b
 b2:b<W.heap.size
 room:Room W b off (cap*2)
 ats:∀ j (h:j<l.length),W.cell? ⟨b,off+j*2,none⟩=some (.int .i64 l[j].1)
 old:∀ j (h:j<l.length),k≤j→Rep W (fun x=>x=b) (.sl (.int .i64)) .sh l[j].2.1 (.mem b (off+j*2+1)) noB
 new:∃ s:Nat→Nat,b<s 0∧(∀ j,j<k→s j≤s (j+1))∧s k≤W.heap.size∧∀ j (h:j<l.length),j<k→Rep W noB (.sl (.int .i64)) .deep l[j].2.1 (.mem b (off+j*2+1)) (fun x=>s j≤x∧x<s (j+1))
theorem CpI.start {w0 w1:World} {l:Ya3} {A:Option Addr} {c:Nat} {F:Yd} (hb:Below w0.heap.size w0 w1) (h:Rep w1 F (.sl Ya7) .top l (.reg [.slice A l.length c] 0) F) (hf:Ypa w0 w1 F) (hc:c≠0) :
  ∃ b off,A=some ⟨b,off,none⟩∧l.length≤c∧CpI w0 w1 l b off c 0:=by
 obtain⟨A',c',k1,k2,k3⟩:=h;have k1':some (Value.slice A l.length c)=some (.slice A' l.length c'):=k1;simp only[jD,Value.slice.injEq] at k1';obtain⟨rfl,-,rfl⟩:=k1';obtain⟨b,off,Fs,rfl,hF,hroom,he,-⟩:=k3 hc;refine⟨b,off,rfl,k2,hb,(hf b hF).1,(hf b hF).2,hroom,fun j hj=>?_,fun j hj _=>?_,fun _=>w1.heap.size,(hf b hF).2,fun _ _=>jB _,jB _,fun j hj h=>absurd h (Nat.not_lt_zero _)⟩
 ·obtain⟨G1,G2,r1,-,-⟩:=(he j hj).1
  have hs:Ya7.size=2:=rfl;simp only[Rep,Src.cell,hs] at r1;simpa using r1
 ·obtain⟨G1,G2,-,⟨G3,G4,r2,-⟩,-,-,-⟩:=(he j hj).1
  obtain⟨A',c',t1,t2,t3⟩:=r2;have hs:Ya7.size=2:=rfl;have hs1:(Ty.int .i64).size=1:=rfl;refine⟨A',c',?_,t2,fun hne=>?_⟩
  ·simp only[Src.cell,Src.sh,hs,hs1] at t1;simpa [Src.cell] using t1
  ·obtain⟨b',off',q1,q2,q3,q4⟩:=t3 hne
   exact⟨b',off',q1,fun e=>q2 (e▸hF),q3,fun i hi=>Ya.mono (Lf:=fun _ _=>False) (tv:=.cl .sh (.int .i64) _) (q4 i hi) (fun x e=>by subst e;exact hF)⟩
theorem Yfh {w:World} {p:Addr} {v:Value} {b off n:Nat} (h:Room w b off n):Room (w.setCell p v) b off n:=fun i hi=>by
 obtain⟨h1,h2⟩:=h i hi
 refine⟨?_,by rw[World.frozen?_setCell];exact h2⟩
 obtain⟨u,hu⟩:=Option.isSome_iff_exists.1 h1;obtain⟨u',hu'⟩:=cell?_setCell_some (p:=p) (x:=v) hu;rw[hu'];rfl
theorem CpI.step {w0 W W1 W2:World} {l:Ya3} {b off cap k:Nat} (I:CpI w0 W l b off cap k) (hk:k<l.length) (hcap:l.length≤cap) (h1:Below W.heap.size W W1) (h2:Below W1.heap.size W1 W2) {A:Option Addr} {c:Nat} {F:Yd}
  (hr:Rep W2 F (.sl (.int .i64)) .deep l[k].2.1 (.reg [.slice A l[k].2.1.length c] 0) F) (hf:Ypa W1 W2 F) :
  CpI w0 (W2.setCell ⟨b,off+k*2+1,none⟩ (.slice A l[k].2.1.length c)) l b off cap (k+1):=by
 have hB:Below W.heap.size W W2:=h1.trans (h2.mono h1.size)
 have hsz:(W2.setCell ⟨b,off+k*2+1,none⟩ (.slice A l[k].2.1.length c)).heap.size=W2.heap.size:=by simp[World.setCell]
 have hoth:∀ x,x≠b→x<W.heap.size→Same W (W2.setCell ⟨b,off+k*2+1,none⟩ (.slice A l[k].2.1.length c)) x:=fun x hx hlt=>(Below.heap_setCell _ _ _ _ hx).trans (hB.block x hlt)
 have hcell:∀ i,i≠off+k*2+1→(W2.setCell ⟨b,off+k*2+1,none⟩ (.slice A l[k].2.1.length c)).cell? ⟨b,i,none⟩=W.cell? ⟨b,i,none⟩:=fun i hi=>by
  rw[World.cell?_setCell_other (h:=fun e=>hi (by cases e;rfl))]
  exact hB.cell (p:=⟨b,i,none⟩) I.b2
 obtain⟨s,s0,s1,s2,s3⟩:=I.new
 refine⟨I.bel.trans ((hB.mono I.bel.size).setCell (p:=⟨b,_,none⟩) I.b1 _),I.b1,by rw[hsz];have:=hB.size;have:=I.b2;omega,Yfh (fun i hi=>?_),fun j hj=>?_,fun j hj hkj=>?_,?_⟩
 ·rw[hB.cell (p:=⟨b,_,none⟩) I.b2,hB.frozen (p:=⟨b,_,none⟩) I.b2];exact I.room i hi
 ·rw[hcell _ (by omega)];exact I.ats j hj
 ·refine(I.old j hj (by omega)).go ⟨by rw[hsz];exact hB.size,fun _ h=>h.elim,fun x hx hlt=>⟨hoth x hx hlt,hx⟩⟩ (fun i hi=>?_)
  have:i=0:=by simp[Ty.size] at hi;omega
  subst this
  exact hcell _ (by omega)
 ·have sk:∀ j,j≤k→s j≤s k:=fun j hj=>by
   have:∀ d,j+d≤k→s j≤s (j+d):=fun d=>by
    induction d with
    |zero=>intro _;exact jB _
    |succ d ih=>intro h;exact jU (ih (by omega)) (s1 (j+d) (by omega))
   have:=this (k-j) (by omega)
   rwa [show j+(k-j)=k by omega] at this
  refine⟨fun j=>if j≤k then s j else W2.heap.size,by simpa using s0,fun j hj=>?_,by show(if k+1≤k then _ else _)≤_;rw[jM (by omega),hsz];exact jB _,fun j hj hjk=>?_⟩
  ·show(if j≤k then s j else W2.heap.size)≤(if j+1≤k then s (j+1) else W2.heap.size)
   rw[jL (by omega)]
   by_cases e:j+1≤k
   ·rw[jL e];exact s1 j (by omega)
   ·rw[jM e];have:=sk j (by omega);have:=hB.size;omega
  ·by_cases e:j=k
   ·subst e
    simp only[jB,if_true,Nat.not_succ_le_self,if_false];obtain⟨A',c',k1,k2,k3⟩:=hr;have k1':some (Value.slice A l[j].2.1.length c)=some (.slice A' l[j].2.1.length c'):=k1;simp only[jD,Value.slice.injEq] at k1';obtain⟨rfl,-,rfl⟩:=k1';refine⟨A,c,?_,k2,fun hc=>?_⟩
    ·show World.cell? _ _=_
     simp only[kF];refine World.cell?_setCell_same' _ _ _ ?_;rw[hB.cell (p:=⟨b,_,none⟩) I.b2]
     exact(I.room (j*2+1) (by omega)).1
    ·obtain⟨b',off',Fs,q1,q2,q3,q4,q5⟩:=k3 hc
     have hb':=hf b' q2;have hlt:=I.b2;have hW1:=h1.size
     have hne:b'≠b:=by omega
     refine⟨b',off',fun _=>noB,q1,⟨by omega,hb'.2⟩,Yfh q3,fun i hi=>⟨?_,fun _ h=>h.elim,fun h=>h⟩,fun _ _ _ _ _ h=>h.elim⟩
     have hi':=(q4 i hi).1;show World.cell? _ _=_;rw[World.cell?_setCell_other (h:=fun e=>hne (congrArg Addr.block e).symm)];exact hi'
   ·have hj2:j<k:=by omega
    simp only[show j≤k by omega,show j+1≤k by omega,if_true]
    have hsj:=sk (j+1) (by omega)
    have hb0:b<s j:=jX s0 (by
     have:∀ d,d≤j→s 0≤s d:=fun d=>by
      induction d with
      |zero=>intro _;exact jB _
      |succ d ih=>intro h;exact jU (ih (by omega)) (s1 d (by omega))
     exact this j (jB _))
    refine(((s3 j hj hj2).Yd2 (M':=fun x=>x=b)).go (M':=fun x=>x=b) ⟨by rw[hsz];exact hB.size,fun x hx=>hoth x (by have:=hx.1;omega) (by have:=hx.2;omega),fun x hx hlt=>⟨hoth x hx hlt,hx⟩⟩ (fun i hi=>?_)).Yd2
    ·have:i=0:=by simp[Ty.size] at hi;omega
     subst this
     exact hcell _ (by omega)
theorem CpI.done {w0 W:World} {l:Ya3} {b off cap:Nat} (I:CpI w0 W l b off cap l.length) (hcap:l.length≤cap):Ybp Ya7 .deep l w0 (.returned (.slice (some ⟨b,off,none⟩) l.length cap)) W:=by
 obtain⟨s,s0,s1,s2,s3⟩:=I.new
 have mono:∀ j d,j+d≤l.length→s j≤s (j+d):=fun j d=>by
  induction d with
  |zero=>intro _;exact jB _
  |succ d ih=>intro h;exact jU (ih (by omega)) (s1 (j+d) (by omega))
 refine⟨_,_,rfl,I.bel,fun x=>w0.heap.size≤x∧x<W.heap.size,⟨_,_,rfl,hcap,fun hc=>⟨b,off,fun j=>fun x=>s j≤x∧x<s (j+1)∧j<l.length,rfl,⟨I.b1,I.b2⟩,I.room,fun j hj=>⟨?_,?_,?_⟩,fun i j hij hj x hx hx'=>?_⟩⟩,fun x h=>h⟩
 ·have hs:Ya7.size=2:=rfl
  refine⟨noB,fun x=>s j≤x∧x<s (j+1)∧j<l.length,?_,⟨fun x=>s j≤x∧x<s (j+1)∧j<l.length,noB,?_,trivial,fun _ h=>h,fun _ h=>h.elim,fun _ _ h=>h⟩,fun _ h=>h.elim,fun _ h=>h,fun _ h=>h.elim⟩
  ·show World.cell? _ _=_
   simp only[hs,kF];exact I.ats j hj
  ·have h:=((s3 j hj hj).sub (G:=fun x=>s j≤x∧x<s (j+1)∧j<l.length) (fun x h=>⟨h.1,h.2,hj⟩)).Yd2 (M':=fun x=>w0.heap.size≤x∧x<W.heap.size)
   have e1:Ow.deep.elem=Ow.deep:=rfl;rw[e1]
   simpa [Src.sh,hs,Ty.size] using h
 ·rintro x ⟨h1,h2,h3⟩
  have:=mono 0 j (by omega)
  have:=mono (j+1) (l.length-(j+1)) (by omega)
  rw[show j+1+(l.length-(j+1))=l.length by omega] at this
  have:=I.b1;rw[jJ] at *
  exact⟨by omega,by omega⟩
 ·rintro⟨h1,-,-⟩
  have:=mono 0 j (by omega)
  rw[jJ] at this;omega
 ·have:=mono (i+1) (j-(i+1)) (by omega)
  rw[show i+1+(j-(i+1))=j by omega] at this
  have:=hx.2.1;have:=hx'.1;omega
theorem CpI.arg {w0 W:World} {l:Ya3} {b off cap k:Nat} (I:CpI w0 W l b off cap k) (hk:k<l.length):∃ A c,W.cell? ⟨b,off+k*2+1,none⟩=some (.slice A l[k].2.1.length c)∧
  ∀ W1,Below W.heap.size W W1→Rep W1 noB (.sl (.int .i64)) .sh l[k].2.1 (.reg [.slice A l[k].2.1.length c] 0) noB:=by
 obtain⟨A,c,d1,d2,d3⟩:=I.old k hk (jB _);refine⟨A,c,d1,fun W1 h1=>⟨A,c,rfl,d2,fun hne=>?_⟩⟩;obtain⟨b',off',q1,q2,q3,q4⟩:=d3 hne;refine⟨b',off',q1,fun h=>h,jX q3 h1.size,fun i hi=>?_⟩;show World.cell? _ _=_;rw[h1.cell (p:=⟨b',_,none⟩) q3];exact q4 i hi
theorem CpI.place {w0 W:World} {l:Ya3} {b off cap k:Nat} (I:CpI w0 W l b off cap k) (hk:k<l.length) (hcap:l.length≤cap) {W2:World} (h:Below W.heap.size W W2) :
  W2.cell? ⟨b,off+k*2+1,none⟩=W.cell? ⟨b,off+k*2+1,none⟩∧W2.frozen? ⟨b,off+k*2+1,none⟩=false:=
 ⟨h.cell (p:=⟨b,_,none⟩) I.b2,(h.frozen (p:=⟨b,_,none⟩) I.b2).trans (I.room (k*2+1) (by omega)).2⟩
theorem Ybp.none {l:Ya3} {w W:World} {A:Option Addr} (hb:Below w.heap.size w W) {o:Ow} {G:Yd} (h:Rep W G (.sl Ya7) o l (.reg [.slice A l.length 0] 0) G):l.length=0∧Ybp Ya7 .deep l w (.returned (.slice A l.length 0)) W:=by
 obtain⟨A',c',k1,k2,k3⟩:=h;have k1':some (Value.slice A l.length 0)=some (.slice A' l.length c'):=k1;simp only[jD,Value.slice.injEq] at k1';obtain⟨rfl,-,rfl⟩:=k1';exact⟨Nat.le_zero.1 k2,A,0,rfl,hb,noB,⟨A,0,rfl,k2,fun h=>absurd rfl h⟩,fun _ h=>h.elim⟩
end
section
open Go.RowKit
theorem Yto {f:FuncId} {e:Ty} {o:Ow} (h:Ycs P f (Ycc [.sh] [.cl .sh (.sl e)] (fun x=>Ylo x.1) fun y=>⟨[.cl o (.sl e) y],[]⟩)) (ho:o≠.sh)
  (hrd:∀ xs:List e.El,PT.rds [.cl .sh (.sl e)] [.cl .sh (.sl e) xs]=some (xs,())) (w:World) (A:Option Addr) (c:Nat) (xs:List e.El) (hr:Rep w noB (.sl e) .sh xs (.reg [.slice A xs.length c] 0) noB) (hl:xs.length≤2147483648) :
  Calls P f #[.slice A xs.length c] w (Ybp e o xs w):=by
 obtain⟨out,e1,hc⟩:=h [.cl .sh (.sl e) xs] Out some ⟨[.cl o (.sl e) xs],[]⟩ (by
  simp only[Ycc,hrd,Ylo,jZ hl,cond_true,jA])
 cases e1;exact hc.Yt4 ho w A c hr
theorem Ysk {f:FuncId} (ht:Ya6 P f)
  (h:∀ (w:World) (A:Option Addr) (c:Nat) (l:Ya3),Rep w noB (.sl Ya7) .sh l (.reg [.slice A l.length c] 0) noB→l.length≤2147483648→(∀ x∈l,x.2.1.length≤2147483648)→Calls P f #[.slice A l.length c] w (Ybp Ya7 .deep l w)) :
  Ycs P f (Ycc [.sh] [.cl .sh (.sl Ya7)] (fun x=>Yfe x.1) fun y=>⟨[.cl .deep (.sl Ya7) y],[]⟩):=by
 intro cs R k r he;simp only[Ycc] at he
 split at he
 ·rename_i x hx
  have e:=PT.Yb7 hx;subst e
  cases hb:Yfe x.1 with
  |none=>rw[hb] at he;cases he
  |some t=>
   rw[hb] at he;unfold Yfe at hb
   cases hd:(decide (x.1.length≤2147483648)&&x.1.all (fun x=>decide (x.2.1.length≤2147483648))) with
   |false=>rw[hd] at hb;cases hb
   |true=>
    rw[hd] at hb;cases hb;simp only[jC,jI,List.all_eq_true] at hd;exact⟨_,he,Ym7 ht (fun w A c hr=>h w A c x.1 hr hd.1 hd.2)⟩
 ·cases he
theorem Yvt (xs:List Ya7.El):PT.rds [.cl .sh (.sl Ya7)] [.cl .sh (.sl Ya7) xs]=some (xs,()):=by rfl
theorem Yvq (xs:List Int):PT.rds [.cl .sh (.sl (.int .i64))] [.cl .sh (.sl (.int .i64)) xs]=some (xs,()):=by rfl
end
section
open Go.RowKit
abbrev Yik:Ty:=.pair .bool (.pair (.int .i64) (.pair (.sl (.int .i64)) .unit))
abbrev Hdr:=Option Addr×Nat×Nat
def hvl (h:Hdr):Value:=.slice h.1 h.2.1 h.2.2
structure Yn9 (w:World) (l:Ya3) (b off:Nat) (hs:Nat→Hdr) (Fs:Nat→Yd) (F:Yd):Prop where
 at1:∀ j (h:j<l.length),w.cell? ⟨b,off+j*2,none⟩=some (.int .i64 l[j].1)
 hd:∀ j (h:j<l.length),w.cell? ⟨b,off+j*2+1,none⟩=some (hvl (hs j))
 rep:∀ j (h:j<l.length),Rep w noB (.sl (.int .i64)) .deep l[j].2.1 (.reg [hvl (hs j)] 0) (Fs j)∧Ye (Fs j) F
 dis:∀ i j,i<j→j<l.length→Dis (Fs i) (Fs j)
 blk:F b
theorem Rep.src {w:World} {l:Ya3} {A:Option Addr} {c:Nat} {F M:Yd} (h:Rep w M (.sl Ya7) .deep l (.reg [.slice A l.length c] 0) F) (hl:0<l.length) :
  ∃ b off hs Fs,A=some ⟨b,off,none⟩∧Yn9 w l b off hs Fs F:=by
 obtain⟨A',c',k1,k2,k3⟩:=h;have k1':some (Value.slice A l.length c)=some (.slice A' l.length c'):=k1;simp only[jD,Value.slice.injEq] at k1';obtain⟨rfl,-,rfl⟩:=k1'
 obtain⟨b,off,Fs,rfl,hF,hroom,he,hd⟩:=k3 (by omega)
 have hput:∀ j,∃ h:Hdr,∀ (hj:j<l.length),w.cell? ⟨b,off+j*2,none⟩=some (.int .i64 l[j].1)∧w.cell? ⟨b,off+j*2+1,none⟩=some (hvl h)∧Rep w noB (.sl (.int .i64)) .deep l[j].2.1 (.reg [hvl h] 0) (Fs j):=by
  intro j
  by_cases hj:j<l.length
  ·obtain⟨G1,G2,r1,⟨G3,G4,r2,-,s3,-,-⟩,s1,s2,-⟩:=(he j hj).1
   have hs:Ya7.size=2:=rfl;have hs1:(Ty.int .i64).size=1:=rfl;have r2:=(Rep.Yd2 (M':=noB) r2).sub (G:=Fs j) (fun x hx=>s2 x (s3 x hx));obtain⟨A',c',t1,t2,t3⟩:=r2;refine⟨(A',l[j].2.1.length,c'),fun _=>⟨?_,?_,A',c',rfl,t2,t3⟩⟩
   ·simp only[Rep,Src.cell,hs] at r1;simpa using r1
   ·simp only[Src.cell,Src.sh,hs,hs1] at t1;simpa [hvl] using t1
  ·exact⟨(none,0,0),fun h=>absurd h hj⟩
 obtain⟨hs,hhs⟩:=Classical.axiomOfChoice hput;exact⟨b,off,hs,Fs,rfl,⟨fun j hj=>(hhs j hj).1,fun j hj=>(hhs j hj).2.1,fun j hj=>⟨(hhs j hj).2.2,(he j hj).2.1⟩,hd,hF⟩⟩
def cellsOf (l:Ya3) (hs:Nat→Hdr):Nat→List Value
 |0=>[]
 |k+1=>cellsOf l hs k++[.bool false,.int .i64 (l.getD k (0,[],())).1,hvl (hs k)]
theorem Yhi (l:Ya3) (hs:Nat→Hdr):∀ k,(cellsOf l hs k).length=k*3
 |0=>rfl
 |k+1=>by simp only[cellsOf,jP,Yhi l hs k,jH,kD];omega
theorem Yiq (l:Ya3) (hs:Nat→Hdr):∀ (k j:Nat),j<k→(cellsOf l hs k)[j*3]? = some (.bool false)∧(cellsOf l hs k)[j*3+1]? = some (.int .i64 (l.getD j (0,[],())).1)∧(cellsOf l hs k)[j*3+2]? = some (hvl (hs j))
 |k+1,j,h=>by
  have hl:=Yhi l hs k
  by_cases e:j=k
  ·subst e
   simp only[cellsOf];refine⟨?_,?_,?_⟩
   ·rw[List.getElem?_append_right (by omega),hl,show j*3-j*3=0 by omega];rfl
   ·rw[List.getElem?_append_right (by omega),hl,show j*3+1-j*3=1 by omega];rfl
   ·rw[List.getElem?_append_right (by omega),hl,show j*3+2-j*3=2 by omega];rfl
  ·obtain⟨h1,h2,h3⟩:=Yiq l hs k j (by omega)
   simp only[cellsOf];refine⟨?_,?_,?_⟩
   ·rw[List.getElem?_append_left (by omega)];exact h1
   ·rw[List.getElem?_append_left (by omega)];exact h2
   ·rw[List.getElem?_append_left (by omega)];exact h3
theorem Yup {w0 w1 W:World} {l:Ya3} {b off:Nat} {hs:Nat→Hdr} {Fs:Nat→Yd} {F:Yd} {e:TypeId} {v:Value} (h01:Below w0.heap.size w0 w1) (hF:Ypa w0 w1 F) (S:0<l.length→Yn9 w1 l b off hs Fs F)
  (hb:Below w1.heap.size w1 W) (ho:W.ownsRow w1.heap.size e 3 v l.length (cellsOf l hs l.length)):Ybp Yik .deep (l.map toStep) w0 (.returned v) W:=by
 obtain⟨-,hv⟩:=ho;rcases hv with ⟨rfl,hn⟩ | ⟨g,cap,cur,rfl,hg,hh,hcap,-,hsz,htake⟩
 ·have hl:l=[]:=kL hn
  subst hl;exact⟨none,0,rfl,h01.trans (hb.mono h01.size),noB,⟨none,0,rfl,jB _,fun h=>absurd rfl h⟩,fun _ h=>h.elim⟩
 ·have hgl:g<W.heap.size:=(Array.getElem?_eq_some_iff.1 hh).1
  have hcell:∀ i,W.cell? ⟨g,i,none⟩=cur[i]?:=fun i=>by unfold World.cell?;rw[hh];rfl
  have hmap:(l.map toStep).length=l.length:=by simp
  have h01s:=h01.size;have hbs:=hb.size
  refine⟨some ⟨g,0,none⟩,cap,by rw[hmap],h01.trans (hb.mono h01.size),fun x=>w0.heap.size≤x∧x<W.heap.size,
   ⟨some ⟨g,0,none⟩,cap,rfl,by rw[hmap];exact hcap,fun hc=>⟨g,0,fun j x=>Fs j x∧j<l.length,rfl,⟨by omega,hgl⟩,fun i hi=>?_,fun j hj=>?_,fun i j hij hj x hx hx'=>?_⟩⟩,fun x h=>h⟩
  ·have hs3:Yik.size=3:=rfl
   rw[hs3] at hi;refine⟨?_,?_⟩
   ·rw[hcell,jJ,Array.getElem?_eq_getElem (by omega)];rfl
   ·unfold World.frozen?;rw[hh];simp
  ·rw[hmap] at hj
   have S:=S (by omega)
   have hs3:Yik.size=3:=rfl;have e1:Ow.deep.elem=Ow.deep:=rfl;obtain⟨c1,c2,c3⟩:=Yiq l hs l.length j hj
   have hget:∀ i u,(cellsOf l hs l.length)[i]? = some u→W.cell? ⟨g,i,none⟩=some u:=fun i u hu=>by
    rw[hcell];rw[←htake,List.getElem?_take] at hu
    split at hu
    ·rw[←Array.getElem?_toList];exact hu
    ·cases hu
   have hlj:l.getD j (0,[],())=l[j]:=by simp[List.getD,hj]
   obtain⟨hr,hrF⟩:=S.rep j hj;have hlt:∀ x,Fs j x→w0.heap.size≤x∧x<w1.heap.size:=fun x hx=>hF x (hrF x hx)
   refine⟨?_,fun x hx=>⟨(hlt x hx.1).1,by have:=(hlt x hx.1).2;omega⟩,fun hx=>by have:=(hlt g hx.1).2;omega⟩
   simp only[kR,toStep,e1];refine⟨noB,fun x=>Fs j x∧j<l.length,?_,⟨noB,fun x=>Fs j x∧j<l.length,?_,⟨fun x=>Fs j x∧j<l.length,noB,?_,trivial,fun _ h=>h,fun _ h=>h.elim,fun _ _ h=>h⟩,fun _ h=>h.elim,fun _ h=>h,fun _ h=>h.elim⟩,fun _ h=>h.elim,fun _ h=>h,fun _ h=>h.elim⟩
   ·show World.cell? _ _=_
    simp only[hs3,jJ,kF];exact hget _ _ c1
   ·show World.cell? _ _=_
    simp only[hs3,jJ,kF,Ty.size];rw[←hlj];exact hget _ _ c2
   ·have h2:=(hr.go (w':=W) (M':=noB) ⟨hbs,fun x hx=>hb.block x (hlt x hx).2,fun x hx hlt=>⟨hb.block x hlt,fun h=>h⟩⟩ (fun i hi=>rfl)).sub (G:=fun x=>Fs j x∧j<l.length) (fun x hx=>⟨hx,hj⟩)
    obtain⟨A',c',t1,t2,t3⟩:=h2.Yd2 (M':=fun x=>w0.heap.size≤x∧x<W.heap.size);have t1':some (hvl (hs j))=some (.slice A' l[j].2.1.length c'):=t1;refine⟨A',c',?_,t2,t3⟩;show World.cell? _ _=_;simp only[Src.sh,hs3,jJ,kF,Ty.size];rw[←t1'];have:=hget _ _ c3
    simpa [kH] using this
  ·rw[hmap] at hj
   exact(S (by omega)).dis i j hij hj x hx.1 hx'.1
theorem Ytv {f:FuncId} (ht:Ya6 P f)
  (h:∀ (w:World) (A:Option Addr) (c:Nat) (l:Ya3),Rep w noB (.sl Ya7) .sh l (.reg [.slice A l.length c] 0) noB→l.length≤1048576→(∀ x∈l,x.2.1.length≤2147483648)→Calls P f #[.slice A l.length c] w (Ybp Yik .deep (l.map toStep) w)) :
  Ycs P f (Ycc [.sh] [.cl .sh (.sl Ya7)] (fun x=>Ygh x.1) fun y=>⟨[.cl .deep (.sl Yik) y],[]⟩):=by
 intro cs R k r he;simp only[Ycc] at he
 split at he
 ·rename_i x hx
  have e:=PT.Yb7 hx;subst e
  cases hb:Ygh x.1 with
  |none=>rw[hb] at he;cases he
  |some t=>
   rw[hb] at he;unfold Ygh at hb
   cases hd:(decide (x.1.length≤1048576)&&x.1.all (fun x=>decide (x.2.1.length≤2147483648))) with
   |false=>rw[hd] at hb;cases hb
   |true=>
    rw[hd] at hb;cases hb;simp only[jC,jI,List.all_eq_true] at hd;exact⟨_,he,Ym7 ht (fun w A c hr=>h w A c x.1 hr hd.1 hd.2)⟩
 ·cases he
end
section
open Go.RowKit
structure OnlyC (w W:World) (S:Nat→Nat→Prop):Prop where
 os:W.os=w.os
 tape:W.tape=w.tape
 output:W.output=w.output
 size:w.heap.size≤W.heap.size
 blk:∀ b,b<w.heap.size→(∀ i,¬ S b i)→W.heap[b]? = w.heap[b]?
 cell:∀ b i,b<w.heap.size→¬ S b i→W.cell? ⟨b,i,none⟩=w.cell? ⟨b,i,none⟩
 frz:∀ b i,b<w.heap.size→W.frozen? ⟨b,i,none⟩=w.frozen? ⟨b,i,none⟩
theorem OnlyC.refl (w:World) (S:Nat→Nat→Prop):OnlyC w w S:=⟨rfl,rfl,rfl,jB _,fun _ _ _=>rfl,fun _ _ _ _=>rfl,fun _ _ _=>rfl⟩
theorem OnlyC.alloc {w W:World} {S:Nat→Nat→Prop} (h:OnlyC w W S) (o:Obj):OnlyC w (W.alloc o) S:=by
 have hb:Below W.heap.size W (W.alloc o):=(Below.refl _ W).alloc (jB _) o;have hs:=h.size
 exact⟨hb.os.trans h.os,hb.tape.trans h.tape,hb.output.trans h.output,jU h.size hb.size,fun b hb' hS=>(hb.block b (by omega)).trans (h.blk b hb' hS),
  fun b i hb' hS=>(hb.cell (p:=⟨b,i,none⟩) (by show b<_;omega)).trans (h.cell b i hb' hS),fun b i hb'=>(hb.frozen (p:=⟨b,i,none⟩) (by show b<_;omega)).trans (h.frz b i hb')⟩
theorem OnlyC.drew {w W:World} {S:Nat→Nat→Prop} (h:OnlyC w W S):OnlyC w W.drew S:=⟨h.os,h.tape,h.output,h.size,h.blk,h.cell,h.frz⟩
theorem OnlyC.set {w W:World} {S:Nat→Nat→Prop} (h:OnlyC w W S) {b i:Nat} (v:Value) (hS:S b i):OnlyC w (W.setCell ⟨b,i,none⟩ v) S:=by
 refine⟨h.os,h.tape,h.output,by simpa [World.setCell] using h.size,fun x hx hn=>?_,fun x j hx hn=>?_,fun x j hx=>?_⟩
 ·rw[Below.heap_setCell _ _ _ _ (fun e=>hn i (by subst e;exact hS))];exact h.blk x hx hn
 ·rw[World.cell?_setCell_other (h:=fun e=>hn (by cases e;exact hS))];exact h.cell x j hx hn
 ·rw[World.frozen?_setCell];exact h.frz x j hx
theorem OnlyC.mono {w W:World} {S S':Nat→Nat→Prop} (h:OnlyC w W S) (hs:∀ b i,S b i→S' b i):OnlyC w W S':=
 ⟨h.os,h.tape,h.output,h.size,fun b hb hn=>h.blk b hb (fun i x=>hn i (hs _ _ x)),fun b i hb hn=>h.cell b i hb (fun x=>hn (hs _ _ x)),h.frz⟩
def Ymc (bB oB nB:Nat) (b i:Nat):Prop:=b=bB∧oB≤i∧i<oB+nB
structure FI (w W:World) (bB oB nB:Nat) (src:Nat→Hdr):Prop where
 only:OnlyC w W (Ymc bB oB nB)
 at1:∀ j,j<nB→W.cell? ⟨bB,oB+j,none⟩=some (hvl (src j))
theorem FI.alloc {w W:World} {bB oB nB:Nat} {src:Nat→Hdr} (h:FI w W bB oB nB src) (hb:0<nB→bB<w.heap.size) (o:Obj):FI w (W.alloc o) bB oB nB src:=
 ⟨h.only.alloc o,fun j hj=>(((Below.refl _ W).alloc (jB _) o).cell (p:=⟨bB,_,none⟩) (jX (hb (by omega)) h.only.size)).trans (h.at1 j hj)⟩
theorem FI.drew {w W:World} {bB oB nB:Nat} {src:Nat→Hdr} (h:FI w W bB oB nB src):FI w W.drew bB oB nB src:=⟨h.only.drew,h.at1⟩
theorem FI.set {w W:World} {bB oB nB:Nat} {src:Nat→Hdr} (h:FI w W bB oB nB src) {a:Nat} (ha:a<nB) (x:Hdr):FI w (W.setCell ⟨bB,oB+a,none⟩ (hvl x)) bB oB nB (fun j=>if j=a then x else src j):=by
 refine⟨h.only.set _ ⟨rfl,by omega,by omega⟩,fun j hj=>?_⟩
 by_cases e:j=a
 ·subst e
  rw[jL rfl]
  exact World.cell?_setCell_same' _ _ _ (by rw[h.at1 j hj];rfl)
 ·rw[jM e,World.cell?_setCell_other (h:=fun e'=>e (by have:=congrArg Addr.off e';simp at this;omega))]
  exact h.at1 j hj
def Yed (at_:Nat→Nat) (hc:Nat→Hdr) (pick:Nat→Bool) (hb:Nat→Hdr):Nat→Nat→Hdr
 |0=>hb
 |k+1=>fun j=>if pick k=true then(if j=at_ k then hc k else Yed at_ hc pick hb k j) else Yed at_ hc pick hb k j
theorem Yur {at_:Nat→Nat} {hc:Nat→Hdr} {pick:Nat→Bool} {hb:Nat→Hdr} {k:Nat} (h:pick k=true):Yed at_ hc pick hb (k+1)=fun j=>if j=at_ k then hc k else Yed at_ hc pick hb k j:=by
 funext j;simp only[Yed,jL h]
end
section
open Go.RowKit
def Yd1 (ps:Ya3) (pick:Nat→Bool) (j:Nat):Nat→Option Nat
 |0=>none
 |k+1=>if pick k=true∧(ps.getD k (0,[],())).1.toNat=j then some k else Yd1 ps pick j k
theorem Yd9 {ps:Ya3} {pick:Nat→Bool} {j:Nat}:∀ {k i:Nat},Yd1 ps pick j k=some i→i<k∧(ps.getD i (0,[],())).1.toNat=j
 |k+1,i,h=>by
  unfold Yd1 at h
  split at h
  ·rename_i hh;cases h;exact⟨by omega,hh.2⟩
  ·have:=Yd9 h;exact⟨by omega,this.2⟩
theorem Yio {ps:Ya3} {at_:Nat→Nat} {hc:Nat→Hdr} {pick:Nat→Bool} {hb:Nat→Hdr} (ha:∀ k,k<ps.length→at_ k=(ps.getD k (0,[],())).1.toNat) (j:Nat):∀ k,k≤ps.length→
  Yed at_ hc pick hb k j=match Yd1 ps pick j k with | some i=>hc i | none=>hb j
 |0,_=>rfl
 |k+1,hk=>by
  have ih:=Yio (hc:=hc) (pick:=pick) (hb:=hb) ha j k (by omega)
  have hak:=ha k (by omega)
  simp only[Yed,Yd1]
  by_cases hp:pick k=true
  ·by_cases he:j=at_ k
   ·rw[jL hp,jL he,jL ⟨hp,by rw[←hak];exact he.symm⟩]
   ·rw[jL hp,jM he,jM (fun h=>he (by rw[hak];exact h.2.symm)),ih]
  ·rw[jM hp,jM (fun h=>hp h.1),ih]
theorem Ydj (bs:List (List Int)) (ps:Ya3) (pick:Nat→Bool):∀ k,(Yb0 bs ps pick k).length=bs.length
 |0=>rfl
 |k+1=>by
  simp only[Yb0]
  split
  ·rw[kC,Ydj bs ps pick k]
  ·exact Ydj bs ps pick k
theorem Ykb (bs:List (List Int)) (ps:Ya3) (pick:Nat→Bool) (j:Nat) (hj:j<bs.length):∀ k,
  (Yb0 bs ps pick k).getD j []=match Yd1 ps pick j k with | some i=>(ps.getD i (0,[],())).2.1 | none=>bs.getD j []
 |0=>rfl
 |k+1=>by
  have ih:=Ykb bs ps pick j hj k;have hl:=Ydj bs ps pick k;simp only[Yb0,Yd1]
  by_cases hp:pick k=true
  ·rw[jL hp]
   by_cases he:(ps.getD k (0,[],())).1.toNat=j
   ·rw[jL ⟨hp,he⟩]
    subst he
    rw[kT,List.getElem?_set_self (by rw[hl];exact hj)];rfl
   ·rw[jM (fun h=>he h.2)]
    rw[←ih,kT,List.getElem?_set_ne he,kT]
  ·rw[jM hp,jM (fun h=>hp h.1),ih]
structure Yor (w:World) (bs:List (List Int)) (ps:Ya3) (bd od:Nat) (F:Yd) (A C:Option Addr) (bB oB bC oC cB cC:Nat) (hb hc:Nat→Hdr) (FB FC:Nat→Yd):Prop where
 a1:w.cell? ⟨bd,od,none⟩=some (.slice A bs.length cB)
 a2:w.cell? ⟨bd,od+1,none⟩=some (.slice C ps.length cC)
 a3:bs.length≤cB
 A0:cB≠0→A=some ⟨bB,oB,none⟩∧F bB∧Room w bB oB cB
 C0:0<ps.length→C=some ⟨bC,oC,none⟩∧F bC∧(cB≠0→bC≠bB)
 eB:∀ j (h:j<bs.length),w.cell? ⟨bB,oB+j,none⟩=some (hvl (hb j))∧Rep w noB (.sl (.int .i64)) .deep bs[j] (.reg [hvl (hb j)] 0) (FB j)∧Ye (FB j) F∧¬ FB j bB
 eC:∀ j (h:j<ps.length),w.cell? ⟨bC,oC+j*2,none⟩=some (.int .i64 ps[j].1)∧w.cell? ⟨bC,oC+j*2+1,none⟩=some (hvl (hc j))∧Rep w noB (.sl (.int .i64)) .deep ps[j].2.1 (.reg [hvl (hc j)] 0) (FC j)∧Ye (FC j) F∧(cB≠0→¬ FC j bB)
 dB:∀ i j,i<j→j<bs.length→Dis (FB i) (FB j)
 dC:∀ i j,i<j→j<ps.length→Dis (FC i) (FC j)
 dX:∀ i j,i<bs.length→j<ps.length→Dis (FB i) (FC j)
theorem Yrk {w:World} {M F:Yd} {bs:List (List Int)} {ps:Ya3} {bd od:Nat} (h:Rep w M Y6 .deep (bs,ps,()) (.mem bd od) F) :
  ∃ A C bB oB bC oC cB cC hb hc FB FC,Yor w bs ps bd od F A C bB oB bC oC cB cC hb hc FB FC:=by
 obtain⟨F1,F2,hB,⟨F3,F4,hP,-,s3,-,-⟩,s1,s2,d12⟩:=h;obtain⟨A,cB,a1,a2,a3⟩:=hB;have hPs:=hP;obtain⟨C,cC,c1,c2,c3⟩:=hP;replace a2:bs.length≤cB:=a2;replace c2:ps.length≤cC:=c2
 have a1':w.cell? ⟨bd,od,none⟩=some (.slice A bs.length cB):=by simpa [Src.cell] using a1
 have c1':w.cell? ⟨bd,od+1,none⟩=some (.slice C ps.length cC):=by simpa [Src.cell,Src.sh,Ty.size] using c1
 have hBx:∃ (bB oB:Nat) (FB:Nat→Yd),(cB≠0→A=some ⟨bB,oB,none⟩∧F1 bB∧Room w bB oB cB∧(∀ j (h:j<bs.length),Rep w M (.sl (.int .i64)) .deep bs[j] (.mem bB (oB+j)) (FB j)∧Ye (FB j) F1∧¬ FB j bB)∧∀ i j,i<j→j<bs.length→Dis (FB i) (FB j)):=by
  by_cases hz:cB=0
  ·exact⟨0,0,fun _=>noB,fun h=>absurd hz h⟩
  ·obtain⟨b,off,Fs,e1,e2,e3,e4,e5⟩:=a3 hz
   have hs:(Ty.sl (.int .i64)).size=1:=rfl
   exact⟨b,off,Fs,fun _=>⟨e1,e2,by simpa [hs] using e3,fun j hj=>by
    have:=e4 j hj;have e1:Ow.deep.elem=Ow.deep:=rfl;rw[e1] at this
    simpa [hs] using this,e5⟩⟩
 obtain⟨bB,oB,FB,hBx⟩:=hBx
 have hCx:∃ (bC oC:Nat) (hc:Nat→Hdr) (FC:Nat→Yd),(0<ps.length→C=some ⟨bC,oC,none⟩∧Yn9 w ps bC oC hc FC F3):=by
  by_cases hz:0<ps.length
  ·have h2:Rep w M (.sl Ya7) .deep ps (.reg [.slice C ps.length cC] 0) F3:=⟨C,cC,rfl,c2,c3⟩
   obtain⟨b,off,hs,Fs,e1,e2⟩:=h2.src hz;exact⟨b,off,hs,Fs,fun _=>⟨e1,e2⟩⟩
  ·exact⟨0,0,fun _=>(none,0,0),fun _=>noB,fun h=>absurd h hz⟩
 obtain⟨bC,oC,hc,FC,hCx⟩:=hCx
 have hput:∀ j,∃ x:Hdr,∀ (hj:j<bs.length),w.cell? ⟨bB,oB+j,none⟩=some (hvl x)∧Rep w noB (.sl (.int .i64)) .deep bs[j] (.reg [hvl x] 0) (FB j):=by
  intro j
  by_cases hj:j<bs.length
  ·obtain⟨A',c',t1,t2,t3⟩:=Rep.Yd2 (M':=noB) ((hBx (by omega)).2.2.2.1 j hj).1
   exact⟨(A',bs[j].length,c'),fun _=>⟨by simpa [Src.cell,hvl] using t1,A',c',rfl,t2,t3⟩⟩
  ·exact⟨(none,0,0),fun h=>absurd h hj⟩
 obtain⟨hb,hhb⟩:=Classical.axiomOfChoice hput;refine⟨A,C,bB,oB,bC,oC,cB,cC,hb,hc,FB,FC,a1',c1',a2,fun h=>⟨(hBx h).1,s1 _ (hBx h).2.1,(hBx h).2.2.1⟩,fun h=>⟨(hCx h).1,s2 _ (s3 _ (hCx h).2.blk),fun hz e=>?_⟩,fun j hj=>?_,fun j hj=>?_,fun i j hij hj=>?_,fun i j hij hj=>?_,fun i j hi hj x hx hx'=>?_⟩
 ·exact d12 bB (hBx hz).2.1 (e▸s3 _ (hCx h).2.blk)
 ·have hx:=(hBx (by omega)).2.2.2.1 j hj
  exact⟨(hhb j hj).1,(hhb j hj).2,fun x h=>s1 _ (hx.2.1 x h),hx.2.2⟩
 ·have S:=(hCx (by omega)).2
  exact⟨S.at1 j hj,S.hd j hj,(S.rep j hj).1,fun x h=>s2 _ (s3 _ ((S.rep j hj).2 x h)),fun hz h=>d12 bB (hBx hz).2.1 (s3 _ ((S.rep j hj).2 _ h))⟩
 ·exact(hBx (by omega)).2.2.2.2 i j hij hj
 ·exact(hCx (by omega)).2.dis i j hij hj
 ·exact d12 x (((hBx (by omega)).2.2.2.1 i hi).2.1 x hx) (s3 _ (((hCx (by omega)).2.rep j hj).2 x hx'))
theorem Ypj {w W1:World} {M F:Yd} {bs:List (List Int)} {ps:Ya3} {bd od:Nat} {A C:Option Addr} {bB oB bC oC cB cC:Nat} {hb hc:Nat→Hdr} {FB FC:Nat→Yd} (D:Yor w bs ps bd od F A C bB oB bC oC cB cC hb hc FB FC)
  {pick:Nat→Bool} (hF:∀ x,F x→x<w.heap.size∧x≠bd) (hbd:bd<w.heap.size)
  (I:FI w W1 bB oB bs.length (Yed (fun k=>(ps.getD k (0,[],())).1.toNat) hc pick hb ps.length)) :
  Rep (W1.setCell ⟨bd,od+1,none⟩ (.slice none 0 0)) M Y6 .deep (Yb0 bs ps pick ps.length,[],()) (.mem bd od) F:=by
 have hin:∀ i,¬ Ymc bB oB bs.length bd i:=fun i h=>(hF _ (D.A0 (by have:=h.2;have:=D.a3;omega)).2.1).2 h.1.symm
 have hsome:(W1.cell? ⟨bd,od+1,none⟩).isSome=true:=by rw[I.only.cell bd _ hbd (hin _),D.a2];rfl
 have c0:(W1.setCell ⟨bd,od+1,none⟩ (.slice none 0 0)).cell? ⟨bd,od,none⟩=some (.slice A bs.length cB):=by
  rw[World.cell?_setCell_other (h:=fun e=>by have:=congrArg Addr.off e;simp at this),I.only.cell bd _ hbd (hin _)];exact D.a1
 have c1:(W1.setCell ⟨bd,od+1,none⟩ (.slice none 0 0)).cell? ⟨bd,od+1,none⟩=some (.slice none 0 0):=World.cell?_setCell_same' _ _ _ hsome;have hml:(Yb0 bs ps pick ps.length).length=bs.length:=Ydj _ _ _ _
 have hsame:∀ x,F x→(cB≠0→x≠bB)→Same w (W1.setCell ⟨bd,od+1,none⟩ (.slice none 0 0)) x:=fun x hx hne=>by
  have h1:=hF x hx
  refine(Below.heap_setCell _ _ _ _ h1.2).trans (I.only.blk x h1.1 (fun i h=>hne (by have:=h.2;have:=D.a3;omega) h.1))
 refine⟨F,noB,⟨A,cB,?_,by rw[hml];exact D.a3,fun hc0=>?_⟩,⟨noB,noB,⟨none,0,?_,jB _,fun h=>absurd rfl h⟩,trivial,fun _ h=>h,fun _ h=>h,fun _ h=>h.elim⟩,fun _ h=>h,fun _ h=>h.elim,fun _ _ h=>h⟩
 ·rw[hml];simpa [Src.cell] using c0
 ·obtain⟨rfl,hbF,hroom⟩:=D.A0 hc0
  have hbB:=hF bB hbF;have hs:(Ty.sl (.int .i64)).size=1:=rfl
  refine⟨bB,oB,fun j x=>(match Yd1 ps pick j ps.length with | some i=>FC i x | none=>FB j x)∧j<bs.length,rfl,hbF,?_,fun j hj=>?_,fun i j hij hj x hx hx'=>?_⟩
  ·refine Yfh (fun i hi=>?_)
   rw[hs,Nat.mul_one] at hi;rw[I.only.frz bB _ hbB.1];refine⟨?_,(hroom i hi).2⟩
   by_cases h:i<bs.length
   ·rw[I.at1 i h];rfl
   ·rw[I.only.cell bB _ hbB.1 (fun h'=>by have:=h'.2;omega)];exact(hroom i hi).1
  ·rw[hml] at hj
   have e1:Ow.deep.elem=Ow.deep:=rfl
   have hcell:(W1.setCell ⟨bd,od+1,none⟩ (.slice none 0 0)).cell? ⟨bB,oB+j,none⟩=some (hvl (Yed (fun k=>(ps.getD k (0,[],())).1.toNat) hc pick hb ps.length j)):=by
    rw[World.cell?_setCell_other (h:=fun e=>hbB.2 (congrArg Addr.block e).symm)];exact I.at1 j hj
   have hsrc:=Yio (ps:=ps) (hc:=hc) (pick:=pick) (hb:=hb) (at_:=fun k=>(ps.getD k (0,[],())).1.toNat) (fun k _=>rfl) j ps.length (jB _)
   have hel:(Yb0 bs ps pick ps.length)[j]'(by rw[hml];exact hj)=(Yb0 bs ps pick ps.length).getD j []:=by simp[List.getD,hml,hj]
   have hmv:=Ykb bs ps pick j hj ps.length;rw[hel,hmv,e1,hs,Nat.mul_one];rw[hsrc] at hcell
   have bring:∀ (words:List Int) (h:Hdr) (Fx:Yd),Rep w noB (.sl (.int .i64)) .deep words (.reg [hvl h] 0) Fx→Ye Fx F→¬ Fx bB→(W1.setCell ⟨bd,od+1,none⟩ (.slice none 0 0)).cell? ⟨bB,oB+j,none⟩=some (hvl h)→
     Rep (W1.setCell ⟨bd,od+1,none⟩ (.slice none 0 0)) M (.sl (.int .i64)) .deep words (.mem bB (oB+j)) Fx:=by
    intro words h Fx hr hsub hnb hcl
    have h2:Rep (W1.setCell ⟨bd,od+1,none⟩ (.slice none 0 0)) (fun x=>x=bB∨x=bd) (.sl (.int .i64)) .deep words (.reg [hvl h] 0) Fx:=
     (hr.Yd2 (M':=fun x=>x=bB∨x=bd)).go ⟨by simpa [World.setCell] using I.only.size,fun x hx=>hsame x (hsub x hx) (fun _ e=>hnb (e▸hx)),fun x hx hlt=>⟨(Below.heap_setCell _ _ _ _ (fun e=>hx (.inr e))).trans (I.only.blk x hlt (fun i h=>hx (.inl h.1))),hx⟩⟩ (fun i hi=>rfl)
    obtain⟨A',c',t1,t2,t3⟩:=h2.Yd2 (M':=M);have t1':some (hvl h)=some (.slice A' words.length c'):=t1;refine⟨A',c',?_,t2,t3⟩;show World.cell? _ _=_;rw[kF,←t1'];exact hcl
   cases hlp:Yd1 ps pick j ps.length with
   |some i=>
    rw[hlp] at hcell;obtain⟨hi,-⟩:=Yd9 hlp;obtain⟨-,-,r1,r2,r3⟩:=D.eC i hi
    have hg:ps.getD i (0,[],())=ps[i]:=by simp[List.getD,hi]
    simp only[hg]
    exact⟨(bring _ _ _ r1 r2 (r3 hc0) hcell).sub (fun x hx=>⟨by rw[hlp];exact hx,hj⟩),fun x hx=>r2 x (by have:=hx.1;rw[hlp] at this;exact this),fun hx=>r3 hc0 (by have:=hx.1;rw[hlp] at this;exact this)⟩
   |none=>
    rw[hlp] at hcell;obtain⟨-,r1,r2,r3⟩:=D.eB j hj
    have hg:bs.getD j []=bs[j]:=by simp[List.getD,hj]
    simp only[hg]
    exact⟨(bring _ _ _ r1 r2 r3 hcell).sub (fun x hx=>⟨by rw[hlp];exact hx,hj⟩),fun x hx=>r2 x (by have:=hx.1;rw[hlp] at this;exact this),fun hx=>r3 (by have:=hx.1;rw[hlp] at this;exact this)⟩
  ·rw[hml] at hj
   have hx:=hx.1;have hx':=hx'.1
   cases h1:Yd1 ps pick i ps.length with
   |some a=>
    obtain⟨ha,ha'⟩:=Yd9 h1;rw[h1] at hx
    cases h2:Yd1 ps pick j ps.length with
    |some b=>
     obtain⟨hb',hb''⟩:=Yd9 h2;rw[h2] at hx';rcases Nat.lt_trichotomy a b with hab | hab | hab
     ·exact D.dC a b hab hb' x hx hx'
     ·subst hab;omega
     ·exact D.dC b a hab ha x hx' hx
    |none=>
     rw[h2] at hx'
     exact D.dX j a hj ha x hx' hx
   |none=>
    rw[h1] at hx
    cases h2:Yd1 ps pick j ps.length with
    |some b=>
     obtain⟨hb',-⟩:=Yd9 h2;rw[h2] at hx'
     exact D.dX i b (by omega) hb' x hx hx'
    |none=>
     rw[h2] at hx';exact D.dB i j hij hj x hx hx'
 ·simpa [Src.cell,Src.sh,Ty.size] using c1
end
section
open Go.RowKit
theorem Yqz {C:Cx} {cs:List TV} {d d':Y6.El} {W W1:World} {bd od bB oB nB:Nat} (I:Str Z (Yi Z.w (Mt Z C (Yh cs).root noB) C.L (Yh cs).root) C noB (Yh cs).root Z.w)
  (hR:(Yh cs).root 0=some ⟨.mem,.cl .deep Y6 d⟩) (hR':∀ r R,(Yh cs).root r=some R→r=0) (hL:C.L 0=.mem bd od) (hO:OnlyC Z.w W1 (Ymc bB oB nB)) (hnB:0<nB→C.F 0 bB)
  (hW:W=W1.setCell ⟨bd,od+1,none⟩ (.slice none 0 0)) (hrep:∀ M,Rep W M Y6 .deep d' (.mem bd od) (C.F 0)) :
  Str Z (Yi W (Mt Z C (fun r=>if r=0 then some ⟨.mem,.cl .deep Y6 d'⟩ else none) noB) C.L (fun r=>if r=0 then some ⟨.mem,.cl .deep Y6 d'⟩ else none)) C noB (fun r=>if r=0 then some ⟨.mem,.cl .deep Y6 d'⟩ else none) W:=by
 obtain⟨b,off,e1,m1,m2,m3,m4,m5,m6⟩:=I.mem 0 _ hR rfl;rw[hL] at e1;cases e1
 have hone:∀ r R,(if r=0 then some (⟨.mem,.cl .deep Y6 d'⟩:Root) else none)=some R→r=0∧R=⟨.mem,.cl .deep Y6 d'⟩:=fun r R h=>by
  split at h
  ·cases h;exact⟨by assumption,rfl⟩
  ·cases h
 have hsz:Z.w.heap.size≤W.heap.size:=by rw[hW];simpa [World.setCell] using hO.size
 have hfz:∀ b i,b<Z.w.heap.size→W.frozen? ⟨b,i,none⟩=Z.w.frozen? ⟨b,i,none⟩:=fun b i hb=>by rw[hW,World.frozen?_setCell];exact hO.frz b i hb
 have hcell:∀ b i,b<Z.w.heap.size→¬ Ymc bB oB nB b i→¬ (b=bd∧i=od+1)→W.cell? ⟨b,i,none⟩=Z.w.cell? ⟨b,i,none⟩:=fun b i hb h1 h2=>by
  rw[hW,World.cell?_setCell_other (h:=fun e=>h2 (by cases e;exact⟨rfl,rfl⟩))];exact hO.cell b i hb h1
 have hnot:∀ i,¬ Ymc bB oB nB bd i:=fun i h=>m1 (h.1▸hnB (by have:=h.2;omega))
 refine⟨fun r R h=>?_,fun r R h hk=>?_,fun r R h hk=>?_,fun r R b h hb=>?_,fun _ h=>h.elim,fun r r' R R' hne h h'=>?_,fun r R h=>fun _ _ h=>h.elim,fun r R h=>?_,hsz,fun b hb hM=>?_,fun b i hk=>?_,fun b i j hk=>?_,I.xb,I.kb,?_,?_,?_⟩
 ·obtain⟨rfl,rfl⟩:=hone r R h
  show Rep W _ Y6 .deep d' (C.L 0) (C.F 0);rw[hL];exact hrep _
 ·obtain⟨rfl,rfl⟩:=hone r R h;cases hk
 ·obtain⟨rfl,rfl⟩:=hone r R h
  refine⟨bd,od,hL,m1,jX m2 hsz,fun i hi=>?_,m4,m5,m6⟩;have hi:i<2:=hi;have hr:=m3 i hi;rw[hfz bd _ m2];refine⟨?_,hr.2⟩
  by_cases e:i=1
  ·subst e
   rw[hW,World.cell?_setCell_same' _ _ _ (by rw[hO.cell bd _ m2 (hnot _)];exact hr.1)];rfl
  ·rw[hcell bd _ m2 (hnot _) (fun h=>e (by omega))];exact hr.1
 ·obtain⟨rfl,rfl⟩:=hone r R h
  obtain⟨b1,b2,b3,b4⟩:=I.bnd 0 _ b hR hb;exact⟨jX b1 hsz,b2,b3,b4⟩
 ·obtain⟨rfl,-⟩:=hone r R h
  obtain⟨rfl,-⟩:=hone r' R' h';exact absurd rfl hne
 ·obtain⟨rfl,rfl⟩:=hone r R h
  exact I.plc 0 ⟨.mem,.cl .deep Y6 d⟩ hR
 ·have n1:b≠bd:=fun e=>hM ((e▸m6).resolve_right (by omega))
  refine(?_:W.heap[b]? = Z.w.heap[b]?);rw[hW,Below.heap_setCell _ _ _ _ n1];refine hO.blk b hb (fun i h=>?_)
  have hF:=hnB (by have:=h.2;omega)
  obtain⟨b1,b2,b3,b4⟩:=I.bnd 0 _ bB hR hF
  exact hM (h.1▸b4.resolve_right (by omega))
 ·refine hcell b i (I.kb b i hk) (fun h=>?_) (fun h=>?_)
  ·have hF:=hnB (by have:=h.2;omega)
   exact(I.bnd 0 _ bB hR hF).2.1 i (h.1▸hk)
  ·obtain⟨rfl,rfl⟩:=h
   exact m4 1 (show 1<2 by omega) hk
 ·exact hfz b j (I.kb b i hk)
 ·rw[hW];exact hO.os
 ·rw[hW];exact hO.tape
 ·rw[hW];exact hO.output
theorem Yn2 {f:FuncId} (ht:Ya6 P f)
  (h:∀ (w:World) (A C:Option Addr) (bd od bB oB bC oC nB cB nC cC:Nat) (at_:Nat→Nat) (hc hb:Nat→Hdr),bd<w.heap.size→(0<nB→A=some ⟨bB,oB,none⟩∧bB<w.heap.size∧bd≠bB)→(0<nC→C=some ⟨bC,oC,none⟩∧bC<w.heap.size∧bC≠bB)→
   w.cell? ⟨bd,od,none⟩=some (.slice A nB cB)→w.cell? ⟨bd,od+1,none⟩=some (.slice C nC cC)→w.frozen? ⟨bd,od+1,none⟩=false→(∀ j,j<nB→w.cell? ⟨bB,oB+j,none⟩=some (hvl (hb j))∧w.frozen? ⟨bB,oB+j,none⟩=false)→
   (∀ j,j<nC→w.cell? ⟨bC,oC+j*2,none⟩=some (.int .i64 (at_ j))∧w.cell? ⟨bC,oC+j*2+1,none⟩=some (hvl (hc j))∧at_ j<nB)→nC≤1152921504606846976→
   Calls P f #[.pointer (some ⟨bd,od,none⟩)] w fun e W=>e=.returned (.tuple #[])∧∃ W1,FI w W1 bB oB nB (Yed at_ hc (fun _=>true) hb nC)∧W=W1.setCell ⟨bd,od+1,none⟩ (.slice none 0 0))
  (d d':Y6.El) (hd:Yk0 d=some d'):Ycf P f [.mu] [.op (.cl .deep Y6 d)] ⟨[],[.op (.cl .deep Y6 d')]⟩ where
 there:=ht
 calls:=by
  intro Z C us hl hnt hP1 hP2 I;obtain⟨bs,ps,_⟩:=d;have hus:us.size=1:=hl;have hR:(Yh [.op (.cl .deep Y6 (bs,ps,()))]).root 0=some ⟨.mem,.cl .deep Y6 (bs,ps,())⟩:=rfl
  have hR':∀ r R,(Yh [.op (.cl .deep Y6 (bs,ps,()))]).root r=some R→r=0:=by
   intro r R hr
   by_cases e:r=0
   ·exact e
   ·rw[Yau,List.getElem?_eq_none (by simp;omega)] at hr;cases hr
  obtain⟨bd,od,hL,m1,m2,m3,m4,m5,m6⟩:=I.str.mem 0 _ hR rfl;have hrep:Rep Z.w _ Y6 .deep (bs,ps,()) (C.L 0) (C.F 0):=I.str.rep 0 _ hR;rw[hL] at hrep;have h0:Yb _ _ _ _ (.loc 0 []) ((⟨us,[]⟩:Act).tmps.getD 0 undef):=I.tm 0 (.loc 0 []) rfl;obtain⟨R,b,off,q1,q2,q3⟩:=h0.leaf rfl;rw[hR] at q1;cases q1;rw[Yf,hL] at q2;cases q2
  have hus2:us=#[.pointer (some ⟨bd,od,none⟩)]:=by
   apply Array.ext (by simp[hus])
   intro i h4 h5
   have:i=0:=by omega
   subst this;have:us.getD 0 undef=.pointer (some ⟨bd,od,none⟩):=q3
   simpa [Array.getD,h4] using this
  rw[hus2];simp only[Yk0] at hd
  cases hcond:(decide (ps.length≤1152921504606846976)&&ps.all (fun p=>inB p.1 bs.length)) with
  |false=>rw[hcond] at hd;cases hd
  |true=>
   rw[hcond] at hd;cases hd;simp only[jC,jI,List.all_eq_true] at hcond;obtain⟨hlen,hrng⟩:=hcond;obtain⟨A,Cc,bB,oB,bC,oC,cB,cC,hb,hc,FB,FC,D⟩:=Yrk hrep;have hFb:∀ x,C.F 0 x→x<Z.w.heap.size∧x≠bd:=fun x hx=>⟨(I.str.bnd 0 _ x hR hx).1,fun e=>m1 (e▸hx)⟩
   have hr2:=m3 1 (show 1<2 by omega)
   refine(h Z.w A Cc bd od bB oB bC oC bs.length cB ps.length cC (fun k=>(ps.getD k (0,[],())).1.toNat) hc hb m2 (fun hn=>?_) (fun hn=>?_) D.a1 D.a2 hr2.2 (fun j hj=>?_) (fun j hj=>?_) hlen).mono ?_
   ·have h3:=D.A0 (by have:=D.a3;omega)
    exact⟨h3.1,(hFb _ h3.2.1).1,(hFb _ h3.2.1).2.symm⟩
   ·have h3:=D.C0 hn
    have hp:inB ps[0].1 bs.length=true:=hrng _ (jE hn);simp only[inB,jC,jI] at hp
    exact⟨h3.1,(hFb _ h3.2.1).1,h3.2.2 (by have:=D.a3;omega)⟩
   ·have h3:=D.A0 (by have:=D.a3;omega)
    exact⟨(D.eB j hj).1,(h3.2.2 j (by have:=D.a3;omega)).2⟩
   ·have hp:inB ps[j].1 bs.length=true:=hrng _ (jE hj)
    simp only[inB,jC,jI] at hp
    have hg:ps.getD j (0,[],())=ps[j]:=by simp[List.getD,hj]
    obtain⟨e1,e2,-⟩:=D.eC j hj;simp only[hg]
    exact⟨by rw[e1];congr 2;omega,e2,by omega⟩
   ·rintro e W ⟨rfl,W1,hFI,rfl⟩
    have hnew:=fun M=>Ypj (M:=M) D hFb m2 hFI
    refine⟨_,rfl,C,noB,fun r=>if r=0 then some ⟨.mem,.cl .deep Y6 (Yb0 bs ps (fun _=>true) ps.length,[],())⟩ else none,noB,?_,⟨⟨_,rfl,rfl⟩,trivial⟩,fun _ h=>h,rfl,rfl,rfl⟩
    exact Yqz I.str hR hR' hL hFI.only (fun hn=>(D.A0 (by have:=D.a3;omega)).2.1) rfl hnew
theorem Yu6 {f:FuncId} (ht:Ya6 P f)
  (h:∀ (w:World) (A C:Option Addr) (bd od bB oB bC oC nB cB nC cC:Nat) (at_:Nat→Nat) (hc hb:Nat→Hdr),bd<w.heap.size→(0<nB→A=some ⟨bB,oB,none⟩∧bB<w.heap.size∧bd≠bB)→(0<nC→C=some ⟨bC,oC,none⟩∧bC<w.heap.size∧bC≠bB)→
   w.cell? ⟨bd,od,none⟩=some (.slice A nB cB)→w.cell? ⟨bd,od+1,none⟩=some (.slice C nC cC)→w.frozen? ⟨bd,od+1,none⟩=false→(∀ j,j<nB→w.cell? ⟨bB,oB+j,none⟩=some (hvl (hb j))∧w.frozen? ⟨bB,oB+j,none⟩=false)→
   (∀ j,j<nC→w.cell? ⟨bC,oC+j*2,none⟩=some (.int .i64 (at_ j))∧w.cell? ⟨bC,oC+j*2+1,none⟩=some (hvl (hc j))∧at_ j<nB)→nC≤1152921504606846976→
   Calls P f #[.pointer (some ⟨bd,od,none⟩)] w fun e W=>e=.returned (.tuple #[])∧∃ W1,FI w W1 bB oB nB (Yed at_ hc (fun _=>true) hb nC)∧W=W1.setCell ⟨bd,od+1,none⟩ (.slice none 0 0)) :
  Ycs P f (Ycc [.mu] [.op (.cl .deep Y6)] (fun x=>Yk0 x.1) fun y=>⟨[],[.op (.cl .deep Y6 y)]⟩):=by
 intro cs R k r he;simp only[Ycc] at he
 split at he
 ·rename_i x hx
  have e:=PT.Yb7 hx;subst e
  cases hb:Yk0 x.1 with
  |none=>rw[hb] at he;cases he
  |some t=>rw[hb] at he;exact⟨_,he,Yn2 ht h x.1 t hb⟩
 ·cases he
end
section
open Go.RowKit
end
section
open Go.RowKit
def Yaq (w:World) (e:Ty) (xs:List e.El) (cs:List Value) (F:Yd):Prop:=
 cs.length=xs.length*e.size∧∃ Fs:Nat→Yd,(∀ i (h:i<xs.length),Rep w noB e .deep xs[i] (.reg cs (i*e.size)) (Fs i)∧Ye (Fs i) F)∧∀ i j,i<j→j<xs.length→Dis (Fs i) (Fs j)
theorem Yaq.nil {w:World} {e:Ty} {F:Yd}:Yaq w e [] [] F:=⟨by simp,fun _=>noB,fun i h=>absurd h (Nat.not_lt_zero _),fun i j _ h=>absurd h (Nat.not_lt_zero _)⟩
theorem mul_lt {i n k r:Nat} (hi:i<n) (hr:r<k):i*k+r<n*k:=by
 have h:(i+1)*k≤n*k:=jR _ hi;rw[jY] at h;omega
theorem Yaq.app {w:World} {e:Ty} {xs ys:List e.El} {cs ds:List Value} {F G:Yd} (h:Yaq w e xs cs F) (g:Yaq w e ys ds G) (hd:Dis F G):Yaq w e (xs++ys) (cs++ds) (fun b=>F b∨G b):=by
 obtain⟨h1,Fs,h2,h3⟩:=h;obtain⟨g1,Gs,g2,g3⟩:=g
 refine⟨by simp only[jP,h1,g1,jY],fun i=>if i<xs.length then Fs i else Gs (i-xs.length),fun i hi=>?_,fun i j hij hj=>?_⟩
 ·rw[jP] at hi
  by_cases hx:i<xs.length
  ·simp only[hx,if_true]
   refine⟨?_,fun b hb=>.inl ((h2 i hx).2 b hb)⟩;rw[kW hx];refine(h2 i hx).1.mv fun r hr=>?_;simp only[Src.cell]
   rw[List.getElem?_append_left (by rw[h1];exact mul_lt hx hr)]
  ·simp only[hx,if_false]
   have hy:i-xs.length<ys.length:=by omega
   refine⟨?_,fun b hb=>.inr ((g2 _ hy).2 b hb)⟩
   rw[kX (by omega)]
   refine(g2 _ hy).1.mv fun r hr=>?_;simp only[Src.cell]
   have hle:xs.length*e.size≤i*e.size:=jR _ (by omega)
   rw[List.getElem?_append_right (by rw[h1];omega),h1,Nat.sub_mul]
   congr 1;omega
 ·rw[jP] at hj
  simp only[]
  by_cases hx:i<xs.length
  ·simp only[hx,if_true]
   by_cases hy:j<xs.length
   ·simp only[hy,if_true];exact h3 i j hij hy
   ·simp only[hy,if_false]
    exact fun b hb hb'=>hd b ((h2 i hx).2 b hb) ((g2 (j-xs.length) (by omega)).2 b hb')
  ·have hy:¬ j<xs.length:=by omega
   simp only[hx,hy,if_false]
   exact g3 _ _ (by omega) (by omega)
theorem Yaq.sub {w:World} {e:Ty} {xs:List e.El} {cs:List Value} {F G:Yd} (h:Yaq w e xs cs F) (hs:Ye F G):Yaq w e xs cs G:=by
 obtain⟨h1,Fs,h2,h3⟩:=h;exact⟨h1,Fs,fun i hi=>⟨(h2 i hi).1,fun b hb=>hs b ((h2 i hi).2 b hb)⟩,h3⟩
theorem Yaq.Yud {w:World} {M:Yd} {e:Ty} {xs:List e.El} {A:Option Addr} {c:Nat} {F:Yd} (h:Rep w M (.sl e) .deep xs (.reg [.slice A xs.length c] 0) F) :
  ∃ cs,Yaq w e xs cs F∧((xs.length=0∧cs=[])∨∃ b off,A=some ⟨b,off,none⟩∧F b∧∀ i u,cs[i]? = some u→w.cell? ⟨b,off+i,none⟩=some u):=by
 obtain⟨A',c',k1,k2,k3⟩:=h;have k1':some (Value.slice A xs.length c)=some (.slice A' xs.length c'):=k1;simp only[jD,Value.slice.injEq] at k1';obtain⟨rfl,-,rfl⟩:=k1'
 by_cases h0:xs.length=0
 ·have:xs=[]:=kL h0
  subst this;exact⟨[],Yaq.nil,.inl ⟨rfl,rfl⟩⟩
 ·obtain⟨b,off,Fs,rfl,hF,hroom,he,hd⟩:=k3 (by omega)
  have hle:xs.length*e.size≤c*e.size:=jR _ k2
  refine⟨(List.range (xs.length*e.size)).map fun i=>(w.cell? ⟨b,off+i,none⟩).getD undef,⟨by simp,Fs,fun i hi=>⟨?_,(he i hi).2.1⟩,hd⟩,.inr ⟨b,off,rfl,hF,fun i u hu=>?_⟩⟩
  ·refine((he i hi).1.Yd2 (M':=noB)).mv fun r hr=>?_
   have hlt:=mul_lt hi hr;simp only[Src.cell];rw[List.getElem?_map,List.getElem?_range hlt]
   obtain⟨u,hu⟩:=Option.isSome_iff_exists.1 (hroom (i*e.size+r) (by omega)).1
   rw[kH,hu];simp[hu]
  ·rw[List.getElem?_map] at hu
   cases hr:(List.range (xs.length*e.size))[i]? with
   |none=>rw[hr] at hu;cases hu
   |some j=>
    rw[hr] at hu
    have hi:i<xs.length*e.size:=by
     have:=(List.getElem?_eq_some_iff.1 hr).1
     simpa using this
    have:j=i:=by
     rw[List.getElem?_range hi] at hr;exact(jN hr).symm
    subst this
    obtain⟨v,hv⟩:=Option.isSome_iff_exists.1 (hroom j (by omega)).1
    simp only[jT] at hu;rw[hv] at hu ⊢
    simpa using hu
theorem Yaq.row {w0 w W:World} {e:Ty} {xs:List e.El} {cs:List Value} {F:Yd} {E:TypeId} {v:Value} (h:Yaq w e xs cs F) (hF:∀ b,F b→b<w.heap.size) (hb:Below w.heap.size w W) (h0:w0.heap.size≤w.heap.size)
  (ho:W.ownsRow w.heap.size E e.size v xs.length cs):∃ A c,v=.slice A xs.length c∧Rep W noB (.sl e) .deep xs (.reg [.slice A xs.length c] 0) (fun b=>F b∨(w.heap.size≤b∧b<W.heap.size)):=by
 obtain⟨h1,Fs,h2,h3⟩:=h;obtain⟨-,hv⟩:=ho;rcases hv with ⟨rfl,hn⟩ | ⟨g,cap,cur,rfl,hg,hh,hcap,-,hsz,htake⟩
 ·have hl:xs=[]:=kL hn
  subst hl;exact⟨none,0,rfl,none,0,rfl,jB _,fun h=>absurd rfl h⟩
 ·have hgl:g<W.heap.size:=(Array.getElem?_eq_some_iff.1 hh).1
  have hcell:∀ i,W.cell? ⟨g,i,none⟩=cur[i]?:=fun i=>by unfold World.cell?;rw[hh];rfl
  have hbs:=hb.size
  have hget:∀ i u,cs[i]? = some u→W.cell? ⟨g,i,none⟩=some u:=fun i u hu=>by
   rw[hcell];rw[←htake,List.getElem?_take] at hu
   split at hu
   ·rw[←Array.getElem?_toList];exact hu
   ·cases hu
  refine⟨_,_,rfl,some ⟨g,0,none⟩,cap,rfl,hcap,fun hc=>⟨g,0,fun j x=>Fs j x∧j<xs.length,rfl,.inr ⟨hg,hgl⟩,fun i hi=>⟨?_,?_⟩,fun i hi=>⟨?_,fun x hx=>.inl ((h2 i hi).2 x hx.1),fun hx=>?_⟩,fun i j hij hj x hx hx'=>h3 i j hij hj x hx.1 hx'.1⟩⟩
  ·rw[hcell,jJ,Array.getElem?_eq_getElem (by omega)];rfl
  ·unfold World.frozen?;rw[hh];simp
  ·have hd:Ow.deep.elem=Ow.deep:=rfl
   rw[hd];have q:=(((h2 i hi).1.go (w':=W) (M':=noB) ⟨hbs,fun x hx=>hb.block x (hF x ((h2 i hi).2 x hx)),fun x hx hlt=>⟨hb.block x hlt,fun h=>h⟩⟩ (fun r hr=>rfl)).mv (s':=.mem g (0+i*e.size)) fun r hr=>?_).sub (G:=fun x=>Fs i x∧i<xs.length) (fun x hx=>⟨hx,hi⟩)
   ·exact q
   ·simp only[Src.cell,jJ]
    have hlt:=mul_lt hi hr;rw[←h1] at hlt;rw[kV hlt];exact hget _ _ (kV hlt)
  ·have:=hF g ((h2 i hi).2 g hx.1);omega
theorem Ytf {f:FuncId} {e e':Ty} {xs:List e.El} {ys:List e'.El} (ht:Ya6 P f)
  (h:∀ (w:World) (A:Option Addr) (c:Nat) (F:Yd),Rep w noB (.sl e) .deep xs (.reg [.slice A xs.length c] 0) F→(∀ b,F b→b<w.heap.size)→Calls P f #[.slice A xs.length c] w fun en w'=>
   ∃ A' c',en=.returned (.slice A' ys.length c')∧Below w.heap.size w w'∧∃ G,Rep w' noB (.sl e') .deep ys (.reg [.slice A' ys.length c'] 0) G∧∀ b,G b→F b∨(w.heap.size≤b∧b<w'.heap.size)) :
  Ycf P f [.mv] [.cl .deep (.sl e) xs] ⟨[.cl .deep (.sl e') ys],[]⟩ where
 there:=ht
 calls:=by
  intro Z C us hl hnt hP1 hP2 I;have hus:us.size=1:=hl;have hR:(Yh [.cl .deep (.sl e) xs]).root 0=some ⟨.reg,.cl .deep (.sl e) xs⟩:=rfl;have hrep:Rep Z.w _ (.sl e) .deep xs (C.L 0) (C.F 0):=I.str.rep 0 _ hR
  have hval:∃ A n c,us.getD 0 undef=.slice A n c∧(C.L 0).cell Z.w 0=some (.slice A n c):=by
   have hv:Yb _ _ _ _ (.seg 0 []) ((⟨us,[]⟩:Act).tmps.getD 0 undef):=I.tm 0 (.seg 0 []) rfl;obtain⟨u,e1,R,s,oo,e0,zs,q1,q2,q3,q4,A,n,c,q5⟩:=hv.1;rw[hR] at q1;cases q1;rw[Yf] at q2;cases q2
   have hagg:¬ ∃ cs,us.getD 0 undef=.agg cs:=fun h=>by have:=hv.2.2.2 h;cases this
   have hone:=Ybz hagg;simp only[Src.cell,hone] at e1
   have:us.getD 0 undef=u:=by simpa using e1
   exact⟨A,n,c,by rw[this,q5],by rw[q4,q5]⟩
  obtain⟨A,n,c,hu,hcell⟩:=hval
  have hn:n=xs.length:=by
   obtain⟨A',c',k1,_⟩:=hrep;rw[hcell] at k1;cases k1;rfl
  subst hn
  have hus2:us=#[.slice A xs.length c]:=by
   apply Array.ext (by simp[hus])
   intro i h4 h5
   have:i=0:=by omega
   subst this
   simpa [Array.getD,h4] using hu
  rw[hus2]
  have hr:Rep Z.w noB (.sl e) .deep xs (.reg [.slice A xs.length c] 0) (C.F 0):=hrep.Yd2.mv fun i hi=>by
   have:i=0:=by simp[Ty.size] at hi;omega
   subst this;rw[hcell];rfl
  have hbnd:=fun b hb=>I.str.bnd 0 _ b hR hb;refine(h Z.w A c (C.F 0) hr (fun b hb=>(hbnd b hb).1)).mono ?_;rintro en w' ⟨A',c',rfl,hb,G,hG,hGF⟩;refine⟨_,rfl,C,G,fun _=>none,G,?_,trivial,fun _ h=>h,?_,rfl,rfl⟩
  ·refine {Yeu (Lf:=Yi w' (Mt Z C (fun _=>none) G) C.L (fun _=>none)) (C:=C) hb I.str.xb I.str.kb with gbnd:=?_,gdis:=(fun _ _ h=>by cases h),rep:=(fun _ _ h=>by cases h) }
   intro b hbG;rcases hGF b hbG with hF | hN
   ·obtain⟨q1,q2,q3,q4⟩:=hbnd b hF
    exact⟨jX q1 hb.size,q2,q3,q4⟩
   ·exact⟨hN.2,fun i hk=>by have:=I.str.kb b i hk;omega,fun hx=>by have:=I.str.xb b hx;omega,.inr hN.1⟩
  ·refine⟨?_,rfl,⟨fun h=>(by cases h),fun⟨cs,h⟩=>(by cases h)⟩⟩
   show Rep w' _ (.sl e') .deep ys _ G;exact hG.Yd2
theorem Yaq.rows {w:World} {e:Ty} {L:List (List e.El)} {A:Option Addr} {c:Nat} {F:Yd} (h:Rep w noB (.sl (.sl e)) .deep L (.reg [.slice A L.length c] 0) F) :
  ∃ (hs:Nat→Hdr) (cs:Nat→List Value) (Fs:Nat→Yd),(0<L.length→∃ b off,A=some ⟨b,off,none⟩∧F b∧∀ j,j<L.length→w.cell? ⟨b,off+j,none⟩=some (hvl (hs j)))∧
   (∀ j (hj:j<L.length),(hs j).2.1=L[j].length∧Yaq w e L[j] (cs j) (Fs j)∧Ye (Fs j) F∧((L[j].length=0∧cs j=[])∨∃ b off,(hs j).1=some ⟨b,off,none⟩∧Fs j b∧∀ i u,(cs j)[i]? = some u→w.cell? ⟨b,off+i,none⟩=some u))∧
   ∀ i j,i<j→j<L.length→Dis (Fs i) (Fs j):=by
 obtain⟨A',c',k1,k2,k3⟩:=h;have k1':some (Value.slice A L.length c)=some (.slice A' L.length c'):=k1;simp only[jD,Value.slice.injEq] at k1';obtain⟨rfl,-,rfl⟩:=k1'
 by_cases h0:L.length=0
 ·exact⟨fun _=>(none,0,0),fun _=>[],fun _=>noB,fun h=>by omega,fun j hj=>by omega,fun i j _ hj=>by omega⟩
 ·obtain⟨b,off,Fs,rfl,hF,hroom,he,hd⟩:=k3 (by omega)
  have hone:(Ty.sl e).size=1:=rfl
  have row:∀ j,∃ q:Hdr×List Value,∀ (hj:j<L.length),w.cell? ⟨b,off+j,none⟩=some (hvl q.1)∧q.1.2.1=L[j].length∧Yaq w e L[j] q.2 (Fs j)∧((L[j].length=0∧q.2=[])∨∃ b off,q.1.1=some ⟨b,off,none⟩∧Fs j b∧∀ i u,q.2[i]? = some u→w.cell? ⟨b,off+i,none⟩=some u):=by
   intro j
   by_cases hj:j<L.length
   ·obtain⟨A',c',t1,t2,t3⟩:=(he j hj).1
    have hrow:Rep w noB (.sl e) .deep L[j] (.reg [.slice A' L[j].length c'] 0) (Fs j):=⟨A',c',rfl,t2,t3⟩;obtain⟨cs,q1,q2⟩:=Yaq.Yud hrow;refine⟨((A',L[j].length,c'),cs),fun _=>⟨?_,rfl,q1,q2⟩⟩
    simpa [Src.cell,hone,hvl] using t1
   ·exact⟨((none,0,0),[]),fun h=>absurd h hj⟩
  obtain⟨q,hq⟩:=Classical.axiomOfChoice row;exact⟨fun j=>(q j).1,fun j=>(q j).2,Fs,fun _=>⟨b,off,rfl,hF,fun j hj=>(hq j hj).1⟩,fun j hj=>⟨(hq j hj).2.1,(hq j hj).2.2.1,(he j hj).2.1,(hq j hj).2.2.2⟩,hd⟩
def Yt9 (cs:Nat→List Value):Nat→List Value
 |0=>[]
 |k+1=>Yt9 cs k++cs k
theorem Yaq.cat {w:World} {e:Ty} {L:List (List e.El)} {cs:Nat→List Value} {Fs:Nat→Yd} {F:Yd} (h:∀ j (hj:j<L.length),Yaq w e L[j] (cs j) (Fs j)∧Ye (Fs j) F) (hd:∀ i j,i<j→j<L.length→Dis (Fs i) (Fs j)) :
  ∀ k,k≤L.length→Yaq w e (L.take k).flatten (Yt9 cs k) (fun b=>∃ j,j<k∧Fs j b)
 |0,_=>by rw[List.take_zero];exact Yaq.nil
 |k+1,hk=>by
  have h1:=Yaq.cat h hd k (by omega)
  have h2:=(h k (by omega)).1
  rw[List.take_succ_eq_append_getElem (by omega),List.flatten_append]
  have h3:[L[k]].flatten=L[k]:=by simp
  rw[h3];refine(h1.app h2 ?_).sub ?_
  ·rintro b ⟨j,hj,hb⟩ hb'
   exact hd j k hj (by omega) b hb hb'
  ·rintro b (⟨j,hj,hb⟩ | hb)
   ·exact⟨j,by omega,hb⟩
   ·exact⟨k,by omega,hb⟩
def Yhr {α:Type} (L:List (List α)):Option (List α):=cond (decide (L.length≤1048576)&&decide (L.flatten.length≤1048576)) (some L.flatten) none
theorem Yqk {f:FuncId} {e:Ty} (ht:Ya6 P f)
  (h:∀ (w:World) (A:Option Addr) (c:Nat) (L:List (List e.El)) (F:Yd),Rep w noB (.sl (.sl e)) .deep L (.reg [.slice A L.length c] 0) F→(∀ b,F b→b<w.heap.size)→L.length≤1048576→L.flatten.length≤1048576→Calls P f #[.slice A L.length c] w fun en w'=>
   ∃ A' c',en=.returned (.slice A' L.flatten.length c')∧Below w.heap.size w w'∧∃ G,Rep w' noB (.sl e) .deep L.flatten (.reg [.slice A' L.flatten.length c'] 0) G∧∀ b,G b→F b∨(w.heap.size≤b∧b<w'.heap.size)) :
  Ycs P f (Ycc [.mv] [.cl .deep (.sl (.sl e))] (fun x=>Yhr x.1) fun y=>⟨[.cl .deep (.sl e) y],[]⟩):=by
 intro cs R k r he;simp only[Ycc] at he
 split at he
 ·rename_i x hx
  have e':=PT.Yb7 hx;subst e'
  cases hb:Yhr x.1 with
  |none=>rw[hb] at he;cases he
  |some t=>
   rw[hb] at he;unfold Yhr at hb
   cases hd:(decide (x.1.length≤1048576)&&decide (x.1.flatten.length≤1048576)) with
   |false=>rw[hd] at hb;cases hb
   |true=>
    rw[hd] at hb;cases hb;simp only[jC,jI] at hd;exact⟨_,he,Ytf ht (fun w A c F hr hF=>h w A c x.1 F hr hF hd.1 hd.2)⟩
 ·cases he
theorem Yaq.one {w:World} {e:Ty} {xs:List e.El} {cs:List Value} {F:Yd} (h:Yaq w e xs cs F):∀ u∈cs,u.oneCell'=true:=by
 obtain⟨h1,Fs,h2,-⟩:=h;intro u hu;obtain⟨i,hi,rfl⟩:=List.getElem_of_mem hu;rw[h1] at hi
 have hpos:0<e.size:=by
  rcases kN e.size with h0 | h0
  ·rw[h0] at hi;omega
  ·exact h0
 have hq:i / e.size<xs.length:=Nat.div_lt_of_lt_mul (by rw[Nat.mul_comm];exact hi)
 have hr:i % e.size<e.size:=Nat.mod_lt _ hpos;obtain⟨v,hv,h1'⟩:=(h2 _ hq).1.cells _ hr;simp only[Src.cell] at hv
 have he:i / e.size*e.size+i % e.size=i:=by rw[Nat.mul_comm];exact Nat.div_add_mod i e.size
 rw[he] at hv
 rw[kV (by rw[h1];exact hi)] at hv
 cases hv;exact h1'
def Ykz (hs:Nat→Hdr):Nat→Nat
 |0=>0
 |k+1=>Ykz hs k+(hs k).2.1
theorem Yvu (hs:Nat→Hdr):∀ {i j:Nat},i≤j→Ykz hs i≤Ykz hs j:=by
 intro i j h
 induction h with
 |refl=>exact jB _
 |step _ ih=>simp only[Ykz];omega
theorem Yph {α:Type} {hs:Nat→Hdr} {L:List (List α)} (h:∀ j (hj:j<L.length),(hs j).2.1=L[j].length):∀ k,k≤L.length→Ykz hs k=(L.take k).flatten.length
 |0,_=>by simp[Ykz]
 |k+1,hk=>by
  rw[List.take_succ_eq_append_getElem (by omega),List.flatten_append,jP,Ykz,Yph h k (by omega),h k (by omega)]
  simp
theorem Yus {f:FuncId} {e:Ty} {E:TypeId} (ht:Ya6 P f)
  (h:∀ (w:World) (A:Option Addr) (b off m c:Nat) (hs:Nat→Hdr) (cs:Nat→List Value),(0<m→A=some ⟨b,off,none⟩∧b<w.heap.size∧∀ j,j<m→w.cell? ⟨b,off+j,none⟩=some (hvl (hs j)))→
   (∀ j,j<m→(cs j).length=(hs j).2.1*e.size∧(∀ u∈cs j,u.oneCell'=true)∧(((hs j).2.1=0∧cs j=[])∨∃ b' o',(hs j).1=some ⟨b',o',none⟩∧b'<w.heap.size∧∀ i u,(cs j)[i]? = some u→w.cell? ⟨b',o'+i,none⟩=some u))→
   m≤1048576→Ykz hs m≤1048576→Calls P f #[.slice A m c] w fun en W=>∃ v,en=.returned v∧Below w.heap.size w W∧W.ownsRow w.heap.size E e.size v (Ykz hs m) (Yt9 cs m)) :
  Ycs P f (Ycc [.mv] [.cl .deep (.sl (.sl e))] (fun x=>Yhr x.1) fun y=>⟨[.cl .deep (.sl e) y],[]⟩):=by
 refine Yqk ht fun w A c L F hr hF hl hf=>?_;obtain⟨hs,cs,Fs,k1,k2,k3⟩:=Yaq.rows hr;have htot:=Yph (hs:=hs) (L:=L) (fun j hj=>(k2 j hj).1) L.length (jB _);rw[List.take_length] at htot;have hcat:=Yaq.cat (fun j hj=>⟨(k2 j hj).2.1,(k2 j hj).2.2.1⟩) k3 L.length (jB _);rw[List.take_length] at hcat
 have hA:∃ b off,0<L.length→A=some ⟨b,off,none⟩∧b<w.heap.size∧∀ j,j<L.length→w.cell? ⟨b,off+j,none⟩=some (hvl (hs j)):=by
  by_cases h0:0<L.length
  ·obtain⟨b,off,q1,q2,q3⟩:=k1 h0
   exact⟨b,off,fun _=>⟨q1,hF b q2,q3⟩⟩
  ·exact⟨0,0,fun h=>absurd h h0⟩
 obtain⟨b,off,hA⟩:=hA
 refine(h w A b off L.length c hs cs hA (fun j hj=>?_) hl (by omega)).mono ?_
 ·obtain⟨q1,q2,q3,q4⟩:=k2 j hj
  refine⟨by rw[q1];exact q2.1,q2.one,?_⟩
  rcases q4 with ⟨z1,z2⟩ | ⟨b',o',z1,z2,z3⟩
  ·exact .inl ⟨by rw[q1,z1],z2⟩
  ·exact .inr ⟨b',o',z1,hF b' (q3 b' z2),z3⟩
 ·rintro en W ⟨v,rfl,hB,ho⟩
  rw[htot] at ho
  have hFc:∀ b,(∃ j,j<L.length∧Fs j b)→b<w.heap.size:=by
   rintro b ⟨j,hj,hb⟩;exact hF b ((k2 j hj).2.2.1 b hb)
  obtain⟨A',c',rfl,hrep⟩:=Yaq.row (w0:=w) hcat hFc hB (jB _) ho;refine⟨A',c',rfl,hB,_,hrep,?_⟩;rintro b (⟨j,hj,hb⟩ | hb)
  ·exact .inl ((k2 j hj).2.2.1 b hb)
  ·exact .inr hb
end
section
open Go.RowKit
end
section
open Go.RowKit
def Out.frz:Out→Out
 |⟨[.cl _ t x],os⟩=>⟨[.cl .sh t x],os⟩
 |⟨[.cl _ t x,.cl _ u y],os⟩=>⟨[.cl .sh t x,.cl .sh u y],os⟩
 |o=>o
def FS.frz (fs:FS):FS:=⟨fs.modes,fun cs R k=>fs.F cs R fun out=>k out.frz⟩
theorem Ycf.frz {f:FuncId} {ms:List Md} {cs:List TV} {o:Ow} {t:Ty} {x:t.El} {os:List TV} (h:Ycf P f ms cs ⟨[.cl o t x],os⟩):Ycf P f ms cs ⟨[.cl .sh t x],os⟩ where
 there:=h.there
 calls:=by
  intro Z C us h1 h2 h3 h4 I;refine(h.calls Z C us h1 h2 h3 h4 I).mono ?_;rintro e w' ⟨v,rfl,C',G,ρ,Fr,hs,ho,hF,hr,hs1,hs2⟩;obtain⟨r1,r2,r3⟩:Ya w' (Mt Z C' ρ G) (Yi w' (Mt Z C' ρ G) C'.L ρ) (.cl o t x) (.reg v.cells.toList 0) Fr∧v.cells.size=(TV.cl o t x).size∧((TV.cl o t x).isAgg=true↔∃ cs,v=.agg cs):=hr;obtain⟨w1,hm⟩:=hs.weak (ρ':=ρ) (G':=noB) (fun _ _ h=>h) (fun _ h=>h.elim);have gs:=hs.Yce (ρ':=ρ) (G':=noB) hm Dd.none (fun _ _ _ h _=>h) (fun _ _ _ h _=>h);refine⟨v,rfl,C',noB,ρ,noB,w1.lf (fun v u hl=>Yi.go gs (Y2.Yo2 v) hl),ho,fun _ h=>h,⟨?_,r2,r3⟩,rfl,hs2⟩;show Rep w' (Mt Z C' ρ noB) t .sh x _ noB;refine Rep.share (r1:Rep w' _ t o x _ Fr) hm (fun b hb=>⟨?_,(hs.gbnd b (hF b hb)).1⟩);rintro(⟨r,R,hR,hT⟩ | hh | hh)
  ·exact hs.gdis r R hR b hT (hF b hb)
  ·exact hh
  ·exact(hs.gbnd b (hF b hb)).2.2.1 hh
theorem Ycf.Yv3 {f:FuncId} {ms:List Md} {cs:List TV} {o p:Ow} {t u:Ty} {x:t.El} {y:u.El} {os:List TV} (h:Ycf P f ms cs ⟨[.cl o t x,.cl p u y],os⟩):Ycf P f ms cs ⟨[.cl .sh t x,.cl .sh u y],os⟩ where
 there:=h.there
 calls:=by
  intro Z C us h1 h2 h3 h4 I;refine(h.calls Z C us h1 h2 h3 h4 I).mono ?_;rintro e w' ⟨v,rfl,C',G,ρ,Fr,hs,ho,hF,hr,hs1,hs2⟩;obtain⟨vs,rfl,hr⟩:=hr;obtain⟨w1,hm⟩:=hs.weak (ρ':=ρ) (G':=noB) (fun _ _ h=>h) (fun _ h=>h.elim);have gs:=hs.Yce (ρ':=ρ) (G':=noB) hm Dd.none (fun _ _ _ h _=>h) (fun _ _ _ h _=>h)
  have one:∀ {o:Ow} {t:Ty} {x:t.El} {v:Value} {F:Yd},Ye F G→Yhm w' (Mt Z C' ρ G) C'.L ρ (.cl o t x) v F→Yhm w' (Mt Z C' ρ noB) C'.L ρ (.cl .sh t x) v noB:=by
   rintro o t x v F hFG ⟨r1,r2,r3⟩;refine⟨?_,r2,r3⟩;show Rep w' (Mt Z C' ρ noB) t .sh x _ noB;refine Rep.share (r1:Rep w' _ t o x _ F) hm (fun b hb=>⟨?_,(hs.gbnd b (hFG b hb)).1⟩);rintro(⟨r,R,hR,hT⟩ | hh | hh)
   ·exact hs.gdis r R hR b hT (hFG b hb)
   ·exact hh
   ·exact(hs.gbnd b (hFG b hb)).2.2.1 hh
  refine⟨.tuple vs,rfl,C',noB,ρ,noB,w1.lf (fun v u hl=>Yi.go gs (Y2.Yo2 v) hl),ho,fun _ h=>h,⟨vs,rfl,?_⟩,rfl,hs2⟩
  match vs.toList,hr with
  |[v1,v2],hr=>
   obtain⟨F1,F2,a1,⟨F3,F4,a2,_,b1,b2,_⟩,c1,c2,_⟩:=hr
   exact⟨noB,noB,one (fun b hb=>hF b (c1 b hb)) a1,⟨noB,noB,one (fun b hb=>hF b (c2 b (b1 b hb))) a2,trivial,fun _ h=>h,fun _ h=>h,fun _ h=>h.elim⟩,fun _ h=>h,fun _ h=>h,fun _ h=>h.elim⟩
  |[],hr=>exact hr.elim
  |[v1],hr=>obtain⟨_,_,_,h,_⟩:=hr;exact h.elim
  |v1::v2::v3::l,hr=>obtain⟨_,_,_,⟨_,_,_,h,_⟩,_⟩:=hr;exact h.elim
theorem Ycs.frz {f:FuncId} {fs:FS} (h:Ycs P f fs):Ycs P f fs.frz:=by
 intro cs R k r he;obtain⟨out,h1,h2⟩:=h cs R (fun out=>k out.frz) r he;refine⟨out.frz,h1,?_⟩;show Ycf P f fs.modes cs out.frz;obtain⟨res,os⟩:=out
 match res,h2 with
 |[.cl o t x],h2=>exact h2.frz
 |[],h2=>exact h2
 |[.pr a b],h2=>exact h2
 |[.loc a b],h2=>exact h2
 |[.seg a b],h2=>exact h2
 |[.sub a b c d],h2=>exact h2
 |[.pt a b],h2=>exact h2
 |[.clo a b],h2=>exact h2
 |[.nl],h2=>exact h2
 |[.dead a],h2=>exact h2
 |[.rw a b c d e],h2=>exact h2
 |[.tup a],h2=>exact h2
 |[.op a],h2=>exact h2
 |[.gd a b c],h2=>exact h2
 |[.kb a],h2=>exact h2
 |[a,b],h2=>
  cases a with
  |cl o t x=>
   cases b with
   |cl p u y=>exact h2.Yv3
   |_=>exact h2
  |_=>exact h2
 |a::b::c::l,h2=>cases a<;>first | exact h2 | (cases b<;>exact h2)
end
end Mf
