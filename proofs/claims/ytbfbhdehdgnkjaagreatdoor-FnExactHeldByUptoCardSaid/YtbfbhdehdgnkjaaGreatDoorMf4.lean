import Derived.Test.YtbfbhdehdgnkjaaGreatDoorMf3
set_option linter.unusedVariables false
set_option linter.unusedSimpArgs false
set_option autoImplicit true
set_option relaxedAutoImplicit true
namespace Mf
open Go
variable {G:Gam} {S:St} {np nt:Nat} {tb:Tb}
section
open Go.ChangeShapes
variable {H:Type} {enc:TypeId×Value→H} {P:Program} {w w':World}
theorem Ynt {r:Reach} {base:Nat} {t:TypeId} {v:Value} {i:Yem} (hd:TOk P t i) (h:Value.okWide P w r base t v):i.ty.isAgg=true↔∃ cs,v=.agg cs:=by
 obtain⟨⟨d,hu,hD,ha⟩,_⟩:=hd;rw[ha];unfold Value.okWide at h;rw[hu] at h;obtain⟨td,ty,by_⟩:=i;simp only at hD
 have leaf:d.isRow=false→Cell.okWide P w r base t v→(d=.bool∨d=.string∨(∃ k,d=.int k)∨∃ e,d=.slice e)→(d.isRow=true↔∃ cs,v=.agg cs):=by
  intro h1 h2 h3;rw[h1]
  refine⟨(fun e=>by cases e),fun⟨cs,e⟩=>?_⟩
  subst e
  rcases h3 with rfl | rfl | ⟨k,rfl⟩ | ⟨e,rfl⟩<;>simp[Cell.okWide,Cell.ok,hu] at h2
 cases td with
 |int k=>obtain⟨rfl,rfl⟩:=hD;exact leaf rfl h (.inr (.inr (.inl ⟨k,rfl⟩)))
 |bool=>obtain⟨rfl,rfl⟩:=hD;exact leaf rfl h (.inl rfl)
 |str=>obtain⟨rfl,rfl⟩:=hD;exact leaf rfl h (.inr (.inl rfl))
 |sl e=>obtain⟨rfl,_⟩:=hD;exact leaf rfl h (.inr (.inr (.inr ⟨e,rfl⟩)))
 |arr n e=>
  obtain⟨rfl,_⟩:=hD;obtain⟨cs,rfl,_⟩:=h
  exact⟨fun _=>⟨cs,rfl⟩,fun _=>rfl⟩
 |st offs=>
  obtain⟨fs,rfl,_⟩:=hD;obtain⟨cs,rfl,_⟩:=h
  exact⟨fun _=>⟨cs,rfl⟩,fun _=>rfl⟩
 |ptr e=>exact hD.elim
 |other=>exact hD.elim
def Ypv (tb:Tb):List TypeId→List Ty→Bool
 |[],[]=>true
 |t::ts,u::us=>(match lk t tb with | some i=>decide (i.ty=u) | none=>false)&&Ypv tb ts us
 |_,_=>false
abbrev shs (tys:List Ty):List PT:=tys.map fun t=>.cl .sh t
def Ymw:(tys:List Ty)→PT.Els (shs tys)→Prop
 |[],_=>True
 |t::l,x=>Fit t x.1∧Ymw l x.2
def Yox:(tys:List Ty)→PT.Els (shs tys)→Nat
 |[],_=>0
 |t::l,x=>wt t x.1+Yox l x.2
def Yer (w:World):(tys:List Ty)→PT.Els (shs tys)→List Value→Prop
 |[],_,vs=>vs=[]
 |t::l,x,v::vs=>(Rep w noB t .sh x.1 (.reg v.cells.toList 0) noB∧v.cells.size=t.size∧(t.isAgg=true↔∃ cs,v=.agg cs))∧Yer w l x.2 vs
 |_::_,_,[]=>False
theorem Ym5 (hb:Yag P tb) {t:TypeId} {i:Yem} (hl:lk t tb=some i) {held:Bool} {fuel:Nat} {sp:Nat→Bool} {v:Value} {d:DataW H} {ps:List MemPlace} (hagg:i.ty.isAgg=true↔∃ cs,v=.agg cs)
  (h:DataW.trod enc P w 0 sp held fuel t v.cells.toList=some (d,ps)):v.cells.size=i.ty.size:=by
 cases hh:i.ty.isAgg with
 |false=>
  have:¬ ∃ cs,v=.agg cs:=fun e=>by rw[hagg.2 e] at hh;cases hh
  rw[Yc0 this]
  cases ht:i.ty<;>rw[ht] at hh<;>first | rfl | cases hh
 |true=>
  obtain⟨⟨u,hu,hD,ha⟩,_⟩:=hb t i hl;have hcell:=Ycm (hb t i hl)
  cases fuel with
  |zero=>simp[DataW.trod] at h
  |succ n=>
   obtain⟨td,ty,by_⟩:=i;simp only at hD hh ha hcell ⊢
   cases td with
   |int k=>obtain⟨_,rfl⟩:=hD;cases hh
   |bool=>obtain⟨_,rfl⟩:=hD;cases hh
   |str=>obtain⟨_,rfl⟩:=hD;cases hh
   |sl e=>obtain⟨_,te,ie,rfl,_⟩:=hD;cases hh
   |arr n e=>
    obtain⟨rfl,_⟩:=hD;simp only[DataW.trod,hu] at h
    split at h
    ·rename_i hc;rw[←hcell,←hc];simp
    ·cases h
   |st offs=>
    obtain⟨fs,rfl,_⟩:=hD;simp only[DataW.trod,hu] at h
    split at h
    ·rename_i hc;rw[←hcell,←hc];simp
    ·cases h
   |ptr e=>exact hD.elim
   |other=>exact hD.elim
theorem Yjh (hb:Yag P tb) (hc:Yco P tb tb=true) {bk:DataW H→Nat} (hf:Ys4 bk) {held:Bool} {sp:Nat→Bool} {base:Nat}:∀ (ts:List TypeId) (tys:List Ty) (vs:List Value) (ds:List (DataW H)) (ps:List MemPlace),
  Ypv tb ts tys=true→(∀ (j:Nat) t v,ts[j]? = some t→vs[j]? = some v→Value.okWide P w .any base t v)→DataW.TrodAll enc P w 0 sp held ts vs ds ps→
  ∃ x:PT.Els (shs tys),Yer w tys x vs∧Ymw tys x∧Yox tys x≤Ydz bk ds
 |[],[],vs,ds,ps,ht,hv,h=>by
  obtain⟨rfl,rfl,rfl⟩:=trodAll_nil h
  exact⟨(),rfl,trivial,kE _⟩
 |t::ts,ty::tys,vs,ds,ps,ht,hv,h=>by
  obtain⟨v,vs1,d,ds1,a,b,rfl,rfl,rfl,h1,h2⟩:=trodAll_cons h;simp only[Ypv,jC] at ht;obtain⟨ht1,ht2⟩:=ht
  split at ht1
  ·rename_i i hi
   rw[jI] at ht1;subst ht1
   obtain⟨x2,p1,p2,p3⟩:=Yjh hb hc hf ts tys vs1 ds1 b ht2 (fun j t v e1 e2=>hv (j+1) t v (by simpa using e1) (by simpa using e2)) h2
   obtain⟨fuel,h1⟩:=h1;have hagg:=Ynt (hb t i hi) (hv 0 t v rfl rfl);have hsz:=Ym5 hb hi hagg h1
   obtain⟨x1,q1,q2,q3⟩:=Yi4 hb hc hf fuel t i _ d a hi h1 (.reg v.cells.toList 0) (fun k u hk=>by simp only[Src.cell,jJ];exact hk) (by simp[hsz])
   refine⟨(x1,x2),⟨⟨q1,hsz,hagg⟩,p1⟩,⟨q2,p2⟩,?_⟩;simp only[Yox,Ydz];omega
  ·cases ht1
 |[],_::_,vs,ds,ps,ht,hv,h=>by cases ht
 |_::_,[],vs,ds,ps,ht,hv,h=>by cases ht
theorem Yf2 (hb:Yag P tb) (hc:Yco P tb tb=true) (hw:∀ b,b<w.heap.size→w'.heap[b]? = w.heap[b]?) {held held':Bool} {sp':Nat→Bool}:∀ (ts:List TypeId) (tys:List Ty) (vs:List Value) (ds:List (DataW H)) (ps:List MemPlace),
  Ypv tb ts tys=true→DataW.TrodAll enc P w 0 (fun _=>true) held ts vs ds ps→(∀ p∈ps,sp' p.block=true)→DataW.TrodAll enc P w' 0 sp' held' ts vs ds ps
 |[],[],vs,ds,ps,ht,h,hp=>by
  obtain⟨rfl,rfl,rfl⟩:=trodAll_nil h
  exact trodAll_mk0
 |t::ts,ty::tys,vs,ds,ps,ht,h,hp=>by
  obtain⟨v,vs1,d,ds1,a,b,rfl,rfl,rfl,h1,h2⟩:=trodAll_cons h;simp only[Ypv,jC] at ht;obtain⟨ht1,ht2⟩:=ht
  split at ht1
  ·rename_i i hi
   obtain⟨fuel,h1⟩:=h1;exact⟨a,b,⟨fuel,Ykd hb hc hw fuel t i _ d a hi h1 (fun p hp'=>hp p (jW _ hp'))⟩,Yf2 hb hc hw ts tys vs1 ds1 b ht2 h2 (fun p hp'=>hp p (kB _ hp')),rfl⟩
  ·cases ht1
 |[],_::_,vs,ds,ps,ht,h,hp=>by cases ht
 |_::_,[],vs,ds,ps,ht,h,hp=>by cases ht
theorem Yer.length {tys:List Ty}:∀ {x:PT.Els (shs tys)} {vs:List Value},Yer w tys x vs→vs.length=(PT.mks (shs tys) x).length:=by
 induction tys with
 |nil=>intro x vs h;rw[show vs=[] from h];rfl
 |cons t l ih=>
  intro x vs h
  cases vs with
  |nil=>exact h.elim
  |cons v vs=>exact congrArg (·+1) (ih h.2)
theorem Yer.get {tys:List Ty}:∀ {x:PT.Els (shs tys)} {vs:List Value} (i:Nat) {c:TV},Yer w tys x vs→(PT.mks (shs tys) x)[i]? = some c→
  ∃ t y v,c=.cl .sh t y∧vs[i]? = some v∧Rep w noB t .sh y (.reg v.cells.toList 0) noB∧v.cells.size=t.size∧(t.isAgg=true↔∃ cs,v=.agg cs):=by
 induction tys with
 |nil=>intro x vs i c h hc;cases hc
 |cons t l ih=>
  intro x vs i c h hc
  cases vs with
  |nil=>exact h.elim
  |cons v vs=>
   cases i with
   |zero=>cases hc;exact⟨t,x.1,v,rfl,rfl,h.1.1,h.1.2.1,h.1.2.2⟩
   |succ i=>
    obtain⟨t',y,u,h1,h2,h3⟩:=ih i h.2 (c:=c) hc
    exact⟨t',y,u,h1,by simpa using h2,h3⟩
theorem Ysn {tys:List Ty}:∀ (x:PT.Els (shs tys)),PT.rds (shs tys) (PT.mks (shs tys) x)=some x:=by
 induction tys with
 |nil=>intro x;rfl
 |cons t l ih=>
  intro x
  have e1:(PT.cl .sh t).rd (.cl .sh t x.1)=some x.1:=by
   simp only[PT.rd];rw[show decEq Ow.sh Ow.sh=isTrue rfl from Subsingleton.elim _ _,show decEq t t=isTrue rfl from Subsingleton.elim _ _]
  have h2:=ih x.2;change PT.rds (PT.cl .sh t::shs l) (TV.cl .sh t x.1::PT.mks (shs l) x.2)=some x;simp only[PT.rds];rw[e1,h2];rfl
theorem Yqv (r:Nat) (p:Path) (t:Ty) (x:t.El):Yaj r p .sh t x=.cl .sh t x:=by
 cases t<;>simp only[Yaj]<;>first | rfl | (split<;>rfl)
theorem Ypd {f:FuncId} {ms:List Md} {tys:List Ty} {x:PT.Els (shs tys)} {us:Array Value} {o:Ow} {b:Bool} (hC:Ycu P f ms (PT.mks (shs tys) x) ⟨[.cl o .bool b],[]⟩) (ha:Yer w tys x us.toList) :
  Calls P f us w fun e w'=>e=.returned (.bool b)∧(∀ i,i<w.heap.size→w'.heap[i]? = w.heap[i]?)∧w'.os=w.os∧w'.output=w.output∧w.heap.size≤w'.heap.size:=by
 have hlen:us.size=(PT.mks (shs tys) x).length:=by rw[←ha.length];simp
 let Z:W0:=⟨w,noB,fun _ _=>False,noB,fun i=>if i<us.size then some (.reg (us.getD i undef).cells.toList 0) else none,us.size⟩
 let C:Cx:=⟨fun i=>.reg (us.getD i undef).cells.toList 0,fun _=>noB⟩
 have hroot:∀ r,(Yi (PT.mks (shs tys) x)).root r=none:=by
  intro r;unfold St.root Yi;simp only[Yjw];rw[jL (kE r)]
  cases hc:(PT.mks (shs tys) x)[r-0]? with
  |none=>rfl
  |some c=>
   obtain⟨t,y,v,rfl,_⟩:=ha.get _ hc
   have:Y6 (.cl .sh t y)=none:=by
    show(match t.pure,Ow.sh with | true,_=>none | false,.sh=>none | false,o=>some (Root.mk .reg (.cl o t y)))=none
    cases t.pure<;>rfl
   simp[this]
 have hM:∀ b,¬ Mt Z C (Yi (PT.mks (shs tys) x)).root noB b:=by
  rintro b (⟨r,R,h,_⟩ | h | h)
  ·rw[hroot] at h;cases h
  ·exact h
  ·exact h
 have I:Inv Z (Yi (PT.mks (shs tys) x)) C ⟨us,[]⟩ w:=by
  refine⟨⟨?_,?_,?_,?_,fun _ h=>h.elim,?_,?_,?_,jB _,fun _ _ _=>rfl,fun _ _ _=>rfl,fun _ _ _ _=>rfl,fun _ h=>h.elim,fun _ _ h=>h.elim,rfl,rfl,rfl⟩,fun i v hv=>?_,rfl,rfl⟩
  ·intro r R h;rw[hroot] at h;cases h
  ·intro r R h;rw[hroot] at h;cases h
  ·intro r R h;rw[hroot] at h;cases h
  ·intro r R b h;rw[hroot] at h;cases h
  ·intro r r' R R' _ h;rw[hroot] at h;cases h
  ·intro r R h;rw[hroot] at h;cases h
  ·intro r R h;rw[hroot] at h;cases h
  ·have h1:=Yed (PT.mks (shs tys) x) 0 i
   rw[show lk i (Ycx 0 (PT.mks (shs tys) x))=some v from hv,jL (kE i)] at h1
   cases hc:(PT.mks (shs tys) x)[i-0]? with
   |none=>rw[hc] at h1;cases h1
   |some c=>
    rw[hc] at h1;obtain⟨t,y,u,rfl,hu,hr,hs,hg⟩:=ha.get _ hc;simp only[jT,jD,TV.mir,Yqv] at h1;subst h1;rw[Nat.sub_zero] at hu
    have hu':us.getD i undef=u:=by
     rw[kU,←Array.getElem?_toList,hu];rfl
    show Yb _ _ _ _ _ _;rw[show(Act.mk us []).tmps=us from rfl,hu'];refine⟨?_,hs,hg⟩;have:=Ya.mono (Lf:=Yh w (Mt Z C (Yi (PT.mks (shs tys) x)).root noB) C.L (Yi (PT.mks (shs tys) x)).root) (tv:=.cl .sh t y) hr (M':=Mt Z C (Yi (PT.mks (shs tys) x)).root noB) (fun b h=>(hM b h).elim);exact this
 refine(hC.calls Z C us hlen rfl (fun i hi=>jM (by omega)) (fun i hi=>jL hi) I).mono fun e w' he=>?_
 obtain⟨v,rfl,C',G,ρ,Fr,hS,_,_,hres,_⟩:=he
 have hv:v=.bool b:=by
  obtain⟨h1,h2,h3⟩:Ya _ _ _ (TV.cl o .bool b) (.reg v.cells.toList 0) Fr∧v.cells.size=1∧((TV.cl o .bool b).isAgg=true↔∃ cs,v=.agg cs):=hres
  have hna:¬ ∃ cs,v=.agg cs:=fun e=>by have:=h3.2 e;cases this
  have h4:v.cells.toList[0+0]? = some (.bool b):=h1;rw[Yc0 hna] at h4
  simpa using h4
 subst hv;exact⟨rfl,fun i hi=>hS.old i hi (fun h=>h),hS.os,hS.output,hS.sz⟩
theorem Yl5 {may:MemPlace→Prop} (h:∀ i,i<w.heap.size→w'.heap[i]? = w.heap[i]?) (h1:w'.os=w.os) (h2:w'.output=w.output):w.keptBut w' may:=by
 have hr:=World.keptBut_refl w may;refine⟨h1,h2,fun i hi=>?_⟩;rw[h i hi];exact hr.2.2 i hi
theorem Yr5 (hb:Yag P tb) (hc:Yco P tb tb=true) {bk:DataW H→Nat} (hf:Ys4 bk) {f:FuncId} {fn:Func} {tys:List Ty} (hty:Ypv tb fn.params.toList tys=true)
  {ms:List Md} {F:PT.Els (shs tys)→Option Bool} {o:Ow} (hok:Ycv P f (Yc6 ms (shs tys) F (fun b=>⟨[.cl o .bool b],[]⟩))) {N:Nat} {s:ChangeSpec} (hvars:s.vars=[]) {W:World} {base:Nat} {args:Array Value} {ds gs:List (DataW H)} {before:List MemPlace}
  (hval:∀ (j:Nat) t v,fn.params[j]? = some t→args[j]? = some v→Value.okWide P W .any base t v) (hW:DataW.Whole enc P fn.params.toList s.vars false W args.toList ds gs before)
  (hk:Ydz bk (ds++gs)≤N) (law:∀ x,Ymw tys x→Yox tys x≤N→F x=some true)
  (hs:s.fn H (ds++gs)={results:=[.lit (.bool true)],args:=ds }) {tr:TypeId} (hres:fn.resultTypes=#[tr]) (hbool:P.underlying tr=some .bool) :
  Calls P f args W fun e W'=>∃ v,e=.returned v∧s.post enc P fn false true false false W args v W':=by
 have hW0:=hW;obtain⟨p,q,hA,hV,rfl,hfz,hnd⟩:=hW
 obtain⟨rfl,rfl⟩:gs=[]∧q=[]:=by rw[hvars] at hV;exact trodVars_none hV
 obtain⟨x,h1,h2,h3⟩:=Yjh hb hc hf fn.params.toList tys args.toList ds p hty (fun j t v e1 e2=>hval j t v (by simpa using e1) (by simpa using e2)) hA
 rw[qC] at hk;have hF:=law x h2 (jU h3 hk)
 obtain⟨out,e1,hC⟩:=hok (PT.mks (shs tys) x) Out some ⟨[.cl o .bool true],[]⟩ (by simp only[Yc6,Ysn,hF];rfl)
 cases e1;refine(Ypd hC h1).mono fun e W' he=>?_;obtain⟨rfl,hold,hos,hout,hsz⟩:=he
 refine⟨_,rfl,ds,[],p++[],[],p,[],hW0,?_,?_,?_,Yl5 hold hos hout,fun h=>by cases h⟩
 ·rw[hs,hres]
  exact trodAll_mk1 ⟨1,by simp[DataW.trod,hbool,Value.resultList,Value.cells]⟩
 ·rw[hs]
  refine Yf2 hb hc hold fn.params.toList tys args.toList ds p hty hA (fun y hy=>?_)
  have:=hW0.lt y (by simpa using hy)
  simpa using this
 ·rw[hvars,hs];rfl
end
theorem Yju:∀ {n:Nat} {s:σ} {r:ρ},iter f n s=some r→iter f (n+1) s=some r
 |0,s,r,h=>by cases h
 |n+1,s,r,h=>by
  rw[iter] at h ⊢
  cases hf:f s with
  |none=>rw[hf] at h;cases h
  |some o=>
   rw[hf] at h
   cases o with
   |inl s'=>exact Yju (n:=n) h
   |inr r'=>exact h
theorem Yoh {σ ρ:Type} {f:σ→Option (σ⊕ρ)} {n m:Nat} {s:σ} {r:ρ} (h:iter f n s=some r) (hnm:n≤m):iter f m s=some r:=by
 induction hnm with
 |refl=>exact h
 |step _ ih=>exact Yju ih
theorem Yih {σ ρ:Type} {f:σ→Option (σ⊕ρ)} {s:σ} {r:ρ} {n:Nat} (h:iter f n s=some r):Yap f s=some r:=by
 unfold Yap;have hh:∃ r n,iter f n s=some r:=⟨r,n,h⟩;rw[dif_pos hh];obtain⟨m,hm⟩:=hh.choose_spec;have h1:=Yoh h (Nat.le_max_left n m);have h2:=Yoh hm (Nat.le_max_right n m);rw[h1] at h2;exact h2.symm
theorem Ya2 {σ ρ:Type} {f:σ→Option (σ⊕ρ)} {s:σ} {r:ρ} (h:f s=some (.inr r)):Yap f s=some r:=
 Yih (n:=1) (by rw[iter,h];rfl)
theorem Ych {σ ρ:Type} {f:σ→Option (σ⊕ρ)} {s s':σ} (h:f s=some (.inl s')):Yap f s=Yap f s':=by
 by_cases hh:∃ r n,iter f n s'=some r
 ·obtain⟨r,n,hn⟩:=hh
  rw[Yih hn]
  exact Yih (n:=n+1) (by rw[iter,h];exact hn)
 ·have h1:¬ ∃ r n,iter f n s=some r:=by
   rintro⟨r,n,hn⟩
   cases n with
   |zero=>cases hn
   |succ n=>rw[iter,h] at hn;exact hh ⟨r,n,hn⟩
  unfold Yap;rw[dif_neg hh,dif_neg h1]
theorem Ytt (h1 : -9223372036854775808≤x) (h2:x≤9223372036854775807):w64 x=x:=by
 simp[w64,IntKind.wrap,IntKind.bits,IntKind.signed];omega
theorem Ytf {i:Int} {n:Nat} (h1:0≤i) (h2:i<n):inB i n=true:=by
 simp[inB,h1,h2]
theorem Yva {i n:Nat} (h:i<n):decide ((i:Int)<(n:Int))=true:=by simp;omega
theorem Yu5 {i n:Nat} (h:n≤i):decide ((i:Int)<(n:Int))=false:=by simp;omega
theorem Yup {i:Nat} (h:i<4294967296):w64 ((i:Int)+1)=((i+1:Nat):Int):=by rw[Ytt (by omega) (by omega)];rfl
def Ybs {α τ ρ:Type} (step:Nat→α→τ→τ⊕ρ) (e:τ→ρ):Nat→List α→τ→ρ
 |_,[],t=>e t
 |i,x::l,t=>sel (step i x t) (fun t'=>Ybs step e (i+1) l t') (fun r=>r)
theorem Ygc (l:List α) (mk:Nat→τ→σ) (step:Nat→α→τ→τ⊕ρ) (e:τ→ρ)
  (hs:∀ (i:Nat) (h:i<l.length) (t:τ),f (mk i t)=some (sel (step i l[i] t) (fun t'=>.inl (mk (i+1) t')) (fun r=>.inr r)))
  (he:∀ t,f (mk l.length t)=some (.inr (e t))):∀ (k i:Nat) (t:τ),i+k=l.length→Yap f (mk i t)=some (Ybs step e i (l.drop i) t)
 |0,i,t,hi=>by
  have:i=l.length:=by omega
  subst this
  rw[Ya2 (he t)];simp[Ybs]
 |k+1,i,t,hi=>by
  have hlt:i<l.length:=by omega
  rw[kZ hlt,Ybs];have:=hs i hlt t
  cases hst:step i l[i] t with
  |inl t'=>rw[hst] at this;rw[Ych this,Ygc l mk step e hs he k (i+1) t' (by omega)];rfl
  |inr r=>rw[hst] at this;rw[Ya2 this];rfl
theorem Yii (l:List α) (mk:Nat→τ→σ) (step:Nat→α→τ→τ⊕ρ) (e:τ→ρ)
  (hs:∀ (i:Nat) (h:i<l.length) (t:τ),f (mk i t)=some (sel (step i l[i] t) (fun t'=>.inl (mk (i+1) t')) (fun r=>.inr r)))
  (he:∀ t,f (mk l.length t)=some (.inr (e t))) (t:τ) (hs0:s=mk 0 t):Yap f s=some (Ybs step e 0 l t):=by
 rw[hs0,Ygc l mk step e hs he l.length 0 t (by omega)];rfl
theorem Yij (l:List α) (mk:Nat→τ→σ) (step:Nat→α→τ→τ⊕ρ) (e:τ→ρ) (I:Nat→τ→Prop)
  (hs:∀ (i:Nat) (h:i<l.length) (t:τ),I i t→f (mk i t)=some (sel (step i l[i] t) (fun t'=>.inl (mk (i+1) t')) (fun r=>.inr r)))
  (hI:∀ (i:Nat) (h:i<l.length) (t t':τ),I i t→step i l[i] t=.inl t'→I (i+1) t')
  (he:∀ t,I l.length t→f (mk l.length t)=some (.inr (e t))):∀ (k i:Nat) (t:τ),i+k=l.length→I i t→Yap f (mk i t)=some (Ybs step e i (l.drop i) t)
 |0,i,t,hi,h0=>by
  have:i=l.length:=by omega
  subst this
  rw[Ya2 (he t h0)];simp[Ybs]
 |k+1,i,t,hi,h0=>by
  have hlt:i<l.length:=by omega
  rw[kZ hlt,Ybs];have:=hs i hlt t h0
  cases hst:step i l[i] t with
  |inl t'=>rw[hst] at this;rw[Ych this,Yij l mk step e I hs hI he k (i+1) t' (by omega) (hI i hlt t t' h0 hst)];rfl
  |inr r=>rw[hst] at this;rw[Ya2 this];rfl
theorem Yl9 (l:List α) (mk:Nat→τ→σ) (step:Nat→α→τ→τ⊕ρ) (e:τ→ρ) (I:Nat→τ→Prop)
  (hs:∀ (i:Nat) (h:i<l.length) (t:τ),I i t→f (mk i t)=some (sel (step i l[i] t) (fun t'=>.inl (mk (i+1) t')) (fun r=>.inr r)))
  (hI:∀ (i:Nat) (h:i<l.length) (t t':τ),I i t→step i l[i] t=.inl t'→I (i+1) t')
  (he:∀ t,I l.length t→f (mk l.length t)=some (.inr (e t))) (t:τ) (h0:I 0 t) (hs0:s=mk 0 t):Yap f s=some (Ybs step e 0 l t):=by
 rw[hs0,Yij l mk step e I hs hI he l.length 0 t (by omega) h0];rfl
theorem Yjq (p:α→Bool) (r e:ρ):∀ (l:List α) (i:Nat),Ybs (τ:=Unit) (fun _ x _=>cond (p x) (.inr r) (.inl ())) (fun _=>e) i l ()=cond (l.any p) r e
 |[],i=>rfl
 |x::l,i=>by
  simp only[Ybs,List.any_cons];cases h:p x
  ·simp only[cond_false,sel,Bool.false_or];exact Yjq p r e l (i+1)
  ·rfl
def Yf8 {α:Type} (c:α→Int):List α→Int
 |[]=>0
 |x::l=>cond (c x != 0) (c x) (Yf8 c l)
theorem Yh5 (g:τ→α→τ) (e:τ→ρ):∀ (l:List α) (i:Nat) (t:τ),Ybs (fun _ x t=>.inl (g t x)) e i l t=e (l.foldl g t)
 |[],i,t=>rfl
 |x::l,i,t=>by simp only[Ybs,sel,Yh5 g e l (i+1),kI]
theorem Ytz {α:Type} (b:Bool) (x y:α):some (cond b x y)=cond b (some x) (some y):=by cases b<;>rfl
theorem getD_lt {α:Type} {l:List α} {i:Nat} (d:α) (h:i<l.length):l.getD i d=l[i]:=by simp[List.getD,h]
theorem toNat_cast (i:Nat):((i:Int)).toNat=i:=kY i
theorem Yu7 {i n:Nat} (h:i<n):inB (i:Int) n=true:=Ytf (by omega) (by omega)
theorem Yus {α:Type} (x y:α):cond true x y=x:=rfl
theorem Yur {α:Type} (x y:α):cond false x y=y:=rfl
theorem Ytx {α:Type} (b:Bool) (x:α):cond b x x=x:=by cases b<;>rfl
theorem Yux (a:α) (f:α→γ) (g:β→γ):sel (.inl a) f g=f a:=rfl
theorem Yuy (a:β) (f:α→γ) (g:β→γ):sel (.inr a) f g=g a:=rfl
theorem Yth {α:Type} (l:List α) {f:Int→Option (Int⊕(Int⊕Unit))} (c:α→Int)
  (hs:∀ (i:Nat) (h:i<l.length),f (i:Int)=cond (c l[i] != 0) (some (.inr (.inl (c l[i])))) (some (.inl ((i+1:Nat):Int)))) (he:f (l.length:Int)=some (.inr (.inr ()))) :
  Yap f 0=some (cond (Yf8 c l != 0) (.inl (Yf8 c l)) (.inr ())):=by
 have h:=Yii (τ:=Unit) l (fun i _=>(i:Int)) (fun _ x _=>cond (c x != 0) (.inr (.inl (c x))) (.inl ())) (fun _=>(.inr ():Int⊕Unit)) (fun i hi t=>by rw[hs i hi];cases (c l[i] != 0)<;>rfl) (fun t=>he) () (s:=0) rfl
 rw[h]
 congr 1
 clear h hs he
 have:∀ (l:List α) (i:Nat),Ybs (τ:=Unit) (fun _ x _=>cond (c x != 0) (.inr (.inl (c x))) (.inl ())) (fun _=>(.inr ():Int⊕Unit)) i l ()=cond (Yf8 c l != 0) (.inl (Yf8 c l)) (.inr ()):=by
  intro l
  induction l with
  |nil=>intro i;rfl
  |cons x l ih=>
   intro i;simp only[Ybs,Yf8];cases h:(c x != 0)
   ·simp only[cond_false,sel];exact ih (i+1)
   ·simp only[cond_true,sel,h]
 exact this l 0
theorem Yue {α ρ:Type} (l:List α) {f:Int→Option (Int⊕(ρ⊕Unit))} (p:α→Bool) (r:ρ)
  (hs:∀ (i:Nat) (h:i<l.length),f (i:Int)=cond (p l[i]) (some (.inr (.inl r))) (some (.inl ((i+1:Nat):Int)))) (he:f (l.length:Int)=some (.inr (.inr ()))) :
  Yap f 0=some (cond (l.any p) (.inl r) (.inr ())):=by
 have h:=Yii (τ:=Unit) l (fun i _=>(i:Int)) (fun _ x _=>cond (p x) (.inr (.inl r)) (.inl ())) (fun _=>(.inr ():ρ⊕Unit)) (fun i hi t=>by rw[hs i hi];cases (p l[i])<;>rfl) (fun t=>he) () (s:=0) rfl
 rw[h,Yjq]
def Yni {α:Type} (p:α→Bool):Nat→List α→Option Nat
 |_,[]=>none
 |i,x::l=>cond (p x) (some i) (Yni p (i+1) l)
theorem Yuf {α:Type} (l:List α) {f:Int→Option (Int⊕(Int⊕Unit))} (p:α→Bool)
  (hs:∀ (i:Nat) (h:i<l.length),f (i:Int)=cond (p l[i]) (some (.inr (.inl (i:Int)))) (some (.inl ((i+1:Nat):Int)))) (he:f (l.length:Int)=some (.inr (.inr ()))) (n:Nat) (hn:n≤l.length) :
  Yap f (n:Int)=some (match Yni p n (l.drop n) with | some j=>.inl (j:Int) | none=>.inr ()):=by
 have h:=Ygc (τ:=Unit) l (fun i _=>(i:Int)) (fun i x _=>cond (p x) (.inr (.inl (i:Int))) (.inl ())) (fun _=>(.inr ():Int⊕Unit)) (fun i hi t=>by rw[hs i hi];cases (p l[i])<;>rfl) (fun t=>he) (l.length-n) n () (by omega)
 rw[h]
 congr 1
 clear h hs he
 have:∀ (l:List α) (i:Nat),Ybs (τ:=Unit) (fun i x _=>cond (p x) (.inr (.inl (i:Int))) (.inl ())) (fun _=>(.inr ():Int⊕Unit)) i l ()=(match Yni p i l with | some j=>.inl (j:Int) | none=>.inr ()):=by
  intro l
  induction l with
  |nil=>intro i;rfl
  |cons x l ih=>
   intro i;simp only[Ybs,Yni];cases h:(p x)
   ·simp only[cond_false,sel];exact ih (i+1)
   ·simp only[cond_true,sel]
 exact this _ _
theorem Yo9:∀ {l:List α} {i:Nat},Yni p i l=none↔l.any p=false
 |[],i=>by simp[Yni]
 |x::l,i=>by
  simp only[Yni,List.any_cons];cases p x
  ·simp only[cond_false,Bool.false_or];exact Yo9
  ·simp
theorem Yno {α τ ρ:Type} (l:List α) {f:Int×τ→Option ((Int×τ)⊕ρ)} (g:τ→α→τ) (e:τ→ρ) (I:Nat→τ→Prop)
  (hs:∀ (i:Nat) (h:i<l.length) (t:τ),I i t→f ((i:Int),t)=some (.inl (((i+1:Nat):Int),g t l[i]))∧I (i+1) (g t l[i])) (he:∀ t,I l.length t→f ((l.length:Int),t)=some (.inr (e t))) (t:τ) (h0:I 0 t) :
  Yap f (0,t)=some (e (l.foldl g t)):=by
 have h:=Yl9 (τ:=τ) l (fun i t=>((i:Int),t)) (fun _ x t=>.inl (g t x)) e I (fun i hi t h=>by rw[(hs i hi t h).1];rfl) (fun i hi t t' h e=>by cases e;exact(hs i hi t h).2) he t h0 (s:=(0,t)) rfl
 rw[h,Yh5]
theorem foldl_map {α β:Type} (g:α→β):∀ (l:List α) (t:List β),l.foldl (fun t x=>t++[g x]) t=t++l.map g
 |[],t=>by simp
 |x::l,t=>by simp[foldl_map g l]
theorem Yty {α β ρ:Type} (l:List α) {f:Int×List β→Option ((Int×List β)⊕ρ)} (g:α→β) (e:List β→ρ) (n:Nat)
  (hs:∀ (i:Nat) (h:i<l.length) (t:List β),t.length=n+i→f ((i:Int),t)=some (.inl (((i+1:Nat):Int),t++[g l[i]]))) (he:∀ t,t.length=n+l.length→f ((l.length:Int),t)=some (.inr (e t))) (t:List β) (ht:t.length=n) :
  Yap f (0,t)=some (e (t++l.map g)):=by
 rw[Yno l (fun t x=>t++[g x]) e (fun i t=>t.length=n+i) (fun i hi t h=>⟨hs i hi t h,by simp[h];omega⟩) (fun t h=>he t h) t (by omega),foldl_map]
theorem Yut {α β:Type} {x:Option α} {f:α→Option β} (h:∃ r,x=some r) (hf:∀ r,∃ q,f r=some q):∃ q,x.bind f=some q:=by
 obtain⟨r,rfl⟩:=h;exact hf r
theorem Yuu {α:Type} {b:Bool} {x y:Option α} (hx:∃ q,x=some q) (hy:∃ q,y=some q):∃ q,cond b x y=some q:=by
 cases b<;>assumption
theorem Yub {α β:Type} {b:Bool} {x y:Option (α⊕β)} {P:α→Prop} (hx:(∃ q,x=some (.inl q)∧P q)∨∃ q,x=some (.inr q)) (hy:(∃ q,y=some (.inl q)∧P q)∨∃ q,y=some (.inr q)) :
  (∃ q,cond b x y=some (.inl q)∧P q)∨∃ q,cond b x y=some (.inr q):=by
 cases b<;>assumption
theorem Yr6 {σ ρ τ:Type} {f:σ→Option (σ⊕ρ)} (mk:Nat→τ→σ) (n:Nat)
  (h:∀ i k,i<n→(∃ s,f (mk i k)=some (.inl s)∧∃ k',s=mk (i+1) k')∨∃ r,f (mk i k)=some (.inr r)) (he:∀ k,∃ r,f (mk n k)=some (.inr r)) :
  ∀ (m i:Nat) (k:τ),i+m=n→∃ r,Yap f (mk i k)=some r
 |0,i,k,hi=>by
  have:i=n:=by omega
  subst this;obtain⟨r,hr⟩:=he k
  exact⟨r,Ya2 hr⟩
 |m+1,i,k,hi=>by
  rcases h i k (by omega) with ⟨s,hs,k',rfl⟩ | ⟨r,hr⟩
  ·rw[Ych hs];exact Yr6 mk n h he m (i+1) k' (by omega)
  ·exact⟨r,Ya2 hr⟩
theorem Yot (a:List α) (B:Int×List α→Option ((Int×List α)⊕List α))
  (hs:∀ (i:Nat) (h:i<a.length) (out:List α),out.length=a.length→B ((i:Int),out)=some (.inl (((i+1:Nat):Int),out.set i a[i])))
  (he:∀ out:List α,out.length=a.length→B ((a.length:Int),out)=some (.inr out)) :
  ∀ (k i:Nat) (out:List α),i+k=a.length→out.length=a.length→(∀ j:Nat,j<i→out[j]? = a[j]?)→Yap B ((i:Int),out)=some a
 |0,i,out,h1,h2,h3=>by
  have e:out=a:=List.ext_getElem? (fun j=>by
   by_cases hj:j<i
   ·exact h3 j hj
   ·rw[List.getElem?_eq_none (by omega),List.getElem?_eq_none (by omega)])
  have:i=a.length:=by omega
  subst this
  rw[Ya2 (he out h2),e]
 |k+1,i,out,h1,h2,h3=>by
  have hi:i<a.length:=by omega
  rw[Ych (hs i hi out h2)]
  refine Yot a B hs he k (i+1) _ (by omega) (by simp[h2]) (fun j hj=>?_)
  by_cases e:j=i
  ·subst e
   rw[List.getElem?_set_self (by omega),kV hi]
  ·rw[List.getElem?_set_ne (fun x=>e x.symm)]
   exact h3 j (by omega)
theorem Yuo (a:List α) (B:Int×List α→Option ((Int×List α)⊕List α)) (z:α)
  (hs:∀ (i:Nat) (h:i<a.length) (out:List α),out.length=a.length→B ((i:Int),out)=some (.inl (((i+1:Nat):Int),out.set i a[i])))
  (he:∀ out:List α,out.length=a.length→B ((a.length:Int),out)=some (.inr out)):Yap B (0,List.replicate (a.length:Int).toNat z)=some a:=by
 have:=Yot a B hs he a.length 0 (List.replicate (a.length:Int).toNat z) (by omega) (by simp) (fun j hj=>by omega)
 simpa using this
theorem Yoe (B:Int→Option (Int⊕(Bool⊕Unit))) (hs:∀ i:Nat,i<n→B (i:Int)=some (.inl ((i+1:Nat):Int))) (he:B (n:Int)=some (.inr (.inr ()))) :
  ∀ (k i:Nat),i+k=n→Yap B (i:Int)=some (.inr ())
 |0,i,h=>by
  have:i=n:=by omega
  subst this;exact Ya2 he
 |k+1,i,h=>by rw[Ych (hs i (by omega))];exact Yoe B hs he k (i+1) (by omega)
theorem Yt9 (B:Int→Option (Int⊕(Bool⊕Unit))) (hs:∀ i:Nat,i<n→B (i:Int)=some (.inl ((i+1:Nat):Int))) (he:B (n:Int)=some (.inr (.inr ()))):Yap B 0=some (.inr ()):=Yoe B hs he n 0 (by omega)
def MH {α:Type} (M:α→Int→Option (Int×α)) (H:α→Int→Option Int) (w:Nat) (a:α) (k:Int):Prop:=
 ∃ k' a',k≤k'∧k'≤k+w∧M a k=some (k',a')∧H a' k=some k'
theorem Yk1 {α:Type} (w:α→Nat) (h:∀ x,1≤w x):∀ xs:List α,xs.length≤(xs.map w).sum
 |[]=>jB _
 |x::xs=>by have:=Yk1 w h xs;have:=h x;simp only[jS,List.sum_cons,jH];omega
theorem Yr8 {α:Type} (w:α→Nat):∀ (xs:List α) (i:Nat) (h:i<xs.length),w xs[i]≤(xs.map w).sum
 |[],i,h=>absurd h (Nat.not_lt_zero _)
 |x::xs,0,h=>by simp
 |x::xs,i+1,h=>by
  have:=Yr8 w xs i (by simpa using h)
  simp only[List.getElem_cons_succ,jS,List.sum_cons];omega
theorem Yua {α β γ:Type} {x:Option α} {f:α→Option (β⊕γ)} {P:β→Prop} (h:∃ r,x=some r) (hf:∀ r,(∃ q,f r=some (.inl q)∧P q)∨∃ q,f r=some (.inr q)) :
  (∃ q,x.bind f=some (.inl q)∧P q)∨∃ q,x.bind f=some (.inr q):=by
 obtain⟨r,rfl⟩:=h;exact hf r
def MK {α:Type} (M:α→Int→Option (Int×α)) (w:Nat) (a:α) (k:Int):Prop:=∃ k' a',k≤k'∧k'≤k+w∧M a k=some (k',a')
theorem MH.mk {α:Type} {M:α→Int→Option (Int×α)} {H:α→Int→Option Int} {w:Nat} {a:α} {k:Int} (h:MH M H w a k):MK M w a k:=by
 obtain⟨k',a',h1,h2,h3,_⟩:=h;exact⟨k',a',h1,h2,h3⟩
theorem Yuv {α:Type} (x:α):∃ q,some x=some q:=⟨x,rfl⟩
theorem Yu2 {σ ρ:Type} {P:σ→Prop} (r:ρ):(∃ s,some (Sum.inr r:σ⊕ρ)=some (.inl s)∧P s)∨∃ q,some (Sum.inr r:σ⊕ρ)=some (.inr q):=.inr ⟨_,rfl⟩
theorem Yvj {α β:Type} (p:α×β):(p.1,p.2)=p:=rfl
theorem Yro (e:Ty) (xs:List e.El):wt (.sl e) xs=(xs.map (wt e)).sum+1:=rfl
theorem Ylk (a b:Ty) (x:a.El×b.El):wt (.pair a b) x=wt a x.1+wt b x.2:=rfl
theorem Ytu (k:IntKind) (x:Int):wt (.int k) x=1:=rfl
theorem Yn3 (x:List UInt8):wt .str x=x.length+1:=rfl
theorem Ysu (x:Unit):wt .unit x=0:=rfl
theorem wA:(∀ (e:Ty) (x:List e.El),wt (.sl e) x=(x.map (wt e)).sum+1)∧(∀ (a b:Ty) (x:a.El×b.El),wt (.pair a b) x=wt a x.1+wt b x.2)∧(∀ (k:IntKind) (x:Int),wt (.int k) x=1)∧(∀ x:Bool,wt .bool x=1)∧(∀ x:List UInt8,wt .str x=x.length+1)∧∀ x:Unit,wt .unit x=0:=
 ⟨Yro,Ylk,Ytu,fun _=>rfl,Yn3,Ysu⟩
theorem Yt3 (x:Int):(x != x)=false:=by simp
theorem Ytw (x:List UInt8):(x == x)=true:=by simp
theorem Ytv (x:Bool):(x == x)=true:=by simp
def Bd:(t:Ty)→t.El→Prop
 |.int _,_ | .bool,_ | .unit,_=>True
 |.str,x=>(x:List UInt8).length≤2147483648
 |.pair a b,x=>Bd a x.1∧Bd b x.2
 |.sl e,xs=>(xs:List e.El).length≤2147483648∧∀ x∈(xs:List e.El),Bd e x
 |.arr _ e,xs=>(xs:List e.El).length≤2147483648∧∀ x∈(xs:List e.El),Bd e x
def Ypp:Ty→Bool
 |.int _ | .bool | .str | .sl _=>true
 |.unit | .arr _ _=>false
 |.pair a b=>Ypp a || Ypp b
def okT:Ty→Bool
 |.int _ | .bool | .str | .unit=>true
 |.sl e=>Ypp e&&okT e
 |.arr _ e=>Ypp e&&okT e
 |.pair a b=>okT a&&okT b
theorem Yll:∀ {t:Ty},Ypp t=true→∀ x:t.El,1≤wt t x
 |.int _,_,x | .bool,_,x=>jB 1
 |.str,_,x=>by simp only[Yn3];omega
 |.sl e,_,x=>by simp only[Yro];omega
 |.unit,h,x | .arr _ _,h,x=>by cases h
 |.pair a b,h,x=>by
  simp only[Ypp,Bool.or_eq_true] at h;simp only[Ylk];rcases h with h | h
  ·have:=Yll h x.1;omega
  ·have:=Yll h x.2;omega
theorem Yik {α:Type} (w:α→Nat) {x:α}:∀ {xs:List α},x∈xs→w x≤(xs.map w).sum
 |y::xs,h=>by
  simp only[jS,List.sum_cons];rcases List.mem_cons.1 h with rfl | h
  ·omega
  ·have:=Yik w h;omega
theorem Yn7:∀ {t:Ty},okT t=true→∀ {x:t.El},wt t x≤2147483648→Bd t x
 |.int _,_,x,_ | .bool,_,x,_ | .unit,_,x,_=>trivial
 |.str,_,x,h=>by rw[Yn3] at h;show x.length≤_;omega
 |.pair a b,ht,x,h=>by
  simp only[okT,jC] at ht;simp only[Ylk] at h
  exact⟨Yn7 ht.1 (by omega),Yn7 ht.2 (by omega)⟩
 |.sl e,ht,xs,h=>by
  simp only[okT,jC] at ht;simp only[Yro] at h;have:=Yk1 (wt e) (Yll ht.1) xs
  exact⟨by omega,fun x hx=>Yn7 ht.2 (by have:=Yik (wt e) hx;omega)⟩
 |.arr _ e,ht,xs,h=>by
  simp only[okT,jC] at ht;have h:(List.map (wt e) xs).sum≤2147483648:=h;have:=Yk1 (wt e) (Yll ht.1) xs
  exact⟨by omega,fun x hx=>Yn7 ht.2 (by have:=Yik (wt e) hx;omega)⟩
def Yp9 {α:Type} (xs:List α):Option (List α):=cond (decide (xs.length≤2147483648)) (some xs) none
def Ys1 (xs:List Int):Option (List Int):=cond (decide (xs.length≤2147483648)) (some (xs.mergeSort fun x y=>decide (x≤y))) none
section
variable {Z:W0} {C:Cx} {w w':World} {a:Act}
variable {P:Program}
theorem Yg7 (g:o.guard=none):Region.wanted o (yielded ops a.tmps)=true:=by
 unfold Region.wanted;rw[g]
theorem Yod (h:(execOp a.eval o).run P w=.ok (.value u) w) (hK:K (a.put o.dst u) w):o.wp P a w K Q:=by
 unfold Oper.wp;rw[h];exact hK
theorem Ypx {id:Nat} {o1 o2:Oper} {t t' et:TypeId} {e:Ty} {xs:List e.El} {d0 d1 d2:Nat}
  (h1:o1.op=.move (.tmp d0)) (e1:o1.dst=some d1) (g1:o1.guard=none)
  (h2:o2.op=.binOp .eql t (.tmp d1) (.const (.slice none 0 0)) t') (e2:o2.dst=some d2) (g2:o2.guard=none)
  (hu:P.underlying t=some (.slice et)) (I:Inv Z S C a w) (hS:Ya7 S) (hd1:d1<Z.nt) (hd2:d2<Z.nt) (hx:lk d0 S.tm=some (.cl .sh (.sl e) xs)) {Q:Exit→Act→World→Prop}
  (hQ:∀ a' (b:Bool),(b=true→xs=[])→Inv Z ((S.ap ⟨[(d1,.cl .sh (.sl e) xs)],[],[]⟩).ap ⟨[(d2,.cl .sh .bool b)],[],[]⟩) C a' w→Q .normal a' w) :
  (Code.region id #[o1,o2] false).wp P Q a w:=by
 have hv:Yb w (Mt Z C S.root noB) C.L S.root (.cl .sh (.sl e) xs) (a.tmps.getD d0 undef):=I.tm d0 _ hx;obtain⟨A,c,hval⟩:=hv.sl
 have hA:A=none→xs=[]:=by
  intro hn;obtain⟨A',c',hc,hle,hne⟩:=(hv.1:Rep _ _ (.sl e) .sh xs _ _);rw[hval] at hc;have:some (Value.slice A xs.length c)=some (.slice A' xs.length c'):=hc;cases this
  by_cases hxs:xs=[]
  ·exact hxs
  ·obtain⟨b,off,h,_⟩:=hne hxs;rw[hn] at h;cases h
 refine wp_region ?_;show wpOps P #[o1,o2] Q [0,1] a w;rw[wpOps_cons]
 refine Yf4 (o:=o1) rfl (Yg7 g1) (Yod (u:=a.tmps.getD d0 undef) (by simp[execOp,h1,Act.eval]) ?_)
 have I1:Inv Z (S.ap ⟨[(d1,.cl .sh (.sl e) xs)],[],[]⟩) C (a.put o1.dst (a.tmps.getD d0 undef)) w:=by
  rw[e1];exact I.slot (fun i t b x h=>absurd h (hS i t b x)) hd1 (VOk.tm (v:=.cl .sh (.sl e) xs) hv _)
 have hval1:(a.put o1.dst (a.tmps.getD d0 undef)).eval (.tmp d1)=.slice A xs.length c:=by
  have:=I1.tm d1 (.cl .sh (.sl e) xs) (by simp[St.ap,Yv,lk])
  rw[e1,Act.put];simp only[Act.eval];rw[←hval];have hts:=I.ts;simp[Array.getD,hts,hd1]
 generalize hS1:(S.ap ⟨[(d1,.cl .sh (.sl e) xs)],[],[]⟩)=S1 at I1 hQ;generalize ha1:a.put o1.dst (a.tmps.getD d0 undef)=a1 at I1 hval1;rw[wpOps_cons]
 have hS1n:Ya7 S1:=by
  rw[←hS1];intro s t b v hv;rw[Ydx] at hv;simp only at hv
  by_cases es:s=d1
  ·subst es;rw[Yk] at hv;cases hv
  ·rw[Yr es] at hv
   simp only[lk] at hv
   cases hl:lk s S.tm with
   |none=>rw[hl] at hv;cases hv
   |some v0=>
    rw[hl] at hv;simp only[jT,jD] at hv;obtain⟨u',rfl⟩:=Ygb hv;exact hS s t b u' hl
 refine Yf4 (o:=o2) rfl (Yg7 g2) (Yod (u:=.bool A.isNone) ?_ ?_)
 ·have hq:=Lib.run_eql_slice_nil (P:=P) w t et A xs.length c 0 0 hu
  have hg:(eqGuard .eql t (.tmp d1) (.const (.slice none 0 0)) (.slice A xs.length c) (.slice none 0 0)).run P w=.ok () w:=by unfold eqGuard;rfl
  have hc:a1.eval (.const (.slice none 0 0))=.slice none 0 0:=rfl;simp only[execOp,h2,hval1,hc,Sem.run_bind,hg,Result.andThen_ok,hq];rfl
 ·show Q .normal _ w
  refine hQ _ A.isNone (fun h=>hA (by simpa using h)) ?_
  rw[e2];exact I1.slot (fun i t b x h=>absurd h (hS1n i t b x)) hd2 (VOk.tm (v:=.cl .sh .bool A.isNone) (Yb.Ybj _ _) _)
end
section
variable {Z:W0} {C:Cx} {w w':World} {a:Act}
variable {P:Program} {L:Lam} {hn:Hint}
def Ybz (e:Ty):SP:=⟨[(0,.cl .sh (.sl e))],[]⟩
def Ycb (o:Ow) (e:Ty) (xs:List e.El):St:=⟨[(2,.seg 2 [])],[(2,some ⟨.reg,.cl o (.sl e) xs⟩)]⟩
def Ykn (o:Ow) (e:Ty) (xs:List e.El):St:=⟨[(2,.seg 2 []),(0,.cl .sh (.sl e) xs)],[(2,some ⟨.reg,.cl o (.sl e) []⟩)]⟩
def Ycn (o:Ow) (e:Ty) (xs:List e.El) (b:Bool):St:=(((Ykn o e xs).ap ⟨[(3,.cl .sh (.sl e) xs)],[],[]⟩).ap ⟨[(4,.cl .sh .bool b)],[],[]⟩).is 4 b
def Ykm (o:Ow) (e:Ty) (x:(Ybz e).El) (R:Type) (k:Ex→St→Option R):Option R:=cond (decide (x.1.1.length≤2147483648)) (k .rt (Ycb o e x.1.1)) none
theorem Ym6 (ht:Yag P tb) (hG:GOk P G) (hm:P.follows .mixedOrders=true)
  (h1:o1.op=.move (.tmp 0)) (e1:o1.dst=some 3) (g1:o1.guard=none)
  (h2:o2.op=.binOp .eql t (.tmp 3) (.const (.slice none 0 0)) t') (e2:o2.dst=some 4) (g2:o2.guard=none) (hu:P.underlying t=some (.slice et))
  (E0:∀ xs:List e.El,ev tb hn 8 1 G (mkL []) R0 .no ⟨[(0,.cl .sh (.sl e) xs)],[]⟩ (fun e S=>some (e,S))=some (.nm,Ykn o e xs))
  (E2:∀ xs:List e.El,ev tb hn 8 1 G (mkL []) R2 .no (Ycn o e xs true) (fun e S=>some (e,S.keep [2] [2]))=some (.rt,Ycb o e []))
  (E3:∀ xs:List e.El,ev tb hn 8 1 G (mkL []) R3 .no (Ycn o e xs false) (fun e S=>some (e,S.keep [2] [2]))=cond (decide (xs.length≤2147483648)) (some (.rt,Ycb o e xs)) none) :
  Ya6 P 8 1 (R0.seq (((Code.region i1 #[o1,o2] false).seq (.cond (.tmp 4) R2 .skip)).seq R3)) (Ye3 (Ybz e) (Ykm o e)):=by
 intro S R k r hS he;unfold Ye3 at he
 split at he
 ·rename_i x hx
  simp only[Ykm] at he
  cases hl:decide (x.1.1.length≤2147483648) with
  |false=>rw[hl] at he;cases he
  |true=>
   rw[hl] at he;have hkeep:=SP.Yoq (sp:=Ybz e) rfl hx
   have hret:Ya7 (Ycb o e x.1.1):=by
    intro s t b v hv;simp only[Ycb,lk] at hv
    split at hv<;>cases hv
   refine⟨.rt,_,he,hret,fun Z C a w Q hnt hnp I hQ=>?_⟩;have I0:=I.keep (Ybz e).tk (Ybz e).rk;rw[←hkeep] at I0
   have hN0:Ya7 ((Ybz e).mk' x):=by rw[hkeep];exact hS.keep _ _
   obtain⟨ex,S',q1,q2,q3⟩:=Yc3 (np:=1) (nt:=8) (hn:=hn) (L:=mkL []) ht hG hm R0 .no trivial ((Ybz e).mk' x) _ _ _ hN0 (E0 x.1.1);cases q1;refine wp_seq (q3 Z C a w _ hnt hnp I0 (fun C a w I1=>?_))
   refine wp_seq (wp_seq (Ypx h1 e1 g1 h2 e2 g2 hu I1 q2 (by omega) (by omega) (xs:=x.1.1) rfl (fun a' b hb I2=>?_)))
   have hb4:a'.tmps.getD 4 undef=.bool b:=(I2.tm 4 (.cl .sh .bool b) rfl:Yb _ _ _ _ _ _).bool;have I3:=I2.is hb4
   have hN3:Ya7 (Ycn o e x.1.1 b):=by
    have:(Ycn o e x.1.1 b).tm=[(4,.kb b),(4,.cl .sh .bool b),(3,.cl .sh (.sl e) x.1.1),(2,.seg 2 []),(0,.cl .sh (.sl e) x.1.1)]:=rfl;intro s t b' v hv;rw[this] at hv;simp only[lk_consU] at hv
    repeat' (split at hv)
    all_goals cases hv
   cases b with
   |true=>
    have hx0:=hb rfl;obtain⟨ex,S',q1,q2,q3⟩:=Yc3 (np:=1) (nt:=8) (hn:=hn) (L:=mkL []) ht hG hm R2 .no trivial (Ycn o e x.1.1 true) _ _ _ hN3 (E2 x.1.1);simp only[jD,jV] at q1;obtain⟨rfl,hk⟩:=q1;refine wp_cond_true hb4 (q3 Z C a' w _ hnt hnp I3 (fun C a w I4=>?_));have I5:=I4.keep [2] [2];rw[hk] at I5;refine hQ C a w ?_
    rw[hx0];exact I5
   |false=>
    have hE:=E3 x.1.1;rw[hl] at hE;obtain⟨ex,S',q1,q2,q3⟩:=Yc3 (np:=1) (nt:=8) (hn:=hn) (L:=mkL []) ht hG hm R3 .no trivial (Ycn o e x.1.1 false) _ _ _ hN3 hE;simp only[jD,jV] at q1;obtain⟨rfl,hk⟩:=q1;refine wp_cond_false hb4 (wp_skip ?_);refine q3 Z C a' w _ hnt hnp I3 (fun C a w I4=>?_);have I5:=I4.keep [2] [2];rw[hk] at I5;exact hQ C a w I5
 ·cases he
def opAt (c:Code) (i:Nat):Oper:=match c with
 |.region _ ops _=>ops.toList.getD i {dst:=none,op:=.move (.tmp 0),type:=0,pos:="",after:=#[],guard:=none }
 |_=>{dst:=none,op:=.move (.tmp 0),type:=0,pos:="",after:=#[],guard:=none }
def Yu6 (c:Code):Nat:=match c with
 |.region i _ _=>i
 |_=>0
theorem Yt5 (ht:Yag P tb) (hm:P.follows .mixedOrders=true) (hf:P.funcs[f]? = some fn) (hb:fn.body=some (Yah fn)) (hname:(fn.name == "runtime.NumGoroutine")=false) (hnt:fn.ntmps=8) (o:Ow) (e:Ty) (t t' et:TypeId)
  (hbody:Yah fn=(Yal (Yah fn) [0]).seq (((Code.region (Yu6 (Yal (Yah fn) [1,0,0])) #[opAt (Yal (Yah fn) [1,0,0]) 0,opAt (Yal (Yah fn) [1,0,0]) 1] false).seq (.cond (.tmp 4) (Yal (Yah fn) [1,0,1,0]) .skip)).seq (Yal (Yah fn) [1,1])))
  (h1:(opAt (Yal (Yah fn) [1,0,0]) 0).op=.move (.tmp 0)) (e1:(opAt (Yal (Yah fn) [1,0,0]) 0).dst=some 3) (g1:(opAt (Yal (Yah fn) [1,0,0]) 0).guard=none)
  (h2:(opAt (Yal (Yah fn) [1,0,0]) 1).op=.binOp .eql t (.tmp 3) (.const (.slice none 0 0)) t') (e2:(opAt (Yal (Yah fn) [1,0,0]) 1).dst=some 4) (g2:(opAt (Yal (Yah fn) [1,0,0]) 1).guard=none) (hu:P.underlying t=some (.slice et))
  (E0:∀ xs:List e.El,ev tb hn 8 1 (mkG []) (mkL []) (Yal (Yah fn) [0]) .no ⟨[(0,.cl .sh (.sl e) xs)],[]⟩ (fun e S=>some (e,S))=some (.nm,Ykn o e xs))
  (E2:∀ xs:List e.El,ev tb hn 8 1 (mkG []) (mkL []) (Yal (Yah fn) [1,0,1,0]) .no (Ycn o e xs true) (fun e S=>some (e,S.keep [2] [2]))=some (.rt,Ycb o e []))
  (E3:∀ xs:List e.El,ev tb hn 8 1 (mkG []) (mkL []) (Yal (Yah fn) [1,1]) .no (Ycn o e xs false) (fun e S=>some (e,S.keep [2] [2]))=cond (decide (xs.length≤2147483648)) (some (.rt,Ycb o e xs)) none)
  (hfin:∀ x:PT.Els [.cl .sh (.sl e)],Ye3 (Ybz e) (Ykm o e) (Yi (PT.mks [.cl .sh (.sl e)] x)) Out (Yr3 tb hn fn [.sh])=cond (decide (x.1.length≤2147483648)) (some ⟨[.cl o (.sl e) x.1],[]⟩) none) :
  Ycv P f (Yc6 [.sh] [.cl .sh (.sl e)] (fun x=>Yp9 x.1) fun y=>⟨[.cl o (.sl e) y],[]⟩):=by
 refine Ysw (fn:=fn) (hn:=hn) (E:=Ye3 (Ybz e) (Ykm o e)) ht hf hb hname ?_ rfl (by rw[hnt];rfl) fun x=>?_
 ·rw[hnt,hbody];exact Ym6 ht GOk.nil hm h1 e1 g1 h2 e2 g2 hu E0 E2 E3
 ·rw[hfin,Yp9,Ylr]
  rfl
end
section
open Go.Sort
variable {Z:W0} {C:Cx} {w w':World} {a:Act}
variable {P:Program}
theorem Ymk {α:Type} (enc:α→Value) [Inhabited α] (w:World) (b off:Nat) (d:Array α) (b':Nat) (h:b'≠b):Same w (putRow enc w b off d) b':=by
 unfold Same putRow mapBlock;simp only[Array.getElem?_modify];rw[jM (fun e=>h e.symm)]
theorem Yrf {M:Yd} {xs:List Int} {b off:Nat} (hc:∀ i (h:i<xs.length),w.cell? ⟨b,off+i,none⟩=some (.int .i64 xs[i])) (i:Nat) (h:i<xs.length):Rep w M (.int .i64) (Ow.deep.elem) (xs[i]'h) (.mem b (off+i*(Ty.int .i64).size)) noB:=by
 show(Src.mem b (off+i*1)).cell w 0=_;simp only[Src.cell,Nat.mul_one,kF];exact hc i h
theorem Ypt {f:FuncId} (hthere:Ybb P f)
  (hC:∀ (blk off cap:Nat) (zs:List Int) (w:World),Holds (Value.int .i64) w blk off zs.toArray→blk<w.heap.size→zs.length<4611686018427387904→Calls P f #[.slice (some ⟨blk,off,none⟩) zs.length cap] w fun e w'=>
   e=.returned (.tuple #[])∧∃ n os,w'=grow (putRow (Value.int .i64) (Sort.ahead w n) blk off (zs.mergeSort fun x y=>decide (x≤y)).toArray) os)
  (hN:∀ (p:Option Addr) (cap:Nat) (w:World),Calls P f #[.slice p 0 cap] w fun e w'=>e=.returned (.tuple #[])∧w'=w) (xs:List Int) (hlen:xs.length≤2147483648) :
  Ycu P f [.mu] [.cl .deep (.sl (.int .i64)) xs] ⟨[],[.cl .deep (.sl (.int .i64)) (xs.mergeSort fun x y=>decide (x≤y))]⟩ where
 there:=hthere
 calls:=by
  intro Z C us hl hnt hP1 hP2 I;have hus:us.size=1:=hl;have hR:(Yi [.cl .deep (.sl (.int .i64)) xs]).root 0=some ⟨.reg,.cl .deep (.sl (.int .i64)) xs⟩:=rfl
  have hR':∀ r R,(Yi [.cl .deep (.sl (.int .i64)) xs]).root r=some R→r=0∧R=⟨.reg,.cl .deep (.sl (.int .i64)) xs⟩:=by
   intro r R h
   by_cases e:r=0
   ·subst e;rw[hR] at h;refine And.intro rfl ?_;cases h;rfl
   ·exfalso
    have:(Yi [.cl .deep (.sl (.int .i64)) xs]).root r=none:=by
     rw[Yar,List.getElem?_eq_none (by simp;omega)];rfl
    rw[this] at h;cases h
  obtain⟨cs,hcs⟩:=I.str.reg 0 _ hR rfl;obtain⟨A,c,h1,h2,h3⟩:=(I.str.rep 0 _ hR:Rep Z.w _ (.sl (.int .i64)) .deep xs (C.L 0) (C.F 0))
  have hu:us[0]? = some (.slice A xs.length c):=by
   have ht:Yb _ _ _ _ (.seg 0 []) ((⟨us,[]⟩:Act).tmps.getD 0 undef):=I.tm 0 (.seg 0 []) rfl;obtain⟨u,e1,R,s,o,e,ys,q1,q2,q3,q4,A',n',c',q5⟩:=ht.1;rw[hR] at q1;cases q1;rw[Yf] at q2;cases q2;rw[h1] at q4;cases q4
   have hagg:¬ ∃ cs,us.getD 0 undef=.agg cs:=fun h=>by
    have:=ht.2.2.2 h;cases this
   have hone:=Yc0 hagg;simp only[Src.cell,hone] at e1
   have:us.getD 0 undef=.slice A xs.length c:=by simpa using e1
   have h0:0<us.size:=by omega
   simp[Array.getD,h0] at this;rw[Array.getElem?_eq_getElem h0,this]
  have hus2:us=#[.slice A xs.length c]:=by
   apply Array.ext (by simp[hus])
   intro i h4 h5
   have:i=0:=by omega
   subst this;rw[Array.getElem?_eq_getElem h4] at hu
   simpa using hu
  rw[hus2]
  have S0:Str Z (fun _ _=>False) C noB (Yi [.cl .deep (.sl (.int .i64)) xs]).root Z.w:=by
   have hs:=I.str
   refine {hs with rep:=?_ }
   intro r R h;obtain⟨rfl,rfl⟩:=hR' r R h;exact hs.rep 0 _ hR
  have fin:∀ (w':World) (ρ:Yc) (ys:List Int),Str Z (fun _ _=>False) C noB ρ w'→ρ 0=some ⟨.reg,.cl .deep (.sl (.int .i64)) ys⟩→Yhq Z [.mu] ⟨[],[.cl .deep (.sl (.int .i64)) ys]⟩ (.tuple #[]) w':=by
   intro w' ρ ys hS hρ;exact⟨C,noB,ρ,noB,hS.lf (fun _ _ h=>h.elim),⟨⟨_,hρ,rfl⟩,trivial⟩,fun _ h=>h,rfl,rfl,rfl⟩
  by_cases hx:xs=[]
  ·subst hx
   refine(hN A c Z.w).mono fun e w' ⟨he,hw⟩=>?_;subst he;subst hw
   exact⟨_,rfl,fin _ _ _ S0 (by rw[List.mergeSort_nil];exact hR)⟩
  ·have hpos:0<xs.length:=List.length_pos_iff.2 hx
   obtain⟨b,off,Fs,e1,e2,e3,e4,e5⟩:=h3 (by omega)
   subst e1
   have hcell:∀ i (h:i<xs.length),Z.w.cell? ⟨b,off+i,none⟩=some (.int .i64 xs[i]):=by
    intro i h;have:=(e4 i h).1;have h0:(Src.mem b (off+i*1)).cell Z.w 0=some (.int .i64 xs[i]):=this
    simpa [Src.cell] using h0
   have hH:Holds (Value.int .i64) Z.w b off xs.toArray:=by
    intro j hj
    have hj':j<xs.length:=by simpa using hj
    refine⟨by rw[hcell j hj'];simp[hj'],?_⟩
    exact(e3 j (by simp[Ty.size];omega)).2
   have hb:=(I.str.bnd 0 _ b hR e2).1
   refine(hC b off c xs Z.w hH hb (by omega)).mono fun e w' ⟨he,n,os,hw⟩=>?_
   subst he;refine⟨_,rfl,?_⟩;generalize hys:(xs.mergeSort fun x y=>decide (x≤y))=ys at hw ⊢
   have hyl:ys.length=xs.length:=by rw[←hys];exact(List.mergeSort_perm _ _).length_eq
   let w2:=putRow (Value.int .i64) (Sort.ahead Z.w n) b off ys.toArray
   have hHa:Holds (Value.int .i64) (Sort.ahead Z.w n) b off xs.toArray:=hH
   have hc2:∀ i (h:i<ys.length),w2.cell? ⟨b,off+i,none⟩=some (.int .i64 ys[i]):=by
    intro i h
    have:=cell?_putRow (Value.int .i64) (Sort.ahead Z.w n) b off xs.toArray ys.toArray hHa (by simp[hyl]) i (by simpa using h)
    rw[this];simp[h]
   have hroom:Room w2 b off (c*(Ty.int .i64).size):=by
    intro i hi;obtain⟨r1,r2⟩:=e3 i hi
    refine⟨?_,by rw[frozen?_putRow];exact r2⟩
    by_cases h:i<ys.length
    ·rw[hc2 i h];rfl
    ·rw[cell?_putRow_other _ _ _ _ _ _ (.inr (.inr (by simp;omega)))];exact r1
   have hsz:w2.heap.size=Z.w.heap.size:=size_putRow _ _ _ _ _
   have hrep:Ya w2 (Mt Z C (Yi [.cl .deep (.sl (.int .i64)) xs]).root noB) (fun _ _=>False) (.cl .deep (.sl (.int .i64)) ys) (C.L 0) (C.F 0):=by
    refine⟨some ⟨b,off,none⟩,c,?_,by omega,fun _=>⟨b,off,fun _=>noB,rfl,e2,hroom,fun i hi=>⟨Yrf hc2 i hi,fun _ h=>h.elim,fun h=>h⟩,fun _ _ _ _ _ h=>h.elim⟩⟩
    rw[hyl];rw[hcs] at h1 ⊢;exact h1
   obtain⟨q1,_⟩:=S0.inside (r:=0) (b0:=b) (w':=w2) (R':=⟨.reg,.cl .deep (.sl (.int .i64)) ys⟩) hR rfl rfl e2 hsz (fun b' hb'=>Ymk _ (Sort.ahead Z.w n) b off _ b' hb') hrep rfl rfl rfl
    (fun q b1 off1 hn=>by
     cases q with
     |nil=>rw[Yf] at hn ⊢;exact hn
     |cons st q=>
      rw[hcs] at hn h1 ⊢
      cases st with
      |el i=>
       have h1':(Src.reg cs 0).cell Z.w 0=some (.slice (some ⟨b,off,none⟩) xs.length c):=h1;have h1'':(Src.reg cs 0).cell w2 0=some (.slice (some ⟨b,off,none⟩) xs.length c):=h1;simp only[nav,h1',h1''] at hn ⊢;rw[hyl]
       split at hn
       ·rename_i hi
        rw[jL hi]
        cases q with
        |nil=>rw[Yf] at hn ⊢;exact hn
        |cons st q=>cases st<;>simp[nav] at hn
       ·cases hn
      |_=>simp[nav] at hn)
    (fun q s hn o e zs hg=>by
     cases q with
     |nil=>
      rw[Yf] at hn;cases hn;rw[Ygu,TV.get_nil] at hg;cases hg
      refine⟨Yf _ _ _,by rw[hcs];rfl,.deep,ys,Ydu (TV.get_nil _),hyl⟩
     |cons st q=>
      exfalso;rw[Ygu] at hg
      cases st with
      |el i=>
       cases q with
       |nil=>simp only[TV.get] at hg;cases hg
       |cons st q=>cases st<;>simp[TV.get] at hg
      |_=>simp[TV.get] at hg)
   obtain⟨q2,_⟩:=q1.hand (w':=grow w2 os) (G':=noB) (by simp) (fun b' hb' _=>heap_grow_old _ _ hb') (fun _ h=>h.elim) rfl rfl rfl
   rw[hw];exact fin _ _ _ q2 (Yc.Yn _ _ _)
theorem Yuz {f:FuncId} (hthere:Ybb P f)
  (hC:∀ (blk off cap:Nat) (zs:List Int) (w:World),Holds (Value.int .i64) w blk off zs.toArray→blk<w.heap.size→zs.length<4611686018427387904→Calls P f #[.slice (some ⟨blk,off,none⟩) zs.length cap] w fun e w'=>
   e=.returned (.tuple #[])∧∃ n os,w'=grow (putRow (Value.int .i64) (Sort.ahead w n) blk off (zs.mergeSort fun x y=>decide (x≤y)).toArray) os)
  (hN:∀ (p:Option Addr) (cap:Nat) (w:World),Calls P f #[.slice p 0 cap] w fun e w'=>e=.returned (.tuple #[])∧w'=w) :
  Ycv P f (Yc6 [.mu] [.cl .deep (.sl (.int .i64))] (fun x=>Ys1 x.1) fun y=>⟨[],[.cl .deep (.sl (.int .i64)) y]⟩):=by
 intro cs R k r he;simp only[Yc6] at he
 split at he
 ·rename_i x hx
  have e:=PT.Ydj hx;subst e;simp only[Ys1] at he
  cases hl:decide (List.length x.1≤2147483648) with
  |false=>rw[hl] at he;cases he
  |true=>rw[hl] at he;exact⟨_,he,Ypt hthere hC hN x.1 (by simpa using hl)⟩
 ·cases he
end
end Mf
namespace Go.Proofs
open Go.RowKit
abbrev Bk.Hd:=Int×Option Addr×Nat×Nat
def Bk.hv (h:Bk.Hd):Value:=.slice h.2.1 h.2.2.1 h.2.2.2
def Bk.enc (x:Int×Bk.Hd):Array Value:=#[.int .i64 x.1,.agg #[.int .i64 x.2.1,Bk.hv x.2]]
def Bk.at_ (len:Nat) (hd:Nat→Bk.Hd) (j:Nat):Int×Bk.Hd:=((len:Int)-1-j,hd (len-1-j))
def Bk.upto (len:Nat) (hd:Nat→Bk.Hd) (k:Nat):List (Int×Bk.Hd):=(List.range k).map (Bk.at_ len hd)
def Bk.last (hd:Nat→Bk.Hd) (at_:Int):Nat→Option Bk.Hd
 |0=>none
 |k+1=>if (hd k).1=at_ then some (hd k) else Bk.last hd at_ k
end Go.Proofs
namespace Mf
open Go Go.RowKit Go.Proofs
variable {P:Program} {Z:W0}
abbrev Yf0:Ty:=.pair (.int .i64) (.pair (.sl (.int .i64)) .unit)
theorem Ygl {Lf:TV→Value→Prop} {C:Cx} {w':World} (h:Below Z.w.heap.size Z.w w') (hx:∀ b,Z.X b→b<Z.w.heap.size) (hk:∀ b i,Z.K b i→b<Z.w.heap.size):Str Z Lf C noB (fun _=>none) w' where
 rep:=fun _ _ h=>by cases h
 reg:=fun _ _ h=>by cases h
 mem:=fun _ _ h=>by cases h
 bnd:=fun _ _ _ h=>by cases h
 gbnd:=fun _ h=>h.elim
 dis:=fun _ _ _ _ _ h=>by cases h
 gdis:=fun _ _ h=>by cases h
 plc:=fun _ _ h=>by cases h
 sz:=h.size
 old:=fun b hb _=>h.block b hb
 kp:=fun b i hh=>h.cell (p:=⟨b,i,none⟩) (hk b i hh)
 kf:=fun b i j hh=>h.frozen (p:=⟨b,j,none⟩) (hk b i hh)
 xb:=hx
 kb:=hk
 os:=h.os
 tape:=h.tape
 output:=h.output
end Mf
namespace Mf
open Go
section
open Go.RowKit
variable {P:Program} {Z:W0}
theorem Rep.Yjm {w:World} {M M':Yd}:∀ {t:Ty} {x:t.El} {s:Src} {F:Yd},Rep w M t .deep x s F→Rep w M' t .deep x s F:=by
 intro t
 induction t with
 |int k=>intro x s F h;exact h
 |bool=>intro x s F h;exact h
 |str=>intro x s F h;exact h
 |unit=>intro x s F h;trivial
 |pair a b iha ihb=>intro x s F h;obtain⟨F1,F2,h1,h2,h3⟩:=h;exact⟨F1,F2,iha h1,ihb h2,h3⟩
 |sl e ih=>
  intro x s F h;obtain⟨A,c,h1,h2,h3⟩:=h;refine⟨A,c,h1,h2,fun hc=>?_⟩;obtain⟨b,off,Fs,e1,e2,e3,e4,e5⟩:=h3 hc
  exact⟨b,off,Fs,e1,e2,e3,fun i hi=>⟨ih (e4 i hi).1,(e4 i hi).2⟩,e5⟩
 |arr n e ih=>
  intro x s F h;obtain⟨h1,Fs,h2,h3⟩:=h;exact⟨h1,Fs,fun i hi=>⟨ih (h2 i hi).1,(h2 i hi).2⟩,h3⟩
def Yp0 (w w':World) (F:Yd):Prop:=∀ b,F b→w.heap.size≤b∧b<w'.heap.size
def Ye7 (e:Ty) (o:Ow) (xs:List e.El) (w:World) (en:Ending) (w':World):Prop:=
 ∃ A c,en=.returned (.slice A xs.length c)∧Below w.heap.size w w'∧∃ F,Rep w' F (.sl e) o xs (.reg [.slice A xs.length c] 0) F∧Yp0 w w' F
theorem Ym9 {v:TV} (h:Y6 v=none):(Yi [v]).root=fun _=>none:=by
 funext r;rw[Yar];match r with | 0=>exact h | n+1=>rfl
theorem Yqb {f:FuncId} {e e':Ty} {xs:List e.El} {ys:List e'.El} (ht:Ybb P f)
  (h:∀ (w:World) (A:Option Addr) (c:Nat),Rep w noB (.sl e) .sh xs (.reg [.slice A xs.length c] 0) noB→Calls P f #[.slice A xs.length c] w (Ye7 e' .deep ys w)) :
  Ycu P f [.sh] [.cl .sh (.sl e) xs] ⟨[.cl .deep (.sl e') ys],[]⟩ where
 there:=ht
 calls:=by
  intro Z C us hl hnt hP1 hP2 I;have hus:us.size=1:=hl;have hroot:=Ym9 (v:=.cl .sh (.sl e) xs) rfl;have h0:Yb _ _ _ _ (.cl .sh (.sl e) xs) ((⟨us,[]⟩:Act).tmps.getD 0 undef):=I.tm 0 (.cl .sh (.sl e) xs) rfl;have hrep:Rep Z.w (Mt Z C (Yi [.cl .sh (.sl e) xs]).root noB) (.sl e) .sh xs (.reg (us.getD 0 undef).cells.toList 0) noB:=h0.1;have hone:=h0.one rfl;have hrep0:=hrep;obtain⟨A,c,k1,k2,k3⟩:=hrep
  have hv:us.getD 0 undef=.slice A xs.length c:=by
   have:(Src.reg (us.getD 0 undef).cells.toList 0).cell Z.w 0=some (us.getD 0 undef):=by
    rw[show(us.getD 0 undef).cells=#[us.getD 0 undef] from hone];rfl
   rw[this] at k1;exact jN k1
  have hus2:us=#[.slice A xs.length c]:=by
   apply Array.ext (by simp[hus])
   intro i h4 h5
   have:i=0:=by omega
   subst this
   simpa [Array.getD,h4] using hv
  rw[hus2]
  have hr:Rep Z.w noB (.sl e) .sh xs (.reg [.slice A xs.length c] 0) noB:=by
   rw[hv] at hrep0;exact Ya.mono (Lf:=fun _ _=>False) (tv:=.cl .sh (.sl e) xs) (M':=noB) (hrep0:Ya Z.w _ _ (.cl .sh (.sl e) xs) _ noB) (fun _ h=>h.elim)
  refine(h Z.w A c hr).mono ?_;rintro en w' ⟨A',c',rfl,hb,F,hF,hfr⟩;refine⟨_,rfl,C,F,fun _=>none,F,?_,trivial,fun _ h=>h,?_,rfl,rfl⟩
  ·refine {Ygl (Lf:=Yh w' (Mt Z C (fun _=>none) F) C.L (fun _=>none)) (C:=C) hb I.str.xb I.str.kb with gbnd:=?_,gdis:=(fun _ _ h=>by cases h),rep:=(fun _ _ h=>by cases h) }
   intro b hbF;have:=hfr b hbF
   exact⟨this.2,fun i hk=>by have:=I.str.kb b i hk;omega,fun hx=>by have:=I.str.xb b hx;omega,.inr this.1⟩
  ·refine⟨?_,rfl,⟨fun h=>(by cases h),fun⟨cs,h⟩=>(by cases h)⟩⟩
   show Rep w' _ (.sl e') .deep ys _ F;exact hF.Yjm
end
section
open Go.RowKit
abbrev Yel:=List (Int×List Int×Unit)
structure CpI (w0 W:World) (l:Yel) (b off cap k:Nat):Prop where
 bel:Below w0.heap.size w0 W
 b1:w0.heap.size≤b
 b2:b<W.heap.size
 room:Room W b off (cap*2)
 ats:∀ j (h:j<l.length),W.cell? ⟨b,off+j*2,none⟩=some (.int .i64 l[j].1)
 old:∀ j (h:j<l.length),k≤j→Rep W (fun x=>x=b) (.sl (.int .i64)) .sh l[j].2.1 (.mem b (off+j*2+1)) noB
 new:∃ s:Nat→Nat,b<s 0∧(∀ j,j<k→s j≤s (j+1))∧s k≤W.heap.size∧∀ j (h:j<l.length),j<k→Rep W noB (.sl (.int .i64)) .deep l[j].2.1 (.mem b (off+j*2+1)) (fun x=>s j≤x∧x<s (j+1))
theorem CpI.start {w0 w1:World} {l:Yel} {A:Option Addr} {c:Nat} {F:Yd} (hb:Below w0.heap.size w0 w1) (h:Rep w1 F (.sl Yf0) .top l (.reg [.slice A l.length c] 0) F) (hf:Yp0 w0 w1 F) (hc:c≠0) :
  ∃ b off,A=some ⟨b,off,none⟩∧l.length≤c∧CpI w0 w1 l b off c 0:=by
 obtain⟨A',c',k1,k2,k3⟩:=h;have k1':some (Value.slice A l.length c)=some (.slice A' l.length c'):=k1;simp only[jD,Value.slice.injEq] at k1';obtain⟨rfl,-,rfl⟩:=k1';obtain⟨b,off,Fs,rfl,hF,hroom,he,-⟩:=k3 hc;refine⟨b,off,rfl,k2,hb,(hf b hF).1,(hf b hF).2,hroom,fun j hj=>?_,fun j hj _=>?_,fun _=>w1.heap.size,(hf b hF).2,fun _ _=>jB _,jB _,fun j hj h=>absurd h (Nat.not_lt_zero _)⟩
 ·obtain⟨G1,G2,r1,-,-⟩:=(he j hj).1
  have hs:Yf0.size=2:=rfl;simp only[Rep,Src.cell,hs] at r1;simpa using r1
 ·obtain⟨G1,G2,-,⟨G3,G4,r2,-⟩,-,-,-⟩:=(he j hj).1
  obtain⟨A',c',t1,t2,t3⟩:=r2;have hs:Yf0.size=2:=rfl;have hs1:(Ty.int .i64).size=1:=rfl;refine⟨A',c',?_,t2,fun hne=>?_⟩
  ·simp only[Src.cell,Src.sh,hs,hs1] at t1;simpa [Src.cell] using t1
  ·obtain⟨b',off',q1,q2,q3,q4⟩:=t3 hne
   exact⟨b',off',q1,fun e=>q2 (e▸hF),q3,fun i hi=>Ya.mono (Lf:=fun _ _=>False) (tv:=.cl .sh (.int .i64) _) (q4 i hi) (fun x e=>by subst e;exact hF)⟩
theorem Yiv {w:World} {p:Addr} {v:Value} {b off n:Nat} (h:Room w b off n):Room (w.setCell p v) b off n:=fun i hi=>by
 obtain⟨h1,h2⟩:=h i hi
 refine⟨?_,by rw[World.frozen?_setCell];exact h2⟩
 obtain⟨u,hu⟩:=Option.isSome_iff_exists.1 h1;obtain⟨u',hu'⟩:=cell?_setCell_some (p:=p) (x:=v) hu;rw[hu'];rfl
theorem CpI.step {w0 W W1 W2:World} {l:Yel} {b off cap k:Nat} (I:CpI w0 W l b off cap k) (hk:k<l.length) (hcap:l.length≤cap) (h1:Below W.heap.size W W1) (h2:Below W1.heap.size W1 W2) {A:Option Addr} {c:Nat} {F:Yd}
  (hr:Rep W2 F (.sl (.int .i64)) .deep l[k].2.1 (.reg [.slice A l[k].2.1.length c] 0) F) (hf:Yp0 W1 W2 F) :
  CpI w0 (W2.setCell ⟨b,off+k*2+1,none⟩ (.slice A l[k].2.1.length c)) l b off cap (k+1):=by
 have hB:Below W.heap.size W W2:=h1.trans (h2.mono h1.size)
 have hsz:(W2.setCell ⟨b,off+k*2+1,none⟩ (.slice A l[k].2.1.length c)).heap.size=W2.heap.size:=by simp[World.setCell]
 have hoth:∀ x,x≠b→x<W.heap.size→Same W (W2.setCell ⟨b,off+k*2+1,none⟩ (.slice A l[k].2.1.length c)) x:=fun x hx hlt=>(Below.heap_setCell _ _ _ _ hx).trans (hB.block x hlt)
 have hcell:∀ i,i≠off+k*2+1→(W2.setCell ⟨b,off+k*2+1,none⟩ (.slice A l[k].2.1.length c)).cell? ⟨b,i,none⟩=W.cell? ⟨b,i,none⟩:=fun i hi=>by
  rw[World.cell?_setCell_other (h:=fun e=>hi (by cases e;rfl))]
  exact hB.cell (p:=⟨b,i,none⟩) I.b2
 obtain⟨s,s0,s1,s2,s3⟩:=I.new
 refine⟨I.bel.trans ((hB.mono I.bel.size).setCell (p:=⟨b,_,none⟩) I.b1 _),I.b1,by rw[hsz];have:=hB.size;have:=I.b2;omega,Yiv (fun i hi=>?_),fun j hj=>?_,fun j hj hkj=>?_,?_⟩
 ·rw[hB.cell (p:=⟨b,_,none⟩) I.b2,hB.frozen (p:=⟨b,_,none⟩) I.b2];exact I.room i hi
 ·rw[hcell _ (by omega)];exact I.ats j hj
 ·refine(I.old j hj (by omega)).go ⟨by rw[hsz];exact hB.size,fun _ h=>h.elim,fun x hx hlt=>⟨hoth x hx hlt,hx⟩⟩ (fun i hi=>?_)
  have:i=0:=by simp[Ty.size] at hi;omega
  subst this
  exact hcell _ (by omega)
 ·have sk:∀ j,j≤k→s j≤s k:=fun j hj=>by
   have:∀ d,j+d≤k→s j≤s (j+d):=fun d=>by
    induction d with
    |zero=>intro _;exact jB _
    |succ d ih=>intro h;exact jU (ih (by omega)) (s1 (j+d) (by omega))
   have:=this (k-j) (by omega)
   rwa [show j+(k-j)=k by omega] at this
  refine⟨fun j=>if j≤k then s j else W2.heap.size,by simpa using s0,fun j hj=>?_,by show(if k+1≤k then _ else _)≤_;rw[jM (by omega),hsz];exact jB _,fun j hj hjk=>?_⟩
  ·show(if j≤k then s j else W2.heap.size)≤(if j+1≤k then s (j+1) else W2.heap.size)
   rw[jL (by omega)]
   by_cases e:j+1≤k
   ·rw[jL e];exact s1 j (by omega)
   ·rw[jM e];have:=sk j (by omega);have:=hB.size;omega
  ·by_cases e:j=k
   ·subst e
    simp only[jB,if_true,Nat.not_succ_le_self,if_false];obtain⟨A',c',k1,k2,k3⟩:=hr;have k1':some (Value.slice A l[j].2.1.length c)=some (.slice A' l[j].2.1.length c'):=k1;simp only[jD,Value.slice.injEq] at k1';obtain⟨rfl,-,rfl⟩:=k1';refine⟨A,c,?_,k2,fun hc=>?_⟩
    ·show World.cell? _ _=_
     simp only[kF];refine World.cell?_setCell_same' _ _ _ ?_;rw[hB.cell (p:=⟨b,_,none⟩) I.b2]
     exact(I.room (j*2+1) (by omega)).1
    ·obtain⟨b',off',Fs,q1,q2,q3,q4,q5⟩:=k3 hc
     have hb':=hf b' q2;have hlt:=I.b2;have hW1:=h1.size
     have hne:b'≠b:=by omega
     refine⟨b',off',fun _=>noB,q1,⟨by omega,hb'.2⟩,Yiv q3,fun i hi=>⟨?_,fun _ h=>h.elim,fun h=>h⟩,fun _ _ _ _ _ h=>h.elim⟩
     have hi':=(q4 i hi).1;show World.cell? _ _=_;rw[World.cell?_setCell_other (h:=fun e=>hne (congrArg Addr.block e).symm)];exact hi'
   ·have hj2:j<k:=by omega
    simp only[show j≤k by omega,show j+1≤k by omega,if_true]
    have hsj:=sk (j+1) (by omega)
    have hb0:b<s j:=jX s0 (by
     have:∀ d,d≤j→s 0≤s d:=fun d=>by
      induction d with
      |zero=>intro _;exact jB _
      |succ d ih=>intro h;exact jU (ih (by omega)) (s1 d (by omega))
     exact this j (jB _))
    refine(((s3 j hj hj2).Yjm (M':=fun x=>x=b)).go (M':=fun x=>x=b) ⟨by rw[hsz];exact hB.size,fun x hx=>hoth x (by have:=hx.1;omega) (by have:=hx.2;omega),fun x hx hlt=>⟨hoth x hx hlt,hx⟩⟩ (fun i hi=>?_)).Yjm
    ·have:i=0:=by simp[Ty.size] at hi;omega
     subst this
     exact hcell _ (by omega)
theorem CpI.done {w0 W:World} {l:Yel} {b off cap:Nat} (I:CpI w0 W l b off cap l.length) (hcap:l.length≤cap):Ye7 Yf0 .deep l w0 (.returned (.slice (some ⟨b,off,none⟩) l.length cap)) W:=by
 obtain⟨s,s0,s1,s2,s3⟩:=I.new
 have mono:∀ j d,j+d≤l.length→s j≤s (j+d):=fun j d=>by
  induction d with
  |zero=>intro _;exact jB _
  |succ d ih=>intro h;exact jU (ih (by omega)) (s1 (j+d) (by omega))
 refine⟨_,_,rfl,I.bel,fun x=>w0.heap.size≤x∧x<W.heap.size,⟨_,_,rfl,hcap,fun hc=>⟨b,off,fun j=>fun x=>s j≤x∧x<s (j+1)∧j<l.length,rfl,⟨I.b1,I.b2⟩,I.room,fun j hj=>⟨?_,?_,?_⟩,fun i j hij hj x hx hx'=>?_⟩⟩,fun x h=>h⟩
 ·have hs:Yf0.size=2:=rfl
  refine⟨noB,fun x=>s j≤x∧x<s (j+1)∧j<l.length,?_,⟨fun x=>s j≤x∧x<s (j+1)∧j<l.length,noB,?_,trivial,fun _ h=>h,fun _ h=>h.elim,fun _ _ h=>h⟩,fun _ h=>h.elim,fun _ h=>h,fun _ h=>h.elim⟩
  ·show World.cell? _ _=_
   simp only[hs,kF];exact I.ats j hj
  ·have h:=((s3 j hj hj).sub (G:=fun x=>s j≤x∧x<s (j+1)∧j<l.length) (fun x h=>⟨h.1,h.2,hj⟩)).Yjm (M':=fun x=>w0.heap.size≤x∧x<W.heap.size)
   have e1:Ow.deep.elem=Ow.deep:=rfl;rw[e1]
   simpa [Src.sh,hs,Ty.size] using h
 ·rintro x ⟨h1,h2,h3⟩
  have:=mono 0 j (by omega)
  have:=mono (j+1) (l.length-(j+1)) (by omega)
  rw[show j+1+(l.length-(j+1))=l.length by omega] at this
  have:=I.b1;rw[jJ] at *
  exact⟨by omega,by omega⟩
 ·rintro⟨h1,-,-⟩
  have:=mono 0 j (by omega)
  rw[jJ] at this;omega
 ·have:=mono (i+1) (j-(i+1)) (by omega)
  rw[show i+1+(j-(i+1))=j by omega] at this
  have:=hx.2.1;have:=hx'.1;omega
theorem CpI.place {w0 W:World} {l:Yel} {b off cap k:Nat} (I:CpI w0 W l b off cap k) (hk:k<l.length) (hcap:l.length≤cap) {W2:World} (h:Below W.heap.size W W2) :
  W2.cell? ⟨b,off+k*2+1,none⟩=W.cell? ⟨b,off+k*2+1,none⟩∧W2.frozen? ⟨b,off+k*2+1,none⟩=false:=
 ⟨h.cell (p:=⟨b,_,none⟩) I.b2,(h.frozen (p:=⟨b,_,none⟩) I.b2).trans (I.room (k*2+1) (by omega)).2⟩
theorem Ye7.none {l:Yel} {w W:World} {A:Option Addr} (hb:Below w.heap.size w W) {o:Ow} {G:Yd} (h:Rep W G (.sl Yf0) o l (.reg [.slice A l.length 0] 0) G):l.length=0∧Ye7 Yf0 .deep l w (.returned (.slice A l.length 0)) W:=by
 obtain⟨A',c',k1,k2,k3⟩:=h;have k1':some (Value.slice A l.length 0)=some (.slice A' l.length c'):=k1;simp only[jD,Value.slice.injEq] at k1';obtain⟨rfl,-,rfl⟩:=k1';exact⟨Nat.le_zero.1 k2,A,0,rfl,hb,noB,⟨A,0,rfl,k2,fun h=>absurd rfl h⟩,fun _ h=>h.elim⟩
end
section
open Go.RowKit
variable {P:Program}
end
section
open Go.RowKit
variable {P:Program}
abbrev Hdr:=Option Addr×Nat×Nat
def hvl (h:Hdr):Value:=.slice h.1 h.2.1 h.2.2
structure Ys7 (w:World) (l:Yel) (b off:Nat) (hs:Nat→Hdr) (Fs:Nat→Yd) (F:Yd):Prop where
 at1:∀ j (h:j<l.length),w.cell? ⟨b,off+j*2,none⟩=some (.int .i64 l[j].1)
 hd:∀ j (h:j<l.length),w.cell? ⟨b,off+j*2+1,none⟩=some (hvl (hs j))
 rep:∀ j (h:j<l.length),Rep w noB (.sl (.int .i64)) .deep l[j].2.1 (.reg [hvl (hs j)] 0) (Fs j)∧Ye (Fs j) F
 dis:∀ i j,i<j→j<l.length→Dis (Fs i) (Fs j)
 blk:F b
theorem Rep.src {w:World} {l:Yel} {A:Option Addr} {c:Nat} {F M:Yd} (h:Rep w M (.sl Yf0) .deep l (.reg [.slice A l.length c] 0) F) (hl:0<l.length) :
  ∃ b off hs Fs,A=some ⟨b,off,none⟩∧Ys7 w l b off hs Fs F:=by
 obtain⟨A',c',k1,k2,k3⟩:=h;have k1':some (Value.slice A l.length c)=some (.slice A' l.length c'):=k1;simp only[jD,Value.slice.injEq] at k1';obtain⟨rfl,-,rfl⟩:=k1'
 obtain⟨b,off,Fs,rfl,hF,hroom,he,hd⟩:=k3 (by omega)
 have hput:∀ j,∃ h:Hdr,∀ (hj:j<l.length),w.cell? ⟨b,off+j*2,none⟩=some (.int .i64 l[j].1)∧w.cell? ⟨b,off+j*2+1,none⟩=some (hvl h)∧Rep w noB (.sl (.int .i64)) .deep l[j].2.1 (.reg [hvl h] 0) (Fs j):=by
  intro j
  by_cases hj:j<l.length
  ·obtain⟨G1,G2,r1,⟨G3,G4,r2,-,s3,-,-⟩,s1,s2,-⟩:=(he j hj).1
   have hs:Yf0.size=2:=rfl;have hs1:(Ty.int .i64).size=1:=rfl;have r2:=(Rep.Yjm (M':=noB) r2).sub (G:=Fs j) (fun x hx=>s2 x (s3 x hx));obtain⟨A',c',t1,t2,t3⟩:=r2;refine⟨(A',l[j].2.1.length,c'),fun _=>⟨?_,?_,A',c',rfl,t2,t3⟩⟩
   ·simp only[Rep,Src.cell,hs] at r1;simpa using r1
   ·simp only[Src.cell,Src.sh,hs,hs1] at t1;simpa [hvl] using t1
  ·exact⟨(none,0,0),fun h=>absurd h hj⟩
 obtain⟨hs,hhs⟩:=Classical.axiomOfChoice hput;exact⟨b,off,hs,Fs,rfl,⟨fun j hj=>(hhs j hj).1,fun j hj=>(hhs j hj).2.1,fun j hj=>⟨(hhs j hj).2.2,(he j hj).2.1⟩,hd,hF⟩⟩
def cellsOf (l:Yel) (hs:Nat→Hdr):Nat→List Value
 |0=>[]
 |k+1=>cellsOf l hs k++[.bool false,.int .i64 (l.getD k (0,[],())).1,hvl (hs k)]
end
section
open Go.RowKit
variable {P:Program}
structure OnlyC (w W:World) (S:Nat→Nat→Prop):Prop where
 os:W.os=w.os
 tape:W.tape=w.tape
 output:W.output=w.output
 size:w.heap.size≤W.heap.size
 blk:∀ b,b<w.heap.size→(∀ i,¬ S b i)→W.heap[b]? = w.heap[b]?
 cell:∀ b i,b<w.heap.size→¬ S b i→W.cell? ⟨b,i,none⟩=w.cell? ⟨b,i,none⟩
 frz:∀ b i,b<w.heap.size→W.frozen? ⟨b,i,none⟩=w.frozen? ⟨b,i,none⟩
theorem OnlyC.refl (w:World) (S:Nat→Nat→Prop):OnlyC w w S:=⟨rfl,rfl,rfl,jB _,fun _ _ _=>rfl,fun _ _ _ _=>rfl,fun _ _ _=>rfl⟩
theorem OnlyC.alloc {w W:World} {S:Nat→Nat→Prop} (h:OnlyC w W S) (o:Obj):OnlyC w (W.alloc o) S:=by
 have hb:Below W.heap.size W (W.alloc o):=(Below.refl _ W).alloc (jB _) o;have hs:=h.size
 exact⟨hb.os.trans h.os,hb.tape.trans h.tape,hb.output.trans h.output,jU h.size hb.size,fun b hb' hS=>(hb.block b (by omega)).trans (h.blk b hb' hS),
  fun b i hb' hS=>(hb.cell (p:=⟨b,i,none⟩) (by show b<_;omega)).trans (h.cell b i hb' hS),fun b i hb'=>(hb.frozen (p:=⟨b,i,none⟩) (by show b<_;omega)).trans (h.frz b i hb')⟩
theorem OnlyC.drew {w W:World} {S:Nat→Nat→Prop} (h:OnlyC w W S):OnlyC w W.drew S:=⟨h.os,h.tape,h.output,h.size,h.blk,h.cell,h.frz⟩
theorem OnlyC.set {w W:World} {S:Nat→Nat→Prop} (h:OnlyC w W S) {b i:Nat} (v:Value) (hS:S b i):OnlyC w (W.setCell ⟨b,i,none⟩ v) S:=by
 refine⟨h.os,h.tape,h.output,by simpa [World.setCell] using h.size,fun x hx hn=>?_,fun x j hx hn=>?_,fun x j hx=>?_⟩
 ·rw[Below.heap_setCell _ _ _ _ (fun e=>hn i (by subst e;exact hS))];exact h.blk x hx hn
 ·rw[World.cell?_setCell_other (h:=fun e=>hn (by cases e;exact hS))];exact h.cell x j hx hn
 ·rw[World.frozen?_setCell];exact h.frz x j hx
theorem OnlyC.mono {w W:World} {S S':Nat→Nat→Prop} (h:OnlyC w W S) (hs:∀ b i,S b i→S' b i):OnlyC w W S':=
 ⟨h.os,h.tape,h.output,h.size,fun b hb hn=>h.blk b hb (fun i x=>hn i (hs _ _ x)),fun b i hb hn=>h.cell b i hb (fun x=>hn (hs _ _ x)),h.frz⟩
def Yt0 (bB oB nB:Nat) (b i:Nat):Prop:=b=bB∧oB≤i∧i<oB+nB
structure FI (w W:World) (bB oB nB:Nat) (src:Nat→Hdr):Prop where
 only:OnlyC w W (Yt0 bB oB nB)
 at1:∀ j,j<nB→W.cell? ⟨bB,oB+j,none⟩=some (hvl (src j))
theorem FI.alloc {w W:World} {bB oB nB:Nat} {src:Nat→Hdr} (h:FI w W bB oB nB src) (hb:0<nB→bB<w.heap.size) (o:Obj):FI w (W.alloc o) bB oB nB src:=
 ⟨h.only.alloc o,fun j hj=>(((Below.refl _ W).alloc (jB _) o).cell (p:=⟨bB,_,none⟩) (jX (hb (by omega)) h.only.size)).trans (h.at1 j hj)⟩
theorem FI.drew {w W:World} {bB oB nB:Nat} {src:Nat→Hdr} (h:FI w W bB oB nB src):FI w W.drew bB oB nB src:=⟨h.only.drew,h.at1⟩
theorem FI.set {w W:World} {bB oB nB:Nat} {src:Nat→Hdr} (h:FI w W bB oB nB src) {a:Nat} (ha:a<nB) (x:Hdr):FI w (W.setCell ⟨bB,oB+a,none⟩ (hvl x)) bB oB nB (fun j=>if j=a then x else src j):=by
 refine⟨h.only.set _ ⟨rfl,by omega,by omega⟩,fun j hj=>?_⟩
 by_cases e:j=a
 ·subst e
  rw[jL rfl]
  exact World.cell?_setCell_same' _ _ _ (by rw[h.at1 j hj];rfl)
 ·rw[jM e,World.cell?_setCell_other (h:=fun e'=>e (by have:=congrArg Addr.off e';simp at this;omega))]
  exact h.at1 j hj
end
section
open Go.RowKit
variable {P:Program} {Z:W0}
structure Yuq (w:World) (bs:List (List Int)) (ps:Yel) (bd od:Nat) (F:Yd) (A C:Option Addr) (bB oB bC oC cB cC:Nat) (hb hc:Nat→Hdr) (FB FC:Nat→Yd):Prop where
 a1:w.cell? ⟨bd,od,none⟩=some (.slice A bs.length cB)
 a2:w.cell? ⟨bd,od+1,none⟩=some (.slice C ps.length cC)
 a3:bs.length≤cB
 A0:cB≠0→A=some ⟨bB,oB,none⟩∧F bB∧Room w bB oB cB
 C0:0<ps.length→C=some ⟨bC,oC,none⟩∧F bC∧(cB≠0→bC≠bB)
 eB:∀ j (h:j<bs.length),w.cell? ⟨bB,oB+j,none⟩=some (hvl (hb j))∧Rep w noB (.sl (.int .i64)) .deep bs[j] (.reg [hvl (hb j)] 0) (FB j)∧Ye (FB j) F∧¬ FB j bB
 eC:∀ j (h:j<ps.length),w.cell? ⟨bC,oC+j*2,none⟩=some (.int .i64 ps[j].1)∧w.cell? ⟨bC,oC+j*2+1,none⟩=some (hvl (hc j))∧Rep w noB (.sl (.int .i64)) .deep ps[j].2.1 (.reg [hvl (hc j)] 0) (FC j)∧Ye (FC j) F∧(cB≠0→¬ FC j bB)
 dB:∀ i j,i<j→j<bs.length→Dis (FB i) (FB j)
 dC:∀ i j,i<j→j<ps.length→Dis (FC i) (FC j)
 dX:∀ i j,i<bs.length→j<ps.length→Dis (FB i) (FC j)
end
section
open Go.RowKit
variable {P:Program} {Z:W0}
end
section
open Go.RowKit
variable {P:Program} {Z:W0}
end
section
open Go.RowKit
variable {P:Program}
def Yat (w:World) (e:Ty) (xs:List e.El) (cs:List Value) (F:Yd):Prop:=
 cs.length=xs.length*e.size∧∃ Fs:Nat→Yd,(∀ i (h:i<xs.length),Rep w noB e .deep xs[i] (.reg cs (i*e.size)) (Fs i)∧Ye (Fs i) F)∧∀ i j,i<j→j<xs.length→Dis (Fs i) (Fs j)
theorem Yat.nil {w:World} {e:Ty} {F:Yd}:Yat w e [] [] F:=⟨by simp,fun _=>noB,fun i h=>absurd h (Nat.not_lt_zero _),fun i j _ h=>absurd h (Nat.not_lt_zero _)⟩
theorem mul_lt {i n k r:Nat} (hi:i<n) (hr:r<k):i*k+r<n*k:=by
 have h:(i+1)*k≤n*k:=jR _ hi;rw[jY] at h;omega
theorem Yat.app {w:World} {e:Ty} {xs ys:List e.El} {cs ds:List Value} {F G:Yd} (h:Yat w e xs cs F) (g:Yat w e ys ds G) (hd:Dis F G):Yat w e (xs++ys) (cs++ds) (fun b=>F b∨G b):=by
 obtain⟨h1,Fs,h2,h3⟩:=h;obtain⟨g1,Gs,g2,g3⟩:=g
 refine⟨by simp only[jP,h1,g1,jY],fun i=>if i<xs.length then Fs i else Gs (i-xs.length),fun i hi=>?_,fun i j hij hj=>?_⟩
 ·rw[jP] at hi
  by_cases hx:i<xs.length
  ·simp only[hx,if_true]
   refine⟨?_,fun b hb=>.inl ((h2 i hx).2 b hb)⟩;rw[kW hx];refine(h2 i hx).1.mv fun r hr=>?_;simp only[Src.cell]
   rw[List.getElem?_append_left (by rw[h1];exact mul_lt hx hr)]
  ·simp only[hx,if_false]
   have hy:i-xs.length<ys.length:=by omega
   refine⟨?_,fun b hb=>.inr ((g2 _ hy).2 b hb)⟩
   rw[kX (by omega)]
   refine(g2 _ hy).1.mv fun r hr=>?_;simp only[Src.cell]
   have hle:xs.length*e.size≤i*e.size:=jR _ (by omega)
   rw[List.getElem?_append_right (by rw[h1];omega),h1,Nat.sub_mul]
   congr 1;omega
 ·rw[jP] at hj
  simp only[]
  by_cases hx:i<xs.length
  ·simp only[hx,if_true]
   by_cases hy:j<xs.length
   ·simp only[hy,if_true];exact h3 i j hij hy
   ·simp only[hy,if_false]
    exact fun b hb hb'=>hd b ((h2 i hx).2 b hb) ((g2 (j-xs.length) (by omega)).2 b hb')
  ·have hy:¬ j<xs.length:=by omega
   simp only[hx,hy,if_false]
   exact g3 _ _ (by omega) (by omega)
theorem Yat.sub {w:World} {e:Ty} {xs:List e.El} {cs:List Value} {F G:Yd} (h:Yat w e xs cs F) (hs:Ye F G):Yat w e xs cs G:=by
 obtain⟨h1,Fs,h2,h3⟩:=h;exact⟨h1,Fs,fun i hi=>⟨(h2 i hi).1,fun b hb=>hs b ((h2 i hi).2 b hb)⟩,h3⟩
theorem Yat.row {w0 w W:World} {e:Ty} {xs:List e.El} {cs:List Value} {F:Yd} {E:TypeId} {v:Value} (h:Yat w e xs cs F) (hF:∀ b,F b→b<w.heap.size) (hb:Below w.heap.size w W) (h0:w0.heap.size≤w.heap.size)
  (ho:W.ownsRow w.heap.size E e.size v xs.length cs):∃ A c,v=.slice A xs.length c∧Rep W noB (.sl e) .deep xs (.reg [.slice A xs.length c] 0) (fun b=>F b∨(w.heap.size≤b∧b<W.heap.size)):=by
 obtain⟨h1,Fs,h2,h3⟩:=h;obtain⟨-,hv⟩:=ho;rcases hv with ⟨rfl,hn⟩ | ⟨g,cap,cur,rfl,hg,hh,hcap,-,hsz,htake⟩
 ·have hl:xs=[]:=kL hn
  subst hl;exact⟨none,0,rfl,none,0,rfl,jB _,fun h=>absurd rfl h⟩
 ·have hgl:g<W.heap.size:=(Array.getElem?_eq_some_iff.1 hh).1
  have hcell:∀ i,W.cell? ⟨g,i,none⟩=cur[i]?:=fun i=>by unfold World.cell?;rw[hh];rfl
  have hbs:=hb.size
  have hget:∀ i u,cs[i]? = some u→W.cell? ⟨g,i,none⟩=some u:=fun i u hu=>by
   rw[hcell];rw[←htake,List.getElem?_take] at hu
   split at hu
   ·rw[←Array.getElem?_toList];exact hu
   ·cases hu
  refine⟨_,_,rfl,some ⟨g,0,none⟩,cap,rfl,hcap,fun hc=>⟨g,0,fun j x=>Fs j x∧j<xs.length,rfl,.inr ⟨hg,hgl⟩,fun i hi=>⟨?_,?_⟩,fun i hi=>⟨?_,fun x hx=>.inl ((h2 i hi).2 x hx.1),fun hx=>?_⟩,fun i j hij hj x hx hx'=>h3 i j hij hj x hx.1 hx'.1⟩⟩
  ·rw[hcell,jJ,Array.getElem?_eq_getElem (by omega)];rfl
  ·unfold World.frozen?;rw[hh];simp
  ·have hd:Ow.deep.elem=Ow.deep:=rfl
   rw[hd];have q:=(((h2 i hi).1.go (w':=W) (M':=noB) ⟨hbs,fun x hx=>hb.block x (hF x ((h2 i hi).2 x hx)),fun x hx hlt=>⟨hb.block x hlt,fun h=>h⟩⟩ (fun r hr=>rfl)).mv (s':=.mem g (0+i*e.size)) fun r hr=>?_).sub (G:=fun x=>Fs i x∧i<xs.length) (fun x hx=>⟨hx,hi⟩)
   ·exact q
   ·simp only[Src.cell,jJ]
    have hlt:=mul_lt hi hr;rw[←h1] at hlt;rw[kV hlt];exact hget _ _ (kV hlt)
  ·have:=hF g ((h2 i hi).2 g hx.1);omega
def Ys9 (cs:Nat→List Value):Nat→List Value
 |0=>[]
 |k+1=>Ys9 cs k++cs k
theorem Yat.cat {w:World} {e:Ty} {L:List (List e.El)} {cs:Nat→List Value} {Fs:Nat→Yd} {F:Yd} (h:∀ j (hj:j<L.length),Yat w e L[j] (cs j) (Fs j)∧Ye (Fs j) F) (hd:∀ i j,i<j→j<L.length→Dis (Fs i) (Fs j)) :
  ∀ k,k≤L.length→Yat w e (L.take k).flatten (Ys9 cs k) (fun b=>∃ j,j<k∧Fs j b)
 |0,_=>by rw[List.take_zero];exact Yat.nil
 |k+1,hk=>by
  have h1:=Yat.cat h hd k (by omega)
  have h2:=(h k (by omega)).1
  rw[List.take_succ_eq_append_getElem (by omega),List.flatten_append]
  have h3:[L[k]].flatten=L[k]:=by simp
  rw[h3];refine(h1.app h2 ?_).sub ?_
  ·rintro b ⟨j,hj,hb⟩ hb'
   exact hd j k hj (by omega) b hb hb'
  ·rintro b (⟨j,hj,hb⟩ | hb)
   ·exact⟨j,by omega,hb⟩
   ·exact⟨k,by omega,hb⟩
def Yko {α:Type} (L:List (List α)):Option (List α):=cond (decide (L.length≤1048576)&&decide (L.flatten.length≤1048576)) (some L.flatten) none
theorem Yat.one {w:World} {e:Ty} {xs:List e.El} {cs:List Value} {F:Yd} (h:Yat w e xs cs F):∀ u∈cs,u.oneCell'=true:=by
 obtain⟨h1,Fs,h2,-⟩:=h;intro u hu;obtain⟨i,hi,rfl⟩:=List.getElem_of_mem hu;rw[h1] at hi
 have hpos:0<e.size:=by
  rcases kN e.size with h0 | h0
  ·rw[h0] at hi;omega
  ·exact h0
 have hq:i / e.size<xs.length:=Nat.div_lt_of_lt_mul (by rw[Nat.mul_comm];exact hi)
 have hr:i % e.size<e.size:=Nat.mod_lt _ hpos;obtain⟨v,hv,h1'⟩:=(h2 _ hq).1.cells _ hr;simp only[Src.cell] at hv
 have he:i / e.size*e.size+i % e.size=i:=by rw[Nat.mul_comm];exact Nat.div_add_mod i e.size
 rw[he] at hv
 rw[kV (by rw[h1];exact hi)] at hv
 cases hv;exact h1'
def Ylj (hs:Nat→Hdr):Nat→Nat
 |0=>0
 |k+1=>Ylj hs k+(hs k).2.1
theorem Yu0 (hs:Nat→Hdr):∀ {i j:Nat},i≤j→Ylj hs i≤Ylj hs j:=by
 intro i j h
 induction h with
 |refl=>exact jB _
 |step _ ih=>simp only[Ylj];omega
theorem Yov {α:Type} {hs:Nat→Hdr} {L:List (List α)} (h:∀ j (hj:j<L.length),(hs j).2.1=L[j].length):∀ k,k≤L.length→Ylj hs k=(L.take k).flatten.length
 |0,_=>by simp[Ylj]
 |k+1,hk=>by
  rw[List.take_succ_eq_append_getElem (by omega),List.flatten_append,jP,Ylj,Yov h k (by omega),h k (by omega)]
  simp
end
section
open Go.RowKit
variable {P:Program}
theorem Yat.Yul {w:World} {M:Yd} {e:Ty} (hp:e.pure=true) {xs:List e.El} {A:Option Addr} (h:xs≠[]→∃ b off,A=some ⟨b,off,none⟩∧¬ M b∧b<w.heap.size∧∀ i (h:i<xs.length),Rep w M e .sh (xs[i]'h) (.mem b (off+i*e.size)) noB) :
  ∃ cs,Yat w e xs cs noB∧((xs.length=0∧cs=[])∨∃ b off,A=some ⟨b,off,none⟩∧b<w.heap.size∧∀ i u,cs[i]? = some u→w.cell? ⟨b,off+i,none⟩=some u):=by
 by_cases h0:xs.length=0
 ·have:xs=[]:=kL h0
  subst this;exact⟨[],Yat.nil,.inl ⟨rfl,rfl⟩⟩
 ·obtain⟨b,off,rfl,-,hb,he⟩:=h (fun e=>h0 (by rw[e];rfl))
  have hcell:∀ i,i<xs.length*e.size→∃ v,w.cell? ⟨b,off+i,none⟩=some v:=fun i hi=>by
   have hpos:0<e.size:=by
    rcases kN e.size with h0 | h0
    ·rw[h0] at hi;omega
    ·exact h0
   have hq:i / e.size<xs.length:=Nat.div_lt_of_lt_mul (by rw[Nat.mul_comm];exact hi)
   obtain⟨v,hv,-⟩:=(he _ hq).cells (i % e.size) (Nat.mod_lt _ hpos);refine⟨v,?_⟩;simp only[Src.cell] at hv
   rw[kH,show i / e.size*e.size+i % e.size=i by rw[Nat.mul_comm];exact Nat.div_add_mod i e.size] at hv
   exact hv
  refine⟨(List.range (xs.length*e.size)).map fun i=>(w.cell? ⟨b,off+i,none⟩).getD undef,⟨by simp,fun _=>noB,fun i hi=>⟨?_,fun _ h=>h⟩,fun _ _ _ _ _ h=>h.elim⟩,.inr ⟨b,off,rfl,hb,fun i u hu=>?_⟩⟩
  ·refine Rep.pure hp (he i hi) fun r hr=>?_
   have hlt:=mul_lt hi hr;simp only[Src.cell];rw[List.getElem?_map,List.getElem?_range hlt,kH];obtain⟨u,hu⟩:=hcell _ hlt;rw[hu];simp[hu]
  ·rw[List.getElem?_map] at hu
   cases hr:(List.range (xs.length*e.size))[i]? with
   |none=>rw[hr] at hu;cases hu
   |some j=>
    rw[hr] at hu
    have hi:i<xs.length*e.size:=by
     have:=(List.getElem?_eq_some_iff.1 hr).1
     simpa using this
    have:j=i:=by
     rw[List.getElem?_range hi] at hr;exact(jN hr).symm
    subst this;obtain⟨v,hv⟩:=hcell j hi;simp only[jT] at hu;rw[hv] at hu ⊢
    simpa using hu
theorem Ysv {f:FuncId} {e:Ty} {E:TypeId} (hp:e.pure=true) (ht:Ybb P f)
  (h:∀ (w:World) (A:Option Addr) (b off m c:Nat) (hs:Nat→Hdr) (cs:Nat→List Value),(0<m→A=some ⟨b,off,none⟩∧b<w.heap.size∧∀ j,j<m→w.cell? ⟨b,off+j,none⟩=some (hvl (hs j)))→
   (∀ j,j<m→(cs j).length=(hs j).2.1*e.size∧(∀ u∈cs j,u.oneCell'=true)∧(((hs j).2.1=0∧cs j=[])∨∃ b' o',(hs j).1=some ⟨b',o',none⟩∧b'<w.heap.size∧∀ i u,(cs j)[i]? = some u→w.cell? ⟨b',o'+i,none⟩=some u))→
   m≤1048576→Ylj hs m≤1048576→Calls P f #[.slice A m c] w fun en W=>∃ v,en=.returned v∧Below w.heap.size w W∧W.ownsRow w.heap.size E e.size v (Ylj hs m) (Ys9 cs m)) :
  Ycv P f (Yc6 [.sh] [.cl .sh (.sl (.sl e))] (fun x=>Yko x.1) fun y=>⟨[.cl .deep (.sl e) y],[]⟩):=by
 intro cs R k r he;simp only[Yc6] at he
 split at he
 ·rename_i x hx
  have e':=PT.Ydj hx;subst e'
  cases hb:Yko x.1 with
  |none=>rw[hb] at he;cases he
  |some t=>
   rw[hb] at he;unfold Yko at hb
   cases hd:(decide (x.1.length≤1048576)&&decide (x.1.flatten.length≤1048576)) with
   |false=>rw[hd] at hb;cases hb
   |true=>
    rw[hd] at hb;cases hb;simp only[jC,jI] at hd;obtain⟨L,_⟩:=x;refine⟨_,he,Yqb ht fun w A c hr=>?_⟩;have hr':Rep w noB (.sl (.sl e)) .sh L (.reg [.slice A L.length c] 0) noB:=hr;obtain⟨A',c',k1,k2,k3⟩:=hr';have k1':some (Value.slice A L.length c)=some (.slice A' L.length c'):=k1;simp only[jD,Value.slice.injEq] at k1';obtain⟨rfl,-,rfl⟩:=k1';have hone:(Ty.sl e).size=1:=rfl
    have hA:∃ b off,0<L.length→A=some ⟨b,off,none⟩∧b<w.heap.size∧∀ j (hj:j<L.length),Rep w noB (.sl e) .sh L[j] (.mem b (off+j)) noB:=by
     by_cases h0:0<L.length
     ·obtain⟨b,off,q1,-,q2,q3⟩:=k3 (List.ne_nil_of_length_pos h0)
      refine⟨b,off,fun _=>⟨q1,q2,fun j hj=>?_⟩⟩;have:=q3 j hj;rw[hone,Nat.mul_one] at this;exact this
     ·exact⟨0,0,fun h=>absurd h h0⟩
    obtain⟨b,off,hA⟩:=hA
    have row:∀ j,∃ q:Hdr×List Value,∀ (hj:j<L.length),w.cell? ⟨b,off+j,none⟩=some (hvl q.1)∧q.1.2.1=L[j].length∧Yat w e L[j] q.2 noB∧((L[j].length=0∧q.2=[])∨∃ b off,q.1.1=some ⟨b,off,none⟩∧b<w.heap.size∧∀ i u,q.2[i]? = some u→w.cell? ⟨b,off+i,none⟩=some u):=by
     intro j
     by_cases hj:j<L.length
     ·obtain⟨A',c',t1,t2,t3⟩:=(hA (by omega)).2.2 j hj
      obtain⟨cs,q1,q2⟩:=Yat.Yul hp t3;refine⟨((A',L[j].length,c'),cs),fun _=>⟨?_,rfl,q1,q2⟩⟩
      simpa [Src.cell,hvl] using t1
     ·exact⟨((none,0,0),[]),fun h=>absurd h hj⟩
    obtain⟨q,hq⟩:=Classical.axiomOfChoice row;have htot:=Yov (hs:=fun j=>(q j).1) (L:=L) (fun j hj=>(hq j hj).2.1) L.length (jB _);rw[List.take_length] at htot;have hcat:=Yat.cat (L:=L) (cs:=fun j=>(q j).2) (Fs:=fun _=>noB) (F:=noB) (fun j hj=>⟨(hq j hj).2.2.1,fun _ h=>h⟩) (fun _ _ _ _ _ h=>h.elim) L.length (jB _);rw[List.take_length] at hcat
    refine(h w A b off L.length c (fun j=>(q j).1) (fun j=>(q j).2) (fun h0=>⟨(hA h0).1,(hA h0).2.1,fun j hj=>(hq j hj).1⟩) (fun j hj=>?_) hd.1 (by rw[htot];exact hd.2)).mono ?_
    ·refine⟨by rw[(hq j hj).2.1];exact(hq j hj).2.2.1.1,(hq j hj).2.2.1.one,?_⟩
     rcases(hq j hj).2.2.2 with ⟨z1,z2⟩ | z
     ·exact .inl ⟨by rw[(hq j hj).2.1,z1],z2⟩
     ·exact .inr z
    ·rintro en W ⟨v,rfl,hB,ho⟩
     rw[htot] at ho;obtain⟨A',c',rfl,hrep⟩:=Yat.row (w0:=w) hcat (fun b ⟨_,_,h⟩=>h.elim) hB (jB _) ho;exact⟨A',c',rfl,hB,_,hrep.Yjm,fun b hb=>hb.elim (fun⟨_,_,h⟩=>h.elim) id⟩
 ·cases he
end
section
open Go.RowKit
theorem Ynb {f:FuncId} (hthere:Ybb P f) {a b:Ty} {x:a.El} {y:b.El} {n:Int}
  (h:∀ (u v:Value) (w:World) (M:Yd) (L:Nat→Src) (ρ:Yc),Yb w M L ρ (.cl .sh a x) u→Yb w M L ρ (.cl .sh b y) v→Calls P f #[u,v] w fun e w'=>e=.returned (.int .i64 n)∧w'=w)
  (ha:lk 0 (Yi [.cl .sh a x,.cl .sh b y]).tm=some (.cl .sh a x)) (hb:lk 1 (Yi [.cl .sh a x,.cl .sh b y]).tm=some (.cl .sh b y)):Ycu P f [.sh,.sh] [.cl .sh a x,.cl .sh b y] ⟨[.cl .sh (.int .i64) n],[]⟩ where
 there:=hthere
 calls:=by
  intro Z C us hl hnt hP1 hP2 I;have hus:us.size=2:=hl;have h0:Yb _ _ _ _ (.cl .sh a x) ((⟨us,[]⟩:Act).tmps.getD 0 undef):=I.tm 0 (.cl .sh a x) ha;have h1:Yb _ _ _ _ (.cl .sh b y) ((⟨us,[]⟩:Act).tmps.getD 1 undef):=I.tm 1 (.cl .sh b y) hb
  have hus2:us=#[us.getD 0 undef,us.getD 1 undef]:=by
   apply Array.ext (by simp[hus])
   intro i h4 h5
   have:i=0∨i=1:=by omega
   rcases this with rfl | rfl<;>simp[Array.getD,hus]
  rw[hus2];refine(h _ _ Z.w _ _ _ h0 h1).mono fun e w' ⟨he,hw⟩=>?_;subst he;subst hw;refine⟨_,rfl,C,noB,fun _=>none,noB,Ygl (Below.refl _ _) I.str.xb I.str.kb,trivial,fun _ h=>h,?_,rfl,rfl⟩;exact Yb.Ybt _ _ _
theorem Ylz {f:FuncId} (hthere:Ybb P f) {a b:Ty} {F:a.El→b.El→Option Int}
  (h:∀ x y n,F x y=some n→∀ (u v:Value) (w:World) (M:Yd) (L:Nat→Src) (ρ:Yc),Yb w M L ρ (.cl .sh a x) u→Yb w M L ρ (.cl .sh b y) v→Calls P f #[u,v] w fun e w'=>e=.returned (.int .i64 n)∧w'=w)
  (ha:∀ (x:a.El) (y:b.El),lk 0 (Yi [.cl .sh a x,.cl .sh b y]).tm=some (.cl .sh a x)) (hb:∀ (x:a.El) (y:b.El),lk 1 (Yi [.cl .sh a x,.cl .sh b y]).tm=some (.cl .sh b y)) :
  Ycv P f (Yc6 [.sh,.sh] [.cl .sh a,.cl .sh b] (fun x=>F x.1 x.2.1) fun n=>⟨[.cl .sh (.int .i64) n],[]⟩):=by
 intro cs R k r he;simp only[Yc6] at he
 split at he
 ·rename_i x hx
  have e:=PT.Ydj hx;subst e
  cases hf:F x.1 x.2.1 with
  |none=>rw[hf] at he;cases he
  |some n=>rw[hf] at he;exact⟨_,he,Ynb hthere (h _ _ _ hf) (ha _ _) (hb _ _)⟩
 ·cases he
def Yie (s:List UInt8) (c:Int):Option Int:=some (Go.Lib.indexByte s c.toNat.toUInt8)
def countP (s sub:List UInt8):Option Int:=match sub with | [c]=>some (s.count c:Nat) | _=>none
theorem Yr0 {f:FuncId} (hthere:Ybb P f)
  (h:∀ (s:ByteArray) (c:Int) (w:World),Calls P f #[.string s,.int .u8 c] w fun e w'=>e=.returned (.int .i64 (Go.Lib.indexByte s.data.toList c.toNat.toUInt8))∧w'=w) :
  Ycv P f (Yc6 [.sh,.sh] [.cl .sh .str,.cl .sh (.int .u8)] (fun x=>Yie x.1 x.2.1) fun n=>⟨[.cl .sh (.int .i64) n],[]⟩):=
 Ylz (a:=.str) (b:=.int .u8) hthere (ha:=fun _ _=>rfl) (hb:=fun _ _=>rfl) fun x y n hf u v w M L ρ h0 h1=>by
  obtain⟨z,rfl,rfl⟩:=h0.str;have e:=h1.int;subst e;simp only[Yie] at hf;cases hf;exact h z y w
theorem Yt6 {f:FuncId} (hthere:Ybb P f)
  (h:∀ (s:ByteArray) (c:UInt8) (w:World),Calls P f #[.string s,.string ⟨#[c]⟩] w fun e w'=>e=.returned (.int .i64 (s.data.toList.count c:Nat))∧w'=w) :
  Ycv P f (Yc6 [.sh,.sh] [.cl .sh .str,.cl .sh .str] (fun x=>countP x.1 x.2.1) fun n=>⟨[.cl .sh (.int .i64) n],[]⟩):=
 Ylz (a:=.str) (b:=.str) hthere (ha:=fun _ _=>rfl) (hb:=fun _ _=>rfl) fun x y n hf u v w M L ρ h0 h1=>by
  obtain⟨z,rfl,rfl⟩:=h0.str;obtain⟨z2,rfl,h2⟩:=h1.str
  have key:∀ l:List UInt8,z2.data.toList=l→countP z.data.toList l=some n→Calls P f #[.string z,.string z2] w fun e w'=>e=.returned (.int .i64 n)∧w'=w:=fun l h2 hf=>by
   match l with
   |[c]=>
    have:z2=⟨#[c]⟩:=by
     have h3:z2.data=#[c]:=Array.toList_inj.1 h2;cases z2;simp only at h3;rw[h3]
    subst this;simp only[countP,jD] at hf;subst hf
    exact h z c w
   |[]=>cases hf
   |_::_::_=>cases hf
  exact key y h2 hf
end
section
open Go.RowKit
def Yqo (xs:List (List UInt8)) (sep:List UInt8):Option (List UInt8):=cond (decide (xs.length≤1048576)&&decide ((Go.Lib.join xs sep).length≤1048576)) (some (Go.Lib.join xs sep)) none
theorem Ypa {f:FuncId} (hthere:Ybb P f) {xs:List (List UInt8)} {sep:List UInt8}
  (h:∀ (w:World) (A:Option Addr) (c:Nat) (zs:List ByteArray) (s:ByteArray),zs.map (·.data.toList)=xs→s.data.toList=sep→(zs≠[]→∃ b o,A=some ⟨b,o,none⟩∧b<w.heap.size∧∀ (j:Nat) x,zs[j]? = some x→w.cell? ⟨b,o+j,none⟩=some (.string x))→zs.length≤c→
   Calls P f #[.slice A zs.length c,.string s] w fun e w'=>e=.returned (.string ⟨(Go.Lib.join xs sep).toArray⟩)∧Below w.heap.size w w') :
  Ycu P f [.sh,.sh] [.cl .sh (.sl .str) xs,.cl .sh .str sep] ⟨[.cl .sh .str (Go.Lib.join xs sep)],[]⟩ where
 there:=hthere
 calls:=by
  intro Z C us hl hnt hP1 hP2 I;have hus:us.size=2:=hl;have h0:Yb _ _ _ _ (.cl .sh (.sl .str) xs) ((⟨us,[]⟩:Act).tmps.getD 0 undef):=I.tm 0 (.cl .sh (.sl .str) xs) rfl;have h1:Yb _ _ _ _ (.cl .sh .str sep) ((⟨us,[]⟩:Act).tmps.getD 1 undef):=I.tm 1 (.cl .sh .str sep) rfl;obtain⟨z,hz1,hz2⟩:=h1.str;have hrep:Rep Z.w (Mt Z C (Yi [.cl .sh (.sl .str) xs,.cl .sh .str sep]).root noB) (.sl .str) .sh xs (.reg (us.getD 0 undef).cells.toList 0) noB:=h0.1;have hone:=h0.one rfl;obtain⟨A,c,k1,k2,k3⟩:=hrep
  have hv:us.getD 0 undef=.slice A xs.length c:=by
   have:(Src.reg (us.getD 0 undef).cells.toList 0).cell Z.w 0=some (us.getD 0 undef):=by
    rw[show(us.getD 0 undef).cells=#[us.getD 0 undef] from hone];rfl
   rw[this] at k1;exact jN k1
  have hus2:us=#[.slice A xs.length c,.string z]:=by
   apply Array.ext (by simp[hus])
   intro i h4 h5
   have:i=0∨i=1:=by omega
   rcases this with rfl | rfl
   ·simpa [Array.getD,h4] using hv
   ·have:us.getD 1 undef=.string z:=hz1
    simpa [Array.getD,h4] using this
  rw[hus2]
  have hlen:xs.length=(xs.map fun x=>(⟨x.toArray⟩:ByteArray)).length:=by simp
  rw[hlen]
  refine(h Z.w A c (xs.map fun x=>⟨x.toArray⟩) z (by simp[Function.comp_def]) hz2 (fun hne=>?_) (by rw[←hlen];exact k2)).mono fun e w' ⟨he,hb⟩=>?_
  ·obtain⟨b,off,q1,-,q2,q3⟩:=k3 (fun e=>hne (by rw[e];rfl))
   refine⟨b,off,q1,q2,fun j x hj=>?_⟩;rw[List.getElem?_map] at hj
   cases hx:xs[j]? with
   |none=>rw[hx] at hj;cases hj
   |some y=>
    rw[hx] at hj;cases hj;obtain⟨hlt,hy⟩:=List.getElem?_eq_some_iff.1 hx;obtain⟨y2,r1,r2⟩:=q3 j hlt
    have r1':Z.w.cell? ⟨b,off+j,none⟩=some (.string y2):=by simpa [Src.cell,Ty.size] using r1
    rw[r1',←hy,←r2]
  ·subst he
   refine⟨_,rfl,C,noB,fun _=>none,noB,Ygl hb I.str.xb I.str.kb,trivial,fun _ h=>h,?_,rfl,rfl⟩;exact Yb.Yjy _ ⟨(Go.Lib.join xs sep).toArray⟩
theorem Yuw {f:FuncId} (hthere:Ybb P f)
  (h:∀ (w:World) (A:Option Addr) (c:Nat) (zs:List ByteArray) (s:ByteArray),zs.length≤1048576→(Go.Lib.join (zs.map (·.data.toList)) s.data.toList).length≤1048576→(zs≠[]→∃ b o,A=some ⟨b,o,none⟩∧b<w.heap.size∧∀ (j:Nat) x,zs[j]? = some x→w.cell? ⟨b,o+j,none⟩=some (.string x))→zs.length≤c→
   Calls P f #[.slice A zs.length c,.string s] w fun e w'=>e=.returned (.string ⟨(Go.Lib.join (zs.map (·.data.toList)) s.data.toList).toArray⟩)∧Below w.heap.size w w') :
  Ycv P f (Yc6 [.sh,.sh] [.cl .sh (.sl .str),.cl .sh .str] (fun x=>Yqo x.1 x.2.1) fun y=>⟨[.cl .sh .str y],[]⟩):=by
 intro cs R k r he;simp only[Yc6] at he
 split at he
 ·rename_i x hx
  have e:=PT.Ydj hx;subst e
  cases hb:Yqo x.1 x.2.1 with
  |none=>rw[hb] at he;cases he
  |some t=>
   rw[hb] at he;unfold Yqo at hb
   cases hd:(decide (List.length x.1≤1048576)&&decide ((Go.Lib.join x.1 x.2.1).length≤1048576)) with
   |false=>rw[hd] at hb;cases hb
   |true=>
    rw[hd] at hb;cases hb;simp only[jC,jI] at hd;refine⟨_,he,Ypa hthere fun w A c zs s e1 e2 h1 h2=>?_⟩
    have:=h w A c zs s (by have:=congrArg List.length e1;simp at this;omega) (by rw[e1,e2];exact hd.2) h1 h2
    rw[e1,e2] at this;exact this
 ·cases he
end
section
open Go.RowKit
variable {P:Program} {Z:W0}
def Out.frz:Out→Out
 |⟨[.cl _ t x],os⟩=>⟨[.cl .sh t x],os⟩
 |⟨[.cl _ t x,.cl _ u y],os⟩=>⟨[.cl .sh t x,.cl .sh u y],os⟩
 |o=>o
def FS.frz (fs:FS):FS:=⟨fs.modes,fun cs R k=>fs.F cs R fun out=>k out.frz⟩
theorem Ycu.frz {f:FuncId} {ms:List Md} {cs:List TV} {o:Ow} {t:Ty} {x:t.El} {os:List TV} (h:Ycu P f ms cs ⟨[.cl o t x],os⟩):Ycu P f ms cs ⟨[.cl .sh t x],os⟩ where
 there:=h.there
 calls:=by
  intro Z C us h1 h2 h3 h4 I;refine(h.calls Z C us h1 h2 h3 h4 I).mono ?_;rintro e w' ⟨v,rfl,C',G,ρ,Fr,hs,ho,hF,hr,hs1,hs2⟩;obtain⟨r1,r2,r3⟩:Ya w' (Mt Z C' ρ G) (Yh w' (Mt Z C' ρ G) C'.L ρ) (.cl o t x) (.reg v.cells.toList 0) Fr∧v.cells.size=(TV.cl o t x).size∧((TV.cl o t x).isAgg=true↔∃ cs,v=.agg cs):=hr;obtain⟨w1,hm⟩:=hs.weak (ρ':=ρ) (G':=noB) (fun _ _ h=>h) (fun _ h=>h.elim);have gs:=hs.Yb6 (ρ':=ρ) (G':=noB) hm Dd.none (fun _ _ _ h _=>h) (fun _ _ _ h _=>h);refine⟨v,rfl,C',noB,ρ,noB,w1.lf (fun v u hl=>Yh.go gs (Y2.Yom v) hl),ho,fun _ h=>h,⟨?_,r2,r3⟩,rfl,hs2⟩;show Rep w' (Mt Z C' ρ noB) t .sh x _ noB;refine Rep.share (r1:Rep w' _ t o x _ Fr) hm (fun b hb=>⟨?_,(hs.gbnd b (hF b hb)).1⟩);rintro(⟨r,R,hR,hT⟩ | hh | hh)
  ·exact hs.gdis r R hR b hT (hF b hb)
  ·exact hh
  ·exact(hs.gbnd b (hF b hb)).2.2.1 hh
theorem Ycu.Yu4 {f:FuncId} {ms:List Md} {cs:List TV} {o p:Ow} {t u:Ty} {x:t.El} {y:u.El} {os:List TV} (h:Ycu P f ms cs ⟨[.cl o t x,.cl p u y],os⟩):Ycu P f ms cs ⟨[.cl .sh t x,.cl .sh u y],os⟩ where
 there:=h.there
 calls:=by
  intro Z C us h1 h2 h3 h4 I;refine(h.calls Z C us h1 h2 h3 h4 I).mono ?_;rintro e w' ⟨v,rfl,C',G,ρ,Fr,hs,ho,hF,hr,hs1,hs2⟩;obtain⟨vs,rfl,hr⟩:=hr;obtain⟨w1,hm⟩:=hs.weak (ρ':=ρ) (G':=noB) (fun _ _ h=>h) (fun _ h=>h.elim);have gs:=hs.Yb6 (ρ':=ρ) (G':=noB) hm Dd.none (fun _ _ _ h _=>h) (fun _ _ _ h _=>h)
  have one:∀ {o:Ow} {t:Ty} {x:t.El} {v:Value} {F:Yd},Ye F G→Yha w' (Mt Z C' ρ G) C'.L ρ (.cl o t x) v F→Yha w' (Mt Z C' ρ noB) C'.L ρ (.cl .sh t x) v noB:=by
   rintro o t x v F hFG ⟨r1,r2,r3⟩;refine⟨?_,r2,r3⟩;show Rep w' (Mt Z C' ρ noB) t .sh x _ noB;refine Rep.share (r1:Rep w' _ t o x _ F) hm (fun b hb=>⟨?_,(hs.gbnd b (hFG b hb)).1⟩);rintro(⟨r,R,hR,hT⟩ | hh | hh)
   ·exact hs.gdis r R hR b hT (hFG b hb)
   ·exact hh
   ·exact(hs.gbnd b (hFG b hb)).2.2.1 hh
  refine⟨.tuple vs,rfl,C',noB,ρ,noB,w1.lf (fun v u hl=>Yh.go gs (Y2.Yom v) hl),ho,fun _ h=>h,⟨vs,rfl,?_⟩,rfl,hs2⟩
  match vs.toList,hr with
  |[v1,v2],hr=>
   obtain⟨F1,F2,a1,⟨F3,F4,a2,_,b1,b2,_⟩,c1,c2,_⟩:=hr
   exact⟨noB,noB,one (fun b hb=>hF b (c1 b hb)) a1,⟨noB,noB,one (fun b hb=>hF b (c2 b (b1 b hb))) a2,trivial,fun _ h=>h,fun _ h=>h,fun _ h=>h.elim⟩,fun _ h=>h,fun _ h=>h,fun _ h=>h.elim⟩
  |[],hr=>exact hr.elim
  |[v1],hr=>obtain⟨_,_,_,h,_⟩:=hr;exact h.elim
  |v1::v2::v3::l,hr=>obtain⟨_,_,_,⟨_,_,_,h,_⟩,_⟩:=hr;exact h.elim
theorem Ycv.frz {f:FuncId} {fs:FS} (h:Ycv P f fs):Ycv P f fs.frz:=by
 intro cs R k r he;obtain⟨out,h1,h2⟩:=h cs R (fun out=>k out.frz) r he;refine⟨out.frz,h1,?_⟩;show Ycu P f fs.modes cs out.frz;obtain⟨res,os⟩:=out
 match res,h2 with
 |[.cl o t x],h2=>exact h2.frz
 |[],h2=>exact h2
 |[.pr a b],h2=>exact h2
 |[.loc a b],h2=>exact h2
 |[.seg a b],h2=>exact h2
 |[.sub a b c d],h2=>exact h2
 |[.pt a b],h2=>exact h2
 |[.clo a b],h2=>exact h2
 |[.nl],h2=>exact h2
 |[.dead a],h2=>exact h2
 |[.rw a b c d e],h2=>exact h2
 |[.tup a],h2=>exact h2
 |[.op a],h2=>exact h2
 |[.gd a b c],h2=>exact h2
 |[.kb a],h2=>exact h2
 |[a,b],h2=>
  cases a with
  |cl o t x=>
   cases b with
   |cl p u y=>exact h2.Yu4
   |_=>exact h2
  |_=>exact h2
 |a::b::c::l,h2=>cases a<;>first | exact h2 | (cases b<;>exact h2)
end
end Mf
