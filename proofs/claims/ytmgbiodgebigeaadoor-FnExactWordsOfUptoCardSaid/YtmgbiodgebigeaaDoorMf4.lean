import Derived.Test.YtmgbiodgebigeaaDoorMf3
set_option linter.unusedVariables false
set_option linter.unusedSimpArgs false
set_option autoImplicit true
set_option relaxedAutoImplicit true
namespace Mf
open Go
variable {C:Cx} {G:Gam} {P:Program} {S:St} {Z:W0} {np nt:Nat} {tb:Tb} {w w':World}
section
open Go.ChangeShapes
variable {H:Type} {enc:TypeId×Value→H}
theorem Ym2 {r:Reach} {base:Nat} {t:TypeId} {v:Value} {i:Yd8} (hd:TOk P t i) (h:Value.okWide P w r base t v):i.ty.isAgg=true↔∃ cs,v=.agg cs:=by
 obtain⟨⟨d,hu,hD,ha⟩,_⟩:=hd;rw[ha];unfold Value.okWide at h;rw[hu] at h;obtain⟨td,ty,by_⟩:=i;simp only at hD
 have leaf:d.isRow=false→Cell.okWide P w r base t v→(d=.bool∨d=.string∨(∃ k,d=.int k)∨∃ e,d=.slice e)→(d.isRow=true↔∃ cs,v=.agg cs):=by
  intro h1 h2 h3;rw[h1]
  refine⟨(fun e=>by cases e),fun⟨cs,e⟩=>?_⟩
  subst e
  rcases h3 with rfl | rfl | ⟨k,rfl⟩ | ⟨e,rfl⟩<;>simp[Cell.okWide,Cell.ok,hu] at h2
 cases td with
 |int k=>obtain⟨rfl,rfl⟩:=hD;exact leaf rfl h (.inr (.inr (.inl ⟨k,rfl⟩)))
 |bool=>obtain⟨rfl,rfl⟩:=hD;exact leaf rfl h (.inl rfl)
 |str=>obtain⟨rfl,rfl⟩:=hD;exact leaf rfl h (.inr (.inl rfl))
 |sl e=>obtain⟨rfl,_⟩:=hD;exact leaf rfl h (.inr (.inr (.inr ⟨e,rfl⟩)))
 |arr n e=>
  obtain⟨rfl,_⟩:=hD;obtain⟨cs,rfl,_⟩:=h
  exact⟨fun _=>⟨cs,rfl⟩,fun _=>rfl⟩
 |st offs=>
  obtain⟨fs,rfl,_⟩:=hD;obtain⟨cs,rfl,_⟩:=h
  exact⟨fun _=>⟨cs,rfl⟩,fun _=>rfl⟩
 |ptr e=>exact hD.elim
 |other=>exact hD.elim
def Yow (tb:Tb):List TypeId→List Ty→Bool
 |[],[]=>true
 |t::ts,u::us=>(match lk t tb with | some i=>decide (i.ty=u) | none=>false)&&Yow tb ts us
 |_,_=>false
abbrev shs (tys:List Ty):List PT:=tys.map fun t=>.cl .sh t
def Yl7:(tys:List Ty)→PT.Els (shs tys)→Prop
 |[],_=>True
 |t::l,x=>Fit t x.1∧Yl7 l x.2
def Yn0:(tys:List Ty)→PT.Els (shs tys)→Nat
 |[],_=>0
 |t::l,x=>wt t x.1+Yn0 l x.2
def Yed (w:World):(tys:List Ty)→PT.Els (shs tys)→List Value→Prop
 |[],_,vs=>vs=[]
 |t::l,x,v::vs=>(Rep w noB t .sh x.1 (.reg v.cells.toList 0) noB∧v.cells.size=t.size∧(t.isAgg=true↔∃ cs,v=.agg cs))∧Yed w l x.2 vs
 |_::_,_,[]=>False
theorem Ymg (hb:Yaj P tb) {t:TypeId} {i:Yd8} (hl:lk t tb=some i) {held:Bool} {fuel:Nat} {sp:Nat→Bool} {v:Value} {d:DataW H} {ps:List MemPlace} (hagg:i.ty.isAgg=true↔∃ cs,v=.agg cs)
  (h:DataW.trod enc P w 0 sp held fuel t v.cells.toList=some (d,ps)):v.cells.size=i.ty.size:=by
 cases hh:i.ty.isAgg with
 |false=>
  have:¬ ∃ cs,v=.agg cs:=fun e=>by rw[hagg.2 e] at hh;cases hh
  rw[Yc3 this]
  cases ht:i.ty<;>rw[ht] at hh<;>first | rfl | cases hh
 |true=>
  obtain⟨⟨u,hu,hD,ha⟩,_⟩:=hb t i hl;have hcell:=Ycc (hb t i hl)
  cases fuel with
  |zero=>simp[DataW.trod] at h
  |succ n=>
   obtain⟨td,ty,by_⟩:=i;simp only at hD hh ha hcell ⊢
   cases td with
   |int k=>obtain⟨_,rfl⟩:=hD;cases hh
   |bool=>obtain⟨_,rfl⟩:=hD;cases hh
   |str=>obtain⟨_,rfl⟩:=hD;cases hh
   |sl e=>obtain⟨_,te,ie,rfl,_⟩:=hD;cases hh
   |arr n e=>
    obtain⟨rfl,_⟩:=hD;simp only[DataW.trod,hu] at h
    split at h
    ·rename_i hc;rw[←hcell,←hc];simp
    ·cases h
   |st offs=>
    obtain⟨fs,rfl,_⟩:=hD;simp only[DataW.trod,hu] at h
    split at h
    ·rename_i hc;rw[←hcell,←hc];simp
    ·cases h
   |ptr e=>exact hD.elim
   |other=>exact hD.elim
theorem Yi0 (hb:Yaj P tb) (hc:Ycd P tb tb=true) {bk:DataW H→Nat} (hf:Yry bk) {held:Bool} {sp:Nat→Bool} {base:Nat}:∀ (ts:List TypeId) (tys:List Ty) (vs:List Value) (ds:List (DataW H)) (ps:List MemPlace),
  Yow tb ts tys=true→(∀ (j:Nat) t v,ts[j]? = some t→vs[j]? = some v→Value.okWide P w .any base t v)→DataW.TrodAll enc P w 0 sp held ts vs ds ps→
  ∃ x:PT.Els (shs tys),Yed w tys x vs∧Yl7 tys x∧Yn0 tys x≤Ydj bk ds
 |[],[],vs,ds,ps,ht,hv,h=>by
  obtain⟨rfl,rfl,rfl⟩:=trodAll_nil h
  exact⟨(),rfl,trivial,kE _⟩
 |t::ts,ty::tys,vs,ds,ps,ht,hv,h=>by
  obtain⟨v,vs1,d,ds1,a,b,rfl,rfl,rfl,h1,h2⟩:=trodAll_cons h;simp only[Yow,jC] at ht;obtain⟨ht1,ht2⟩:=ht
  split at ht1
  ·rename_i i hi
   rw[jI] at ht1;subst ht1
   obtain⟨x2,p1,p2,p3⟩:=Yi0 hb hc hf ts tys vs1 ds1 b ht2 (fun j t v e1 e2=>hv (j+1) t v (by simpa using e1) (by simpa using e2)) h2
   obtain⟨fuel,h1⟩:=h1;have hagg:=Ym2 (hb t i hi) (hv 0 t v rfl rfl);have hsz:=Ymg hb hi hagg h1
   obtain⟨x1,q1,q2,q3⟩:=Yim hb hc hf fuel t i _ d a hi h1 (.reg v.cells.toList 0) (fun k u hk=>by simp only[Src.cell,jJ];exact hk) (by simp[hsz])
   refine⟨(x1,x2),⟨⟨q1,hsz,hagg⟩,p1⟩,⟨q2,p2⟩,?_⟩;simp only[Yn0,Ydj];omega
  ·cases ht1
 |[],_::_,vs,ds,ps,ht,hv,h=>by cases ht
 |_::_,[],vs,ds,ps,ht,hv,h=>by cases ht
theorem Yfr (hb:Yaj P tb) (hc:Ycd P tb tb=true) (hw:∀ b,b<w.heap.size→w'.heap[b]? = w.heap[b]?) {held held':Bool} {sp':Nat→Bool}:∀ (ts:List TypeId) (tys:List Ty) (vs:List Value) (ds:List (DataW H)) (ps:List MemPlace),
  Yow tb ts tys=true→DataW.TrodAll enc P w 0 (fun _=>true) held ts vs ds ps→(∀ p∈ps,sp' p.block=true)→DataW.TrodAll enc P w' 0 sp' held' ts vs ds ps
 |[],[],vs,ds,ps,ht,h,hp=>by
  obtain⟨rfl,rfl,rfl⟩:=trodAll_nil h
  exact trodAll_mk0
 |t::ts,ty::tys,vs,ds,ps,ht,h,hp=>by
  obtain⟨v,vs1,d,ds1,a,b,rfl,rfl,rfl,h1,h2⟩:=trodAll_cons h;simp only[Yow,jC] at ht;obtain⟨ht1,ht2⟩:=ht
  split at ht1
  ·rename_i i hi
   obtain⟨fuel,h1⟩:=h1;exact⟨a,b,⟨fuel,Yjw hb hc hw fuel t i _ d a hi h1 (fun p hp'=>hp p (jW _ hp'))⟩,Yfr hb hc hw ts tys vs1 ds1 b ht2 h2 (fun p hp'=>hp p (kB _ hp')),rfl⟩
  ·cases ht1
 |[],_::_,vs,ds,ps,ht,h,hp=>by cases ht
 |_::_,[],vs,ds,ps,ht,h,hp=>by cases ht
theorem Yed.length {tys:List Ty}:∀ {x:PT.Els (shs tys)} {vs:List Value},Yed w tys x vs→vs.length=(PT.mks (shs tys) x).length:=by
 induction tys with
 |nil=>intro x vs h;rw[show vs=[] from h];rfl
 |cons t l ih=>
  intro x vs h
  cases vs with
  |nil=>exact h.elim
  |cons v vs=>exact congrArg (·+1) (ih h.2)
theorem Yed.get {tys:List Ty}:∀ {x:PT.Els (shs tys)} {vs:List Value} (i:Nat) {c:TV},Yed w tys x vs→(PT.mks (shs tys) x)[i]? = some c→
  ∃ t y v,c=.cl .sh t y∧vs[i]? = some v∧Rep w noB t .sh y (.reg v.cells.toList 0) noB∧v.cells.size=t.size∧(t.isAgg=true↔∃ cs,v=.agg cs):=by
 induction tys with
 |nil=>intro x vs i c h hc;cases hc
 |cons t l ih=>
  intro x vs i c h hc
  cases vs with
  |nil=>exact h.elim
  |cons v vs=>
   cases i with
   |zero=>cases hc;exact⟨t,x.1,v,rfl,rfl,h.1.1,h.1.2.1,h.1.2.2⟩
   |succ i=>
    obtain⟨t',y,u,h1,h2,h3⟩:=ih i h.2 (c:=c) hc
    exact⟨t',y,u,h1,by simpa using h2,h3⟩
theorem Yrj {tys:List Ty}:∀ (x:PT.Els (shs tys)),PT.rds (shs tys) (PT.mks (shs tys) x)=some x:=by
 induction tys with
 |nil=>intro x;rfl
 |cons t l ih=>
  intro x
  have e1:(PT.cl .sh t).rd (.cl .sh t x.1)=some x.1:=by
   simp only[PT.rd];rw[show decEq Ow.sh Ow.sh=isTrue rfl from Subsingleton.elim _ _,show decEq t t=isTrue rfl from Subsingleton.elim _ _]
  have h2:=ih x.2;change PT.rds (PT.cl .sh t::shs l) (TV.cl .sh t x.1::PT.mks (shs l) x.2)=some x;simp only[PT.rds];rw[e1,h2];rfl
theorem Ypt (r:Nat) (p:Path) (t:Ty) (x:t.El):Yah r p .sh t x=.cl .sh t x:=by
 cases t<;>simp only[Yah]<;>first | rfl | (split<;>rfl)
theorem Yoe {f:FuncId} {ms:List Md} {tys:List Ty} {x:PT.Els (shs tys)} {us:Array Value} {o:Ow} {b:Bool} (hC:Ydh P f ms (PT.mks (shs tys) x) ⟨[.cl o .bool b],[]⟩) (ha:Yed w tys x us.toList) :
  Calls P f us w fun e w'=>e=.returned (.bool b)∧(∀ i,i<w.heap.size→w'.heap[i]? = w.heap[i]?)∧w'.os=w.os∧w'.output=w.output∧w.heap.size≤w'.heap.size:=by
 have hlen:us.size=(PT.mks (shs tys) x).length:=by rw[←ha.length];simp
 let Z:W0:=⟨w,noB,fun _ _=>False,noB,fun i=>if i<us.size then some (.reg (us.getD i undef).cells.toList 0) else none,us.size⟩
 let C:Cx:=⟨fun i=>.reg (us.getD i undef).cells.toList 0,fun _=>noB⟩
 have hroot:∀ r,(Yj (PT.mks (shs tys) x)).root r=none:=by
  intro r;unfold St.root Yj;simp only[Yjf];rw[jL (kE r)]
  cases hc:(PT.mks (shs tys) x)[r-0]? with
  |none=>rfl
  |some c=>
   obtain⟨t,y,v,rfl,_⟩:=ha.get _ hc
   have:Y6 (.cl .sh t y)=none:=by
    show(match t.pure,Ow.sh with | true,_=>none | false,.sh=>none | false,o=>some (Root.mk .reg (.cl o t y)))=none
    cases t.pure<;>rfl
   simp[this]
 have hM:∀ b,¬ Mt Z C (Yj (PT.mks (shs tys) x)).root noB b:=by
  rintro b (⟨r,R,h,_⟩ | h | h)
  ·rw[hroot] at h;cases h
  ·exact h
  ·exact h
 have I:Inv Z (Yj (PT.mks (shs tys) x)) C ⟨us,[]⟩ w:=by
  refine⟨⟨?_,?_,?_,?_,fun _ h=>h.elim,?_,?_,?_,jB _,fun _ _ _=>rfl,fun _ _ _=>rfl,fun _ _ _ _=>rfl,fun _ h=>h.elim,fun _ _ h=>h.elim,rfl,rfl,rfl⟩,fun i v hv=>?_,rfl,rfl⟩
  ·intro r R h;rw[hroot] at h;cases h
  ·intro r R h;rw[hroot] at h;cases h
  ·intro r R h;rw[hroot] at h;cases h
  ·intro r R b h;rw[hroot] at h;cases h
  ·intro r r' R R' _ h;rw[hroot] at h;cases h
  ·intro r R h;rw[hroot] at h;cases h
  ·intro r R h;rw[hroot] at h;cases h
  ·have h1:=Ydz (PT.mks (shs tys) x) 0 i
   rw[show lk i (Yck 0 (PT.mks (shs tys) x))=some v from hv,jL (kE i)] at h1
   cases hc:(PT.mks (shs tys) x)[i-0]? with
   |none=>rw[hc] at h1;cases h1
   |some c=>
    rw[hc] at h1;obtain⟨t,y,u,rfl,hu,hr,hs,hg⟩:=ha.get _ hc;simp only[jT,jD,TV.mir,Ypt] at h1;subst h1;rw[Nat.sub_zero] at hu
    have hu':us.getD i undef=u:=by
     rw[kU,←Array.getElem?_toList,hu];rfl
    show Yb _ _ _ _ _ _;rw[show(Act.mk us []).tmps=us from rfl,hu'];refine⟨?_,hs,hg⟩;have:=Ya.mono (Lf:=Yh w (Mt Z C (Yj (PT.mks (shs tys) x)).root noB) C.L (Yj (PT.mks (shs tys) x)).root) (tv:=.cl .sh t y) hr (M':=Mt Z C (Yj (PT.mks (shs tys) x)).root noB) (fun b h=>(hM b h).elim);exact this
 refine(hC.calls Z C us hlen rfl (fun i hi=>jM (by omega)) (fun i hi=>jL hi) I).mono fun e w' he=>?_
 obtain⟨v,rfl,C',G,ρ,Fr,hS,_,_,hres,_⟩:=he
 have hv:v=.bool b:=by
  obtain⟨h1,h2,h3⟩:Ya _ _ _ (TV.cl o .bool b) (.reg v.cells.toList 0) Fr∧v.cells.size=1∧((TV.cl o .bool b).isAgg=true↔∃ cs,v=.agg cs):=hres
  have hna:¬ ∃ cs,v=.agg cs:=fun e=>by have:=h3.2 e;cases this
  have h4:v.cells.toList[0+0]? = some (.bool b):=h1;rw[Yc3 hna] at h4
  simpa using h4
 subst hv;exact⟨rfl,fun i hi=>hS.old i hi (fun h=>h),hS.os,hS.output,hS.sz⟩
theorem Ylh {may:MemPlace→Prop} (h:∀ i,i<w.heap.size→w'.heap[i]? = w.heap[i]?) (h1:w'.os=w.os) (h2:w'.output=w.output):w.keptBut w' may:=by
 have hr:=World.keptBut_refl w may;refine⟨h1,h2,fun i hi=>?_⟩;rw[h i hi];exact hr.2.2 i hi
theorem Yq1 (hb:Yaj P tb) (hc:Ycd P tb tb=true) {bk:DataW H→Nat} (hf:Yry bk) {f:FuncId} {fn:Func} {tys:List Ty} (hty:Yow tb fn.params.toList tys=true)
  {ms:List Md} {F:PT.Els (shs tys)→Option Bool} {o:Ow} (hok:Yee P f (Yh4 ms (shs tys) F (fun b=>⟨[.cl o .bool b],[]⟩))) {N:Nat} {s:ChangeSpec} (hvars:s.vars=[]) {W:World} {base:Nat} {args:Array Value} {ds gs:List (DataW H)} {before:List MemPlace}
  (hval:∀ (j:Nat) t v,fn.params[j]? = some t→args[j]? = some v→Value.okWide P W .any base t v) (hW:DataW.Whole enc P fn.params.toList s.vars false W args.toList ds gs before)
  (hk:Ydj bk (ds++gs)≤N) (law:∀ x,Yl7 tys x→Yn0 tys x≤N→F x=some true)
  (hs:s.fn H (ds++gs)={results:=[.lit (.bool true)],args:=ds }) {tr:TypeId} (hres:fn.resultTypes=#[tr]) (hbool:P.underlying tr=some .bool) :
  Calls P f args W fun e W'=>∃ v,e=.returned v∧s.post enc P fn false true false false W args v W':=by
 have hW0:=hW;obtain⟨p,q,hA,hV,rfl,hfz,hnd⟩:=hW
 obtain⟨rfl,rfl⟩:gs=[]∧q=[]:=by rw[hvars] at hV;exact trodVars_none hV
 obtain⟨x,h1,h2,h3⟩:=Yi0 hb hc hf fn.params.toList tys args.toList ds p hty (fun j t v e1 e2=>hval j t v (by simpa using e1) (by simpa using e2)) hA
 rw[qC] at hk;have hF:=law x h2 (jU h3 hk)
 obtain⟨out,e1,hC⟩:=hok (PT.mks (shs tys) x) Out some ⟨[.cl o .bool true],[]⟩ (by simp only[Yh4,Yrj,hF];rfl)
 cases e1;refine(Yoe hC h1).mono fun e W' he=>?_;obtain⟨rfl,hold,hos,hout,hsz⟩:=he
 refine⟨_,rfl,ds,[],p++[],[],p,[],hW0,?_,?_,?_,Ylh hold hos hout,fun h=>by cases h⟩
 ·rw[hs,hres]
  exact trodAll_mk1 ⟨1,by simp[DataW.trod,hbool,Value.resultList,Value.cells]⟩
 ·rw[hs]
  refine Yfr hb hc hold fn.params.toList tys args.toList ds p hty hA (fun y hy=>?_)
  have:=hW0.lt y (by simpa using hy)
  simpa using this
 ·rw[hvars,hs];rfl
end
theorem Yjc:∀ {n:Nat} {s:σ} {r:ρ},iter f n s=some r→iter f (n+1) s=some r
 |0,s,r,h=>by cases h
 |n+1,s,r,h=>by
  rw[iter] at h ⊢
  cases hf:f s with
  |none=>rw[hf] at h;cases h
  |some o=>
   rw[hf] at h
   cases o with
   |inl s'=>exact Yjc (n:=n) h
   |inr r'=>exact h
theorem Yno {σ ρ:Type} {f:σ→Option (σ⊕ρ)} {n m:Nat} {s:σ} {r:ρ} (h:iter f n s=some r) (hnm:n≤m):iter f m s=some r:=by
 induction hnm with
 |refl=>exact h
 |step _ ih=>exact Yjc ih
theorem Yh1 {σ ρ:Type} {f:σ→Option (σ⊕ρ)} {s:σ} {r:ρ} {n:Nat} (h:iter f n s=some r):Ya6 f s=some r:=by
 unfold Ya6;have hh:∃ r n,iter f n s=some r:=⟨r,n,h⟩;rw[dif_pos hh];obtain⟨m,hm⟩:=hh.choose_spec;have h1:=Yno h (Nat.le_max_left n m);have h2:=Yno hm (Nat.le_max_right n m);rw[h1] at h2;exact h2.symm
theorem Yep {σ ρ:Type} {f:σ→Option (σ⊕ρ)} {s:σ} {r:ρ} (h:f s=some (.inr r)):Ya6 f s=some r:=
 Yh1 (n:=1) (by rw[iter,h];rfl)
theorem Yeq {σ ρ:Type} {f:σ→Option (σ⊕ρ)} {s s':σ} (h:f s=some (.inl s')):Ya6 f s=Ya6 f s':=by
 by_cases hh:∃ r n,iter f n s'=some r
 ·obtain⟨r,n,hn⟩:=hh
  rw[Yh1 hn]
  exact Yh1 (n:=n+1) (by rw[iter,h];exact hn)
 ·have h1:¬ ∃ r n,iter f n s=some r:=by
   rintro⟨r,n,hn⟩
   cases n with
   |zero=>cases hn
   |succ n=>rw[iter,h] at hn;exact hh ⟨r,n,hn⟩
  unfold Ya6;rw[dif_neg hh,dif_neg h1]
theorem Yqj (h1 : -9223372036854775808≤x) (h2:x≤9223372036854775807):w64 x=x:=by
 simp[w64,IntKind.wrap,IntKind.bits,IntKind.signed];omega
theorem Ytm {i:Int} {n:Nat} (h1:0≤i) (h2:i<n):inB i n=true:=by
 simp[inB,h1,h2]
theorem Ytp {i n:Nat} (h:i<n):decide ((i:Int)<(n:Int))=true:=by simp;omega
theorem Ytl {i n:Nat} (h:n≤i):decide ((i:Int)<(n:Int))=false:=by simp;omega
theorem Ytb {i:Nat} (h:i<4294967296):w64 ((i:Int)+1)=((i+1:Nat):Int):=by rw[Yqj (by omega) (by omega)];rfl
theorem getD_lt {α:Type} {l:List α} {i:Nat} (d:α) (h:i<l.length):l.getD i d=l[i]:=by simp[List.getD,h]
theorem toNat_cast (i:Nat):((i:Int)).toNat=i:=kY i
theorem Ytf {α:Type} (x y:α):cond true x y=x:=rfl
theorem Yte {α:Type} (x y:α):cond false x y=y:=rfl
theorem Ynl (B:Int→Option (Int⊕(Bool⊕Unit))) (hs:∀ i:Nat,i<n→B (i:Int)=some (.inl ((i+1:Nat):Int))) (he:B (n:Int)=some (.inr (.inr ()))) :
  ∀ (k i:Nat),i+k=n→Ya6 B (i:Int)=some (.inr ())
 |0,i,h=>by
  have:i=n:=by omega
  subst this;exact Yep he
 |k+1,i,h=>by rw[Yeq (hs i (by omega))];exact Ynl B hs he k (i+1) (by omega)
theorem Ysy (B:Int→Option (Int⊕(Bool⊕Unit))) (hs:∀ i:Nat,i<n→B (i:Int)=some (.inl ((i+1:Nat):Int))) (he:B (n:Int)=some (.inr (.inr ()))):Ya6 B 0=some (.inr ()):=Ynl B hs he n 0 (by omega)
def MH {α:Type} (M:α→Int→Option (Int×α)) (H:α→Int→Option Int) (w:Nat) (a:α) (k:Int):Prop:=
 ∃ k' a',k≤k'∧k'≤k+w∧M a k=some (k',a')∧H a' k=some k'
theorem Yjh (w:α→Nat) (N:Int) (MB:Int×Int×List α→Option ((Int×Int×List α)⊕(Int×List α))) (HB:List α→Int×Int→Option ((Int×Int)⊕(Int⊕Int)))
  (he:∀ (k:Int) (a:List α),MB (k,(a.length:Int),a)=some (.inr (k,a))) (heH:∀ (k:Int) (a:List α),HB a (k,(a.length:Int))=some (.inr (.inr k)))
  (hs:∀ (k:Int) (i:Nat) (a:List α) (h:i<a.length),a.length≤2147483648→0≤k→k+w a[i]≤N→w a[i]≤2147483648→
   ∃ k' x',k≤k'∧k'≤k+w a[i]∧MB (k,(i:Int),a)=some (.inl (k',((i+1:Nat):Int),a.set i x'))∧
    ∀ b:List α,b.length=a.length→b[i]? = some x'→HB b (k,(i:Int))=some (.inl (k',((i+1:Nat):Int)))) :
  ∀ (n i:Nat) (k:Int) (a:List α),i+n=a.length→a.length≤2147483648→0≤k→k+((a.drop i).map w).sum≤N→((a.drop i).map w).sum≤2147483648→
   ∃ k' a',k≤k'∧k'≤k+((a.drop i).map w).sum∧a'.length=a.length∧Ya6 MB (k,(i:Int),a)=some (k',a')∧(∀ j:Nat,j<i→a'[j]? = a[j]?)∧
    ∀ b:List α,b.length=a.length→(∀ j:Nat,i≤j→b[j]? = a'[j]?)→Ya6 (HB b) (k,(i:Int))=some (.inr k')
 |0,i,k,a,h1,hl,h2,h3,h4=>by
  have:i=a.length:=by omega
  subst this
  refine⟨k,a,by omega,by omega,rfl,Yep (he k a),fun _ _=>rfl,fun b hb _=>?_⟩
  rw[←hb];exact Yep (heH k b)
 |n+1,i,k,a,h1,hl,h2,h3,h4=>by
  have hi:i<a.length:=by omega
  rw[kZ hi,jS,List.sum_cons] at h3 h4
  obtain⟨k1,x1,e1,e2,e3,e4⟩:=hs k i a hi hl h2 (by omega) (by omega)
  have hd:(a.set i x1).drop (i+1)=a.drop (i+1):=by rw[List.drop_set_of_lt (by omega)]
  obtain⟨k',a',f1,f2,f3,f4,f5,f6⟩:=Yjh w N MB HB he heH hs n (i+1) k1 (a.set i x1) (by simp;omega) (by simpa using hl) (by omega) (by rw[hd];omega) (by rw[hd];omega)
  rw[hd] at f2;rw[kC] at f3
  refine⟨k',a',by omega,?_,f3,by rw[Yeq e3];exact f4,fun j hj=>?_,fun b hb h=>?_⟩
  ·rw[kZ hi,jS,List.sum_cons];omega
  ·rw[f5 j (by omega),List.getElem?_set_ne (by omega)]
  ·have hx:b[i]? = some x1:=by rw[h i (jB _),f5 i (by omega),List.getElem?_set_self hi]
   rw[Yeq (e4 b hb hx)]
   exact f6 b (by rw[kC];exact hb) (fun j hj=>h j (by omega))
theorem Ysa (w:α→Nat) (N:Int) (MB:Int×Int×List α→Option ((Int×Int×List α)⊕(Int×List α))) (HB:List α→Int×Int→Option ((Int×Int)⊕(Int⊕Int)))
  (he:∀ (k:Int) (a:List α),MB (k,(a.length:Int),a)=some (.inr (k,a))) (heH:∀ (k:Int) (a:List α),HB a (k,(a.length:Int))=some (.inr (.inr k)))
  (hs:∀ (k:Int) (i:Nat) (a:List α) (h:i<a.length),a.length≤2147483648→0≤k→k+w a[i]≤N→w a[i]≤2147483648→
   ∃ k' x',k≤k'∧k'≤k+w a[i]∧MB (k,(i:Int),a)=some (.inl (k',((i+1:Nat):Int),a.set i x'))∧
    ∀ b:List α,b.length=a.length→b[i]? = some x'→HB b (k,(i:Int))=some (.inl (k',((i+1:Nat):Int))))
  (k:Int) (a:List α) (hl:a.length≤2147483648) (h0:0≤k) (hw:k+(a.map w).sum≤N) (hz:(a.map w).sum≤2147483648) :
   ∃ k' a',k≤k'∧k'≤k+(a.map w).sum∧Ya6 MB (k,0,a)=some (k',a')∧Ya6 (HB a') (k,0)=some (.inr k'):=by
 obtain⟨k',a',e1,e2,e3,e4,_,e6⟩:=Yjh w N MB HB he heH hs a.length 0 k a (by omega) hl h0 (by simpa using hw) (by simpa using hz)
 exact⟨k',a',e1,by simpa using e2,e4,e6 a' e3 fun _ _=>rfl⟩
theorem Yq2 {α:Type} (w:α→Nat) (h:∀ x,1≤w x):∀ xs:List α,xs.length≤(xs.map w).sum
 |[]=>jB _
 |x::xs=>by have:=Yq2 w h xs;have:=h x;simp only[jS,List.sum_cons,jH];omega
theorem Yq3 {α:Type} (w:α→Nat):∀ (xs:List α) (i:Nat) (h:i<xs.length),w xs[i]≤(xs.map w).sum
 |[],i,h=>absurd h (Nat.not_lt_zero _)
 |x::xs,0,h=>by simp
 |x::xs,i+1,h=>by
  have:=Yq3 w xs i (by simpa using h)
  simp only[List.getElem_cons_succ,jS,List.sum_cons];omega
theorem Ytg {α:Type} {b:List α} {i:Nat} {x:α} (d:α) (h:b[i]? = some x):b.getD i d=x:=by simp[List.getD,h]
theorem Ys2 {α:Type} {l:List α} {i:Nat} (x d:α) (h:i<l.length):(l.set i x).getD i d=x:=by simp[List.getD,h]
theorem Ytx (h1:0≤x) (h2:x≤9223372036854775807):w64 x=x:=Yqj (by omega) h2
def MK {α:Type} (M:α→Int→Option (Int×α)) (w:Nat) (a:α) (k:Int):Prop:=∃ k' a',k≤k'∧k'≤k+w∧M a k=some (k',a')
theorem MH.mk {α:Type} {M:α→Int→Option (Int×α)} {H:α→Int→Option Int} {w:Nat} {a:α} {k:Int} (h:MH M H w a k):MK M w a k:=by
 obtain⟨k',a',h1,h2,h3,_⟩:=h;exact⟨k',a',h1,h2,h3⟩
theorem Ytw {α β:Type} (p:α×β):(p.1,p.2)=p:=rfl
theorem Ytc (e:Ty) (xs:List e.El):wt (.sl e) xs=(xs.map (wt e)).sum+1:=rfl
theorem Yrq (a b:Ty) (x:a.El×b.El):wt (.pair a b) x=wt a x.1+wt b x.2:=rfl
theorem Ysm (k:IntKind) (x:Int):wt (.int k) x=1:=rfl
theorem Ysn (x:List UInt8):wt .str x=x.length+1:=rfl
theorem Yrr (x:Unit):wt .unit x=0:=rfl
theorem wA:(∀ (e:Ty) (x:List e.El),wt (.sl e) x=(x.map (wt e)).sum+1)∧(∀ (a b:Ty) (x:a.El×b.El),wt (.pair a b) x=wt a x.1+wt b x.2)∧(∀ (k:IntKind) (x:Int),wt (.int k) x=1)∧(∀ x:Bool,wt .bool x=1)∧(∀ x:List UInt8,wt .str x=x.length+1)∧∀ x:Unit,wt .unit x=0:=
 ⟨Ytc,Yrq,Ysm,fun _=>rfl,Ysn,Yrr⟩
theorem Yth {k:Int} (h:0≤k):decide (k<0)=false:=by simp;omega
theorem Yst (x:Int):(x != x)=false:=by simp
theorem Ysp (x:List UInt8):(x == x)=true:=by simp
theorem Yso (x:Bool):(x == x)=true:=by simp
section
variable {a:Act}
end
section
variable {a:Act}
variable {L:Lam} {hn:Hint}
end
section
open Go.Sort
variable {a:Act}
end
end Mf
namespace Go.Proofs
open Go.RowKit
abbrev Bk.Hd:=Int×Option Addr×Nat×Nat
def Bk.hv (h:Bk.Hd):Value:=.slice h.2.1 h.2.2.1 h.2.2.2
def Bk.enc (x:Int×Bk.Hd):Array Value:=#[.int .i64 x.1,.agg #[.int .i64 x.2.1,Bk.hv x.2]]
def Bk.at_ (len:Nat) (hd:Nat→Bk.Hd) (j:Nat):Int×Bk.Hd:=((len:Int)-1-j,hd (len-1-j))
def Bk.upto (len:Nat) (hd:Nat→Bk.Hd) (k:Nat):List (Int×Bk.Hd):=(List.range k).map (Bk.at_ len hd)
def Bk.last (hd:Nat→Bk.Hd) (at_:Int):Nat→Option Bk.Hd
 |0=>none
 |k+1=>if (hd k).1=at_ then some (hd k) else Bk.last hd at_ k
end Go.Proofs
namespace Mf
open Go Go.RowKit Go.Proofs
variable {P:Program} {Z:W0}
abbrev Yfp:Ty:=.pair (.int .i64) (.pair (.sl (.int .i64)) .unit)
theorem Yov {Lf:TV→Value→Prop} {C:Cx} {w':World} (h:Below Z.w.heap.size Z.w w') (hx:∀ b,Z.X b→b<Z.w.heap.size) (hk:∀ b i,Z.K b i→b<Z.w.heap.size):Str Z Lf C noB (fun _=>none) w' where
 rep:=fun _ _ h=>by cases h
 reg:=fun _ _ h=>by cases h
 mem:=fun _ _ h=>by cases h
 bnd:=fun _ _ _ h=>by cases h
 gbnd:=fun _ h=>h.elim
 dis:=fun _ _ _ _ _ h=>by cases h
 gdis:=fun _ _ h=>by cases h
 plc:=fun _ _ h=>by cases h
 sz:=h.size
 old:=fun b hb _=>h.block b hb
 kp:=fun b i hh=>h.cell (p:=⟨b,i,none⟩) (hk b i hh)
 kf:=fun b i j hh=>h.frozen (p:=⟨b,j,none⟩) (hk b i hh)
 xb:=hx
 kb:=hk
 os:=h.os
 tape:=h.tape
 output:=h.output
end Mf
namespace Mf
open Go
section
open Go.RowKit
theorem Rep.Ynj {w:World} {M M':Yd}:∀ {t:Ty} {x:t.El} {s:Src} {F:Yd},Rep w M t .deep x s F→Rep w M' t .deep x s F:=by
 intro t
 induction t with
 |int k=>intro x s F h;exact h
 |bool=>intro x s F h;exact h
 |str=>intro x s F h;exact h
 |unit=>intro x s F h;trivial
 |pair a b iha ihb=>intro x s F h;obtain⟨F1,F2,h1,h2,h3⟩:=h;exact⟨F1,F2,iha h1,ihb h2,h3⟩
 |sl e ih=>
  intro x s F h;obtain⟨A,c,h1,h2,h3⟩:=h;refine⟨A,c,h1,h2,fun hc=>?_⟩;obtain⟨b,off,Fs,e1,e2,e3,e4,e5⟩:=h3 hc
  exact⟨b,off,Fs,e1,e2,e3,fun i hi=>⟨ih (e4 i hi).1,(e4 i hi).2⟩,e5⟩
 |arr n e ih=>
  intro x s F h;obtain⟨h1,Fs,h2,h3⟩:=h;exact⟨h1,Fs,fun i hi=>⟨ih (h2 i hi).1,(h2 i hi).2⟩,h3⟩
def Yo0 (w w':World) (F:Yd):Prop:=∀ b,F b→w.heap.size≤b∧b<w'.heap.size
def Yhb (e:Ty) (o:Ow) (xs:List e.El) (w:World) (en:Ending) (w':World):Prop:=
 ∃ A c,en=.returned (.slice A xs.length c)∧Below w.heap.size w w'∧∃ F,Rep w' F (.sl e) o xs (.reg [.slice A xs.length c] 0) F∧Yo0 w w' F
end
section
open Go.RowKit
abbrev Yd7:=List (Int×List Int×Unit)
structure CpI (w0 W:World) (l:Yd7) (b off cap k:Nat):Prop where
 bel:Below w0.heap.size w0 W
 b1:w0.heap.size≤b
 b2:b<W.heap.size
 room:Room W b off (cap*2)
 ats:∀ j (h:j<l.length),W.cell? ⟨b,off+j*2,none⟩=some (.int .i64 l[j].1)
 old:∀ j (h:j<l.length),k≤j→Rep W (fun x=>x=b) (.sl (.int .i64)) .sh l[j].2.1 (.mem b (off+j*2+1)) noB
 new:∃ s:Nat→Nat,b<s 0∧(∀ j,j<k→s j≤s (j+1))∧s k≤W.heap.size∧∀ j (h:j<l.length),j<k→Rep W noB (.sl (.int .i64)) .deep l[j].2.1 (.mem b (off+j*2+1)) (fun x=>s j≤x∧x<s (j+1))
theorem CpI.start {w0 w1:World} {l:Yd7} {A:Option Addr} {c:Nat} {F:Yd} (hb:Below w0.heap.size w0 w1) (h:Rep w1 F (.sl Yfp) .top l (.reg [.slice A l.length c] 0) F) (hf:Yo0 w0 w1 F) (hc:c≠0) :
  ∃ b off,A=some ⟨b,off,none⟩∧l.length≤c∧CpI w0 w1 l b off c 0:=by
 obtain⟨A',c',k1,k2,k3⟩:=h;have k1':some (Value.slice A l.length c)=some (.slice A' l.length c'):=k1;simp only[jD,Value.slice.injEq] at k1';obtain⟨rfl,-,rfl⟩:=k1';obtain⟨b,off,Fs,rfl,hF,hroom,he,-⟩:=k3 hc;refine⟨b,off,rfl,k2,hb,(hf b hF).1,(hf b hF).2,hroom,fun j hj=>?_,fun j hj _=>?_,fun _=>w1.heap.size,(hf b hF).2,fun _ _=>jB _,jB _,fun j hj h=>absurd h (Nat.not_lt_zero _)⟩
 ·obtain⟨G1,G2,r1,-,-⟩:=(he j hj).1
  have hs:Yfp.size=2:=rfl;simp only[Rep,Src.cell,hs] at r1;simpa using r1
 ·obtain⟨G1,G2,-,⟨G3,G4,r2,-⟩,-,-,-⟩:=(he j hj).1
  obtain⟨A',c',t1,t2,t3⟩:=r2;have hs:Yfp.size=2:=rfl;have hs1:(Ty.int .i64).size=1:=rfl;refine⟨A',c',?_,t2,fun hne=>?_⟩
  ·simp only[Src.cell,Src.sh,hs,hs1] at t1;simpa [Src.cell] using t1
  ·obtain⟨b',off',q1,q2,q3,q4⟩:=t3 hne
   exact⟨b',off',q1,fun e=>q2 (e▸hF),q3,fun i hi=>Ya.mono (Lf:=fun _ _=>False) (tv:=.cl .sh (.int .i64) _) (q4 i hi) (fun x e=>by subst e;exact hF)⟩
theorem Yid {w:World} {p:Addr} {v:Value} {b off n:Nat} (h:Room w b off n):Room (w.setCell p v) b off n:=fun i hi=>by
 obtain⟨h1,h2⟩:=h i hi
 refine⟨?_,by rw[World.frozen?_setCell];exact h2⟩
 obtain⟨u,hu⟩:=Option.isSome_iff_exists.1 h1;obtain⟨u',hu'⟩:=cell?_setCell_some (p:=p) (x:=v) hu;rw[hu'];rfl
theorem CpI.step {w0 W W1 W2:World} {l:Yd7} {b off cap k:Nat} (I:CpI w0 W l b off cap k) (hk:k<l.length) (hcap:l.length≤cap) (h1:Below W.heap.size W W1) (h2:Below W1.heap.size W1 W2) {A:Option Addr} {c:Nat} {F:Yd}
  (hr:Rep W2 F (.sl (.int .i64)) .deep l[k].2.1 (.reg [.slice A l[k].2.1.length c] 0) F) (hf:Yo0 W1 W2 F) :
  CpI w0 (W2.setCell ⟨b,off+k*2+1,none⟩ (.slice A l[k].2.1.length c)) l b off cap (k+1):=by
 have hB:Below W.heap.size W W2:=h1.trans (h2.mono h1.size)
 have hsz:(W2.setCell ⟨b,off+k*2+1,none⟩ (.slice A l[k].2.1.length c)).heap.size=W2.heap.size:=by simp[World.setCell]
 have hoth:∀ x,x≠b→x<W.heap.size→Same W (W2.setCell ⟨b,off+k*2+1,none⟩ (.slice A l[k].2.1.length c)) x:=fun x hx hlt=>(Below.heap_setCell _ _ _ _ hx).trans (hB.block x hlt)
 have hcell:∀ i,i≠off+k*2+1→(W2.setCell ⟨b,off+k*2+1,none⟩ (.slice A l[k].2.1.length c)).cell? ⟨b,i,none⟩=W.cell? ⟨b,i,none⟩:=fun i hi=>by
  rw[World.cell?_setCell_other (h:=fun e=>hi (by cases e;rfl))]
  exact hB.cell (p:=⟨b,i,none⟩) I.b2
 obtain⟨s,s0,s1,s2,s3⟩:=I.new
 refine⟨I.bel.trans ((hB.mono I.bel.size).setCell (p:=⟨b,_,none⟩) I.b1 _),I.b1,by rw[hsz];have:=hB.size;have:=I.b2;omega,Yid (fun i hi=>?_),fun j hj=>?_,fun j hj hkj=>?_,?_⟩
 ·rw[hB.cell (p:=⟨b,_,none⟩) I.b2,hB.frozen (p:=⟨b,_,none⟩) I.b2];exact I.room i hi
 ·rw[hcell _ (by omega)];exact I.ats j hj
 ·refine(I.old j hj (by omega)).go ⟨by rw[hsz];exact hB.size,fun _ h=>h.elim,fun x hx hlt=>⟨hoth x hx hlt,hx⟩⟩ (fun i hi=>?_)
  have:i=0:=by simp[Ty.size] at hi;omega
  subst this
  exact hcell _ (by omega)
 ·have sk:∀ j,j≤k→s j≤s k:=fun j hj=>by
   have:∀ d,j+d≤k→s j≤s (j+d):=fun d=>by
    induction d with
    |zero=>intro _;exact jB _
    |succ d ih=>intro h;exact jU (ih (by omega)) (s1 (j+d) (by omega))
   have:=this (k-j) (by omega)
   rwa [show j+(k-j)=k by omega] at this
  refine⟨fun j=>if j≤k then s j else W2.heap.size,by simpa using s0,fun j hj=>?_,by show(if k+1≤k then _ else _)≤_;rw[jM (by omega),hsz];exact jB _,fun j hj hjk=>?_⟩
  ·show(if j≤k then s j else W2.heap.size)≤(if j+1≤k then s (j+1) else W2.heap.size)
   rw[jL (by omega)]
   by_cases e:j+1≤k
   ·rw[jL e];exact s1 j (by omega)
   ·rw[jM e];have:=sk j (by omega);have:=hB.size;omega
  ·by_cases e:j=k
   ·subst e
    simp only[jB,if_true,Nat.not_succ_le_self,if_false];obtain⟨A',c',k1,k2,k3⟩:=hr;have k1':some (Value.slice A l[j].2.1.length c)=some (.slice A' l[j].2.1.length c'):=k1;simp only[jD,Value.slice.injEq] at k1';obtain⟨rfl,-,rfl⟩:=k1';refine⟨A,c,?_,k2,fun hc=>?_⟩
    ·show World.cell? _ _=_
     simp only[kF];refine World.cell?_setCell_same' _ _ _ ?_;rw[hB.cell (p:=⟨b,_,none⟩) I.b2]
     exact(I.room (j*2+1) (by omega)).1
    ·obtain⟨b',off',Fs,q1,q2,q3,q4,q5⟩:=k3 hc
     have hb':=hf b' q2;have hlt:=I.b2;have hW1:=h1.size
     have hne:b'≠b:=by omega
     refine⟨b',off',fun _=>noB,q1,⟨by omega,hb'.2⟩,Yid q3,fun i hi=>⟨?_,fun _ h=>h.elim,fun h=>h⟩,fun _ _ _ _ _ h=>h.elim⟩
     have hi':=(q4 i hi).1;show World.cell? _ _=_;rw[World.cell?_setCell_other (h:=fun e=>hne (congrArg Addr.block e).symm)];exact hi'
   ·have hj2:j<k:=by omega
    simp only[show j≤k by omega,show j+1≤k by omega,if_true]
    have hsj:=sk (j+1) (by omega)
    have hb0:b<s j:=jX s0 (by
     have:∀ d,d≤j→s 0≤s d:=fun d=>by
      induction d with
      |zero=>intro _;exact jB _
      |succ d ih=>intro h;exact jU (ih (by omega)) (s1 d (by omega))
     exact this j (jB _))
    refine(((s3 j hj hj2).Ynj (M':=fun x=>x=b)).go (M':=fun x=>x=b) ⟨by rw[hsz];exact hB.size,fun x hx=>hoth x (by have:=hx.1;omega) (by have:=hx.2;omega),fun x hx hlt=>⟨hoth x hx hlt,hx⟩⟩ (fun i hi=>?_)).Ynj
    ·have:i=0:=by simp[Ty.size] at hi;omega
     subst this
     exact hcell _ (by omega)
theorem CpI.done {w0 W:World} {l:Yd7} {b off cap:Nat} (I:CpI w0 W l b off cap l.length) (hcap:l.length≤cap):Yhb Yfp .deep l w0 (.returned (.slice (some ⟨b,off,none⟩) l.length cap)) W:=by
 obtain⟨s,s0,s1,s2,s3⟩:=I.new
 have mono:∀ j d,j+d≤l.length→s j≤s (j+d):=fun j d=>by
  induction d with
  |zero=>intro _;exact jB _
  |succ d ih=>intro h;exact jU (ih (by omega)) (s1 (j+d) (by omega))
 refine⟨_,_,rfl,I.bel,fun x=>w0.heap.size≤x∧x<W.heap.size,⟨_,_,rfl,hcap,fun hc=>⟨b,off,fun j=>fun x=>s j≤x∧x<s (j+1)∧j<l.length,rfl,⟨I.b1,I.b2⟩,I.room,fun j hj=>⟨?_,?_,?_⟩,fun i j hij hj x hx hx'=>?_⟩⟩,fun x h=>h⟩
 ·have hs:Yfp.size=2:=rfl
  refine⟨noB,fun x=>s j≤x∧x<s (j+1)∧j<l.length,?_,⟨fun x=>s j≤x∧x<s (j+1)∧j<l.length,noB,?_,trivial,fun _ h=>h,fun _ h=>h.elim,fun _ _ h=>h⟩,fun _ h=>h.elim,fun _ h=>h,fun _ h=>h.elim⟩
  ·show World.cell? _ _=_
   simp only[hs,kF];exact I.ats j hj
  ·have h:=((s3 j hj hj).sub (G:=fun x=>s j≤x∧x<s (j+1)∧j<l.length) (fun x h=>⟨h.1,h.2,hj⟩)).Ynj (M':=fun x=>w0.heap.size≤x∧x<W.heap.size)
   have e1:Ow.deep.elem=Ow.deep:=rfl;rw[e1]
   simpa [Src.sh,hs,Ty.size] using h
 ·rintro x ⟨h1,h2,h3⟩
  have:=mono 0 j (by omega)
  have:=mono (j+1) (l.length-(j+1)) (by omega)
  rw[show j+1+(l.length-(j+1))=l.length by omega] at this
  have:=I.b1;rw[jJ] at *
  exact⟨by omega,by omega⟩
 ·rintro⟨h1,-,-⟩
  have:=mono 0 j (by omega)
  rw[jJ] at this;omega
 ·have:=mono (i+1) (j-(i+1)) (by omega)
  rw[show i+1+(j-(i+1))=j by omega] at this
  have:=hx.2.1;have:=hx'.1;omega
theorem CpI.place {w0 W:World} {l:Yd7} {b off cap k:Nat} (I:CpI w0 W l b off cap k) (hk:k<l.length) (hcap:l.length≤cap) {W2:World} (h:Below W.heap.size W W2) :
  W2.cell? ⟨b,off+k*2+1,none⟩=W.cell? ⟨b,off+k*2+1,none⟩∧W2.frozen? ⟨b,off+k*2+1,none⟩=false:=
 ⟨h.cell (p:=⟨b,_,none⟩) I.b2,(h.frozen (p:=⟨b,_,none⟩) I.b2).trans (I.room (k*2+1) (by omega)).2⟩
theorem Yhb.none {l:Yd7} {w W:World} {A:Option Addr} (hb:Below w.heap.size w W) {o:Ow} {G:Yd} (h:Rep W G (.sl Yfp) o l (.reg [.slice A l.length 0] 0) G):l.length=0∧Yhb Yfp .deep l w (.returned (.slice A l.length 0)) W:=by
 obtain⟨A',c',k1,k2,k3⟩:=h;have k1':some (Value.slice A l.length 0)=some (.slice A' l.length c'):=k1;simp only[jD,Value.slice.injEq] at k1';obtain⟨rfl,-,rfl⟩:=k1';exact⟨Nat.le_zero.1 k2,A,0,rfl,hb,noB,⟨A,0,rfl,k2,fun h=>absurd rfl h⟩,fun _ h=>h.elim⟩
end
section
open Go.RowKit
end
section
open Go.RowKit
abbrev Hdr:=Option Addr×Nat×Nat
def hvl (h:Hdr):Value:=.slice h.1 h.2.1 h.2.2
structure Yr1 (w:World) (l:Yd7) (b off:Nat) (hs:Nat→Hdr) (Fs:Nat→Yd) (F:Yd):Prop where
 at1:∀ j (h:j<l.length),w.cell? ⟨b,off+j*2,none⟩=some (.int .i64 l[j].1)
 hd:∀ j (h:j<l.length),w.cell? ⟨b,off+j*2+1,none⟩=some (hvl (hs j))
 rep:∀ j (h:j<l.length),Rep w noB (.sl (.int .i64)) .deep l[j].2.1 (.reg [hvl (hs j)] 0) (Fs j)∧Ye (Fs j) F
 dis:∀ i j,i<j→j<l.length→Dis (Fs i) (Fs j)
 blk:F b
theorem Rep.src {w:World} {l:Yd7} {A:Option Addr} {c:Nat} {F M:Yd} (h:Rep w M (.sl Yfp) .deep l (.reg [.slice A l.length c] 0) F) (hl:0<l.length) :
  ∃ b off hs Fs,A=some ⟨b,off,none⟩∧Yr1 w l b off hs Fs F:=by
 obtain⟨A',c',k1,k2,k3⟩:=h;have k1':some (Value.slice A l.length c)=some (.slice A' l.length c'):=k1;simp only[jD,Value.slice.injEq] at k1';obtain⟨rfl,-,rfl⟩:=k1'
 obtain⟨b,off,Fs,rfl,hF,hroom,he,hd⟩:=k3 (by omega)
 have hput:∀ j,∃ h:Hdr,∀ (hj:j<l.length),w.cell? ⟨b,off+j*2,none⟩=some (.int .i64 l[j].1)∧w.cell? ⟨b,off+j*2+1,none⟩=some (hvl h)∧Rep w noB (.sl (.int .i64)) .deep l[j].2.1 (.reg [hvl h] 0) (Fs j):=by
  intro j
  by_cases hj:j<l.length
  ·obtain⟨G1,G2,r1,⟨G3,G4,r2,-,s3,-,-⟩,s1,s2,-⟩:=(he j hj).1
   have hs:Yfp.size=2:=rfl;have hs1:(Ty.int .i64).size=1:=rfl;have r2:=(Rep.Ynj (M':=noB) r2).sub (G:=Fs j) (fun x hx=>s2 x (s3 x hx));obtain⟨A',c',t1,t2,t3⟩:=r2;refine⟨(A',l[j].2.1.length,c'),fun _=>⟨?_,?_,A',c',rfl,t2,t3⟩⟩
   ·simp only[Rep,Src.cell,hs] at r1;simpa using r1
   ·simp only[Src.cell,Src.sh,hs,hs1] at t1;simpa [hvl] using t1
  ·exact⟨(none,0,0),fun h=>absurd h hj⟩
 obtain⟨hs,hhs⟩:=Classical.axiomOfChoice hput;exact⟨b,off,hs,Fs,rfl,⟨fun j hj=>(hhs j hj).1,fun j hj=>(hhs j hj).2.1,fun j hj=>⟨(hhs j hj).2.2,(he j hj).2.1⟩,hd,hF⟩⟩
def cellsOf (l:Yd7) (hs:Nat→Hdr):Nat→List Value
 |0=>[]
 |k+1=>cellsOf l hs k++[.bool false,.int .i64 (l.getD k (0,[],())).1,hvl (hs k)]
end
section
open Go.RowKit
structure OnlyC (w W:World) (S:Nat→Nat→Prop):Prop where
 os:W.os=w.os
 tape:W.tape=w.tape
 output:W.output=w.output
 size:w.heap.size≤W.heap.size
 blk:∀ b,b<w.heap.size→(∀ i,¬ S b i)→W.heap[b]? = w.heap[b]?
 cell:∀ b i,b<w.heap.size→¬ S b i→W.cell? ⟨b,i,none⟩=w.cell? ⟨b,i,none⟩
 frz:∀ b i,b<w.heap.size→W.frozen? ⟨b,i,none⟩=w.frozen? ⟨b,i,none⟩
theorem OnlyC.refl (w:World) (S:Nat→Nat→Prop):OnlyC w w S:=⟨rfl,rfl,rfl,jB _,fun _ _ _=>rfl,fun _ _ _ _=>rfl,fun _ _ _=>rfl⟩
theorem OnlyC.alloc {w W:World} {S:Nat→Nat→Prop} (h:OnlyC w W S) (o:Obj):OnlyC w (W.alloc o) S:=by
 have hb:Below W.heap.size W (W.alloc o):=(Below.refl _ W).alloc (jB _) o;have hs:=h.size
 exact⟨hb.os.trans h.os,hb.tape.trans h.tape,hb.output.trans h.output,jU h.size hb.size,fun b hb' hS=>(hb.block b (by omega)).trans (h.blk b hb' hS),
  fun b i hb' hS=>(hb.cell (p:=⟨b,i,none⟩) (by show b<_;omega)).trans (h.cell b i hb' hS),fun b i hb'=>(hb.frozen (p:=⟨b,i,none⟩) (by show b<_;omega)).trans (h.frz b i hb')⟩
theorem OnlyC.drew {w W:World} {S:Nat→Nat→Prop} (h:OnlyC w W S):OnlyC w W.drew S:=⟨h.os,h.tape,h.output,h.size,h.blk,h.cell,h.frz⟩
theorem OnlyC.set {w W:World} {S:Nat→Nat→Prop} (h:OnlyC w W S) {b i:Nat} (v:Value) (hS:S b i):OnlyC w (W.setCell ⟨b,i,none⟩ v) S:=by
 refine⟨h.os,h.tape,h.output,by simpa [World.setCell] using h.size,fun x hx hn=>?_,fun x j hx hn=>?_,fun x j hx=>?_⟩
 ·rw[Below.heap_setCell _ _ _ _ (fun e=>hn i (by subst e;exact hS))];exact h.blk x hx hn
 ·rw[World.cell?_setCell_other (h:=fun e=>hn (by cases e;exact hS))];exact h.cell x j hx hn
 ·rw[World.frozen?_setCell];exact h.frz x j hx
theorem OnlyC.mono {w W:World} {S S':Nat→Nat→Prop} (h:OnlyC w W S) (hs:∀ b i,S b i→S' b i):OnlyC w W S':=
 ⟨h.os,h.tape,h.output,h.size,fun b hb hn=>h.blk b hb (fun i x=>hn i (hs _ _ x)),fun b i hb hn=>h.cell b i hb (fun x=>hn (hs _ _ x)),h.frz⟩
def Ysq (bB oB nB:Nat) (b i:Nat):Prop:=b=bB∧oB≤i∧i<oB+nB
structure FI (w W:World) (bB oB nB:Nat) (src:Nat→Hdr):Prop where
 only:OnlyC w W (Ysq bB oB nB)
 at1:∀ j,j<nB→W.cell? ⟨bB,oB+j,none⟩=some (hvl (src j))
theorem FI.alloc {w W:World} {bB oB nB:Nat} {src:Nat→Hdr} (h:FI w W bB oB nB src) (hb:0<nB→bB<w.heap.size) (o:Obj):FI w (W.alloc o) bB oB nB src:=
 ⟨h.only.alloc o,fun j hj=>(((Below.refl _ W).alloc (jB _) o).cell (p:=⟨bB,_,none⟩) (jX (hb (by omega)) h.only.size)).trans (h.at1 j hj)⟩
theorem FI.drew {w W:World} {bB oB nB:Nat} {src:Nat→Hdr} (h:FI w W bB oB nB src):FI w W.drew bB oB nB src:=⟨h.only.drew,h.at1⟩
theorem FI.set {w W:World} {bB oB nB:Nat} {src:Nat→Hdr} (h:FI w W bB oB nB src) {a:Nat} (ha:a<nB) (x:Hdr):FI w (W.setCell ⟨bB,oB+a,none⟩ (hvl x)) bB oB nB (fun j=>if j=a then x else src j):=by
 refine⟨h.only.set _ ⟨rfl,by omega,by omega⟩,fun j hj=>?_⟩
 by_cases e:j=a
 ·subst e
  rw[jL rfl]
  exact World.cell?_setCell_same' _ _ _ (by rw[h.at1 j hj];rfl)
 ·rw[jM e,World.cell?_setCell_other (h:=fun e'=>e (by have:=congrArg Addr.off e';simp at this;omega))]
  exact h.at1 j hj
end
section
open Go.RowKit
structure Ytd (w:World) (bs:List (List Int)) (ps:Yd7) (bd od:Nat) (F:Yd) (A C:Option Addr) (bB oB bC oC cB cC:Nat) (hb hc:Nat→Hdr) (FB FC:Nat→Yd):Prop where
 a1:w.cell? ⟨bd,od,none⟩=some (.slice A bs.length cB)
 a2:w.cell? ⟨bd,od+1,none⟩=some (.slice C ps.length cC)
 a3:bs.length≤cB
 A0:cB≠0→A=some ⟨bB,oB,none⟩∧F bB∧Room w bB oB cB
 C0:0<ps.length→C=some ⟨bC,oC,none⟩∧F bC∧(cB≠0→bC≠bB)
 eB:∀ j (h:j<bs.length),w.cell? ⟨bB,oB+j,none⟩=some (hvl (hb j))∧Rep w noB (.sl (.int .i64)) .deep bs[j] (.reg [hvl (hb j)] 0) (FB j)∧Ye (FB j) F∧¬ FB j bB
 eC:∀ j (h:j<ps.length),w.cell? ⟨bC,oC+j*2,none⟩=some (.int .i64 ps[j].1)∧w.cell? ⟨bC,oC+j*2+1,none⟩=some (hvl (hc j))∧Rep w noB (.sl (.int .i64)) .deep ps[j].2.1 (.reg [hvl (hc j)] 0) (FC j)∧Ye (FC j) F∧(cB≠0→¬ FC j bB)
 dB:∀ i j,i<j→j<bs.length→Dis (FB i) (FB j)
 dC:∀ i j,i<j→j<ps.length→Dis (FC i) (FC j)
 dX:∀ i j,i<bs.length→j<ps.length→Dis (FB i) (FC j)
end
section
open Go.RowKit
end
section
open Go.RowKit
end
section
open Go.RowKit
def Yev (w:World) (e:Ty) (xs:List e.El) (cs:List Value) (F:Yd):Prop:=
 cs.length=xs.length*e.size∧∃ Fs:Nat→Yd,(∀ i (h:i<xs.length),Rep w noB e .deep xs[i] (.reg cs (i*e.size)) (Fs i)∧Ye (Fs i) F)∧∀ i j,i<j→j<xs.length→Dis (Fs i) (Fs j)
theorem Yev.nil {w:World} {e:Ty} {F:Yd}:Yev w e [] [] F:=⟨by simp,fun _=>noB,fun i h=>absurd h (Nat.not_lt_zero _),fun i j _ h=>absurd h (Nat.not_lt_zero _)⟩
theorem mul_lt {i n k r:Nat} (hi:i<n) (hr:r<k):i*k+r<n*k:=by
 have h:(i+1)*k≤n*k:=jR _ hi;rw[jY] at h;omega
theorem Yev.sub {w:World} {e:Ty} {xs:List e.El} {cs:List Value} {F G:Yd} (h:Yev w e xs cs F) (hs:Ye F G):Yev w e xs cs G:=by
 obtain⟨h1,Fs,h2,h3⟩:=h;exact⟨h1,Fs,fun i hi=>⟨(h2 i hi).1,fun b hb=>hs b ((h2 i hi).2 b hb)⟩,h3⟩
theorem Yev.row {w0 w W:World} {e:Ty} {xs:List e.El} {cs:List Value} {F:Yd} {E:TypeId} {v:Value} (h:Yev w e xs cs F) (hF:∀ b,F b→b<w.heap.size) (hb:Below w.heap.size w W) (h0:w0.heap.size≤w.heap.size)
  (ho:W.ownsRow w.heap.size E e.size v xs.length cs):∃ A c,v=.slice A xs.length c∧Rep W noB (.sl e) .deep xs (.reg [.slice A xs.length c] 0) (fun b=>F b∨(w.heap.size≤b∧b<W.heap.size)):=by
 obtain⟨h1,Fs,h2,h3⟩:=h;obtain⟨-,hv⟩:=ho;rcases hv with ⟨rfl,hn⟩ | ⟨g,cap,cur,rfl,hg,hh,hcap,-,hsz,htake⟩
 ·have hl:xs=[]:=kL hn
  subst hl;exact⟨none,0,rfl,none,0,rfl,jB _,fun h=>absurd rfl h⟩
 ·have hgl:g<W.heap.size:=(Array.getElem?_eq_some_iff.1 hh).1
  have hcell:∀ i,W.cell? ⟨g,i,none⟩=cur[i]?:=fun i=>by unfold World.cell?;rw[hh];rfl
  have hbs:=hb.size
  have hget:∀ i u,cs[i]? = some u→W.cell? ⟨g,i,none⟩=some u:=fun i u hu=>by
   rw[hcell];rw[←htake,List.getElem?_take] at hu
   split at hu
   ·rw[←Array.getElem?_toList];exact hu
   ·cases hu
  refine⟨_,_,rfl,some ⟨g,0,none⟩,cap,rfl,hcap,fun hc=>⟨g,0,fun j x=>Fs j x∧j<xs.length,rfl,.inr ⟨hg,hgl⟩,fun i hi=>⟨?_,?_⟩,fun i hi=>⟨?_,fun x hx=>.inl ((h2 i hi).2 x hx.1),fun hx=>?_⟩,fun i j hij hj x hx hx'=>h3 i j hij hj x hx.1 hx'.1⟩⟩
  ·rw[hcell,jJ,Array.getElem?_eq_getElem (by omega)];rfl
  ·unfold World.frozen?;rw[hh];simp
  ·have hd:Ow.deep.elem=Ow.deep:=rfl
   rw[hd];have q:=(((h2 i hi).1.go (w':=W) (M':=noB) ⟨hbs,fun x hx=>hb.block x (hF x ((h2 i hi).2 x hx)),fun x hx hlt=>⟨hb.block x hlt,fun h=>h⟩⟩ (fun r hr=>rfl)).mv (s':=.mem g (0+i*e.size)) fun r hr=>?_).sub (G:=fun x=>Fs i x∧i<xs.length) (fun x hx=>⟨hx,hi⟩)
   ·exact q
   ·simp only[Src.cell,jJ]
    have hlt:=mul_lt hi hr;rw[←h1] at hlt;rw[kV hlt];exact hget _ _ (kV hlt)
  ·have:=hF g ((h2 i hi).2 g hx.1);omega
theorem Yev.one {w:World} {e:Ty} {xs:List e.El} {cs:List Value} {F:Yd} (h:Yev w e xs cs F):∀ u∈cs,u.oneCell'=true:=by
 obtain⟨h1,Fs,h2,-⟩:=h;intro u hu;obtain⟨i,hi,rfl⟩:=List.getElem_of_mem hu;rw[h1] at hi
 have hpos:0<e.size:=by
  rcases kN e.size with h0 | h0
  ·rw[h0] at hi;omega
  ·exact h0
 have hq:i / e.size<xs.length:=Nat.div_lt_of_lt_mul (by rw[Nat.mul_comm];exact hi)
 have hr:i % e.size<e.size:=Nat.mod_lt _ hpos;obtain⟨v,hv,h1'⟩:=(h2 _ hq).1.cells _ hr;simp only[Src.cell] at hv
 have he:i / e.size*e.size+i % e.size=i:=by rw[Nat.mul_comm];exact Nat.div_add_mod i e.size
 rw[he] at hv
 rw[kV (by rw[h1];exact hi)] at hv
 cases hv;exact h1'
end
section
open Go.RowKit
theorem Ymk {f:FuncId} (hthere:Yew P f) {a b:Ty} {x:a.El} {y:b.El} {n:Int}
  (h:∀ (u v:Value) (w:World) (M:Yd) (L:Nat→Src) (ρ:Yc),Yb w M L ρ (.cl .sh a x) u→Yb w M L ρ (.cl .sh b y) v→Calls P f #[u,v] w fun e w'=>e=.returned (.int .i64 n)∧w'=w)
  (ha:lk 0 (Yj [.cl .sh a x,.cl .sh b y]).tm=some (.cl .sh a x)) (hb:lk 1 (Yj [.cl .sh a x,.cl .sh b y]).tm=some (.cl .sh b y)):Ydh P f [.sh,.sh] [.cl .sh a x,.cl .sh b y] ⟨[.cl .sh (.int .i64) n],[]⟩ where
 there:=hthere
 calls:=by
  intro Z C us hl hnt hP1 hP2 I;have hus:us.size=2:=hl;have h0:Yb _ _ _ _ (.cl .sh a x) ((⟨us,[]⟩:Act).tmps.getD 0 undef):=I.tm 0 (.cl .sh a x) ha;have h1:Yb _ _ _ _ (.cl .sh b y) ((⟨us,[]⟩:Act).tmps.getD 1 undef):=I.tm 1 (.cl .sh b y) hb
  have hus2:us=#[us.getD 0 undef,us.getD 1 undef]:=by
   apply Array.ext (by simp[hus])
   intro i h4 h5
   have:i=0∨i=1:=by omega
   rcases this with rfl | rfl<;>simp[Array.getD,hus]
  rw[hus2];refine(h _ _ Z.w _ _ _ h0 h1).mono fun e w' ⟨he,hw⟩=>?_;subst he;subst hw;refine⟨_,rfl,C,noB,fun _=>none,noB,Yov (Below.refl _ _) I.str.xb I.str.kb,trivial,fun _ h=>h,?_,rfl,rfl⟩;exact Yb.Ybk _ _ _
theorem Ylb {f:FuncId} (hthere:Yew P f) {a b:Ty} {F:a.El→b.El→Option Int}
  (h:∀ x y n,F x y=some n→∀ (u v:Value) (w:World) (M:Yd) (L:Nat→Src) (ρ:Yc),Yb w M L ρ (.cl .sh a x) u→Yb w M L ρ (.cl .sh b y) v→Calls P f #[u,v] w fun e w'=>e=.returned (.int .i64 n)∧w'=w)
  (ha:∀ (x:a.El) (y:b.El),lk 0 (Yj [.cl .sh a x,.cl .sh b y]).tm=some (.cl .sh a x)) (hb:∀ (x:a.El) (y:b.El),lk 1 (Yj [.cl .sh a x,.cl .sh b y]).tm=some (.cl .sh b y)) :
  Yee P f (Yh4 [.sh,.sh] [.cl .sh a,.cl .sh b] (fun x=>F x.1 x.2.1) fun n=>⟨[.cl .sh (.int .i64) n],[]⟩):=by
 intro cs R k r he;simp only[Yh4] at he
 split at he
 ·rename_i x hx
  have e:=PT.Yg8 hx;subst e
  cases hf:F x.1 x.2.1 with
  |none=>rw[hf] at he;cases he
  |some n=>rw[hf] at he;exact⟨_,he,Ymk hthere (h _ _ _ hf) (ha _ _) (hb _ _)⟩
 ·cases he
def Yhz (s:List UInt8) (c:Int):Option Int:=some (Go.Lib.indexByte s c.toNat.toUInt8)
def countP (s sub:List UInt8):Option Int:=match sub with | [c]=>some (s.count c:Nat) | _=>none
theorem Yqx {f:FuncId} (hthere:Yew P f)
  (h:∀ (s:ByteArray) (c:Int) (w:World),Calls P f #[.string s,.int .u8 c] w fun e w'=>e=.returned (.int .i64 (Go.Lib.indexByte s.data.toList c.toNat.toUInt8))∧w'=w) :
  Yee P f (Yh4 [.sh,.sh] [.cl .sh .str,.cl .sh (.int .u8)] (fun x=>Yhz x.1 x.2.1) fun n=>⟨[.cl .sh (.int .i64) n],[]⟩):=
 Ylb (a:=.str) (b:=.int .u8) hthere (ha:=fun _ _=>rfl) (hb:=fun _ _=>rfl) fun x y n hf u v w M L ρ h0 h1=>by
  obtain⟨z,rfl,rfl⟩:=h0.str;have e:=h1.int;subst e;simp only[Yhz] at hf;cases hf;exact h z y w
theorem Ysv {f:FuncId} (hthere:Yew P f)
  (h:∀ (s:ByteArray) (c:UInt8) (w:World),Calls P f #[.string s,.string ⟨#[c]⟩] w fun e w'=>e=.returned (.int .i64 (s.data.toList.count c:Nat))∧w'=w) :
  Yee P f (Yh4 [.sh,.sh] [.cl .sh .str,.cl .sh .str] (fun x=>countP x.1 x.2.1) fun n=>⟨[.cl .sh (.int .i64) n],[]⟩):=
 Ylb (a:=.str) (b:=.str) hthere (ha:=fun _ _=>rfl) (hb:=fun _ _=>rfl) fun x y n hf u v w M L ρ h0 h1=>by
  obtain⟨z,rfl,rfl⟩:=h0.str;obtain⟨z2,rfl,h2⟩:=h1.str
  have key:∀ l:List UInt8,z2.data.toList=l→countP z.data.toList l=some n→Calls P f #[.string z,.string z2] w fun e w'=>e=.returned (.int .i64 n)∧w'=w:=fun l h2 hf=>by
   match l with
   |[c]=>
    have:z2=⟨#[c]⟩:=by
     have h3:z2.data=#[c]:=Array.toList_inj.1 h2;cases z2;simp only at h3;rw[h3]
    subst this;simp only[countP,jD] at hf;subst hf
    exact h z c w
   |[]=>cases hf
   |_::_::_=>cases hf
  exact key y h2 hf
end
section
open Go.RowKit
def Out.frz:Out→Out
 |⟨[.cl _ t x],os⟩=>⟨[.cl .sh t x],os⟩
 |⟨[.cl _ t x,.cl _ u y],os⟩=>⟨[.cl .sh t x,.cl .sh u y],os⟩
 |o=>o
def FS.frz (fs:FS):FS:=⟨fs.modes,fun cs R k=>fs.F cs R fun out=>k out.frz⟩
theorem Ydh.frz {f:FuncId} {ms:List Md} {cs:List TV} {o:Ow} {t:Ty} {x:t.El} {os:List TV} (h:Ydh P f ms cs ⟨[.cl o t x],os⟩):Ydh P f ms cs ⟨[.cl .sh t x],os⟩ where
 there:=h.there
 calls:=by
  intro Z C us h1 h2 h3 h4 I;refine(h.calls Z C us h1 h2 h3 h4 I).mono ?_;rintro e w' ⟨v,rfl,C',G,ρ,Fr,hs,ho,hF,hr,hs1,hs2⟩;obtain⟨r1,r2,r3⟩:Ya w' (Mt Z C' ρ G) (Yh w' (Mt Z C' ρ G) C'.L ρ) (.cl o t x) (.reg v.cells.toList 0) Fr∧v.cells.size=(TV.cl o t x).size∧((TV.cl o t x).isAgg=true↔∃ cs,v=.agg cs):=hr;obtain⟨w1,hm⟩:=hs.weak (ρ':=ρ) (G':=noB) (fun _ _ h=>h) (fun _ h=>h.elim);have gs:=hs.Ybx (ρ':=ρ) (G':=noB) hm Dd.none (fun _ _ _ h _=>h) (fun _ _ _ h _=>h);refine⟨v,rfl,C',noB,ρ,noB,w1.lf (fun v u hl=>Yh.go gs (Y2.Ynt v) hl),ho,fun _ h=>h,⟨?_,r2,r3⟩,rfl,hs2⟩;show Rep w' (Mt Z C' ρ noB) t .sh x _ noB;refine Rep.share (r1:Rep w' _ t o x _ Fr) hm (fun b hb=>⟨?_,(hs.gbnd b (hF b hb)).1⟩);rintro(⟨r,R,hR,hT⟩ | hh | hh)
  ·exact hs.gdis r R hR b hT (hF b hb)
  ·exact hh
  ·exact(hs.gbnd b (hF b hb)).2.2.1 hh
theorem Ydh.Ytk {f:FuncId} {ms:List Md} {cs:List TV} {o p:Ow} {t u:Ty} {x:t.El} {y:u.El} {os:List TV} (h:Ydh P f ms cs ⟨[.cl o t x,.cl p u y],os⟩):Ydh P f ms cs ⟨[.cl .sh t x,.cl .sh u y],os⟩ where
 there:=h.there
 calls:=by
  intro Z C us h1 h2 h3 h4 I;refine(h.calls Z C us h1 h2 h3 h4 I).mono ?_;rintro e w' ⟨v,rfl,C',G,ρ,Fr,hs,ho,hF,hr,hs1,hs2⟩;obtain⟨vs,rfl,hr⟩:=hr;obtain⟨w1,hm⟩:=hs.weak (ρ':=ρ) (G':=noB) (fun _ _ h=>h) (fun _ h=>h.elim);have gs:=hs.Ybx (ρ':=ρ) (G':=noB) hm Dd.none (fun _ _ _ h _=>h) (fun _ _ _ h _=>h)
  have one:∀ {o:Ow} {t:Ty} {x:t.El} {v:Value} {F:Yd},Ye F G→Ygu w' (Mt Z C' ρ G) C'.L ρ (.cl o t x) v F→Ygu w' (Mt Z C' ρ noB) C'.L ρ (.cl .sh t x) v noB:=by
   rintro o t x v F hFG ⟨r1,r2,r3⟩;refine⟨?_,r2,r3⟩;show Rep w' (Mt Z C' ρ noB) t .sh x _ noB;refine Rep.share (r1:Rep w' _ t o x _ F) hm (fun b hb=>⟨?_,(hs.gbnd b (hFG b hb)).1⟩);rintro(⟨r,R,hR,hT⟩ | hh | hh)
   ·exact hs.gdis r R hR b hT (hFG b hb)
   ·exact hh
   ·exact(hs.gbnd b (hFG b hb)).2.2.1 hh
  refine⟨.tuple vs,rfl,C',noB,ρ,noB,w1.lf (fun v u hl=>Yh.go gs (Y2.Ynt v) hl),ho,fun _ h=>h,⟨vs,rfl,?_⟩,rfl,hs2⟩
  match vs.toList,hr with
  |[v1,v2],hr=>
   obtain⟨F1,F2,a1,⟨F3,F4,a2,_,b1,b2,_⟩,c1,c2,_⟩:=hr
   exact⟨noB,noB,one (fun b hb=>hF b (c1 b hb)) a1,⟨noB,noB,one (fun b hb=>hF b (c2 b (b1 b hb))) a2,trivial,fun _ h=>h,fun _ h=>h,fun _ h=>h.elim⟩,fun _ h=>h,fun _ h=>h,fun _ h=>h.elim⟩
  |[],hr=>exact hr.elim
  |[v1],hr=>obtain⟨_,_,_,h,_⟩:=hr;exact h.elim
  |v1::v2::v3::l,hr=>obtain⟨_,_,_,⟨_,_,_,h,_⟩,_⟩:=hr;exact h.elim
theorem Yee.frz {f:FuncId} {fs:FS} (h:Yee P f fs):Yee P f fs.frz:=by
 intro cs R k r he;obtain⟨out,h1,h2⟩:=h cs R (fun out=>k out.frz) r he;refine⟨out.frz,h1,?_⟩;show Ydh P f fs.modes cs out.frz;obtain⟨res,os⟩:=out
 match res,h2 with
 |[.cl o t x],h2=>exact h2.frz
 |[],h2=>exact h2
 |[.pr a b],h2=>exact h2
 |[.loc a b],h2=>exact h2
 |[.seg a b],h2=>exact h2
 |[.sub a b c d],h2=>exact h2
 |[.pt a b],h2=>exact h2
 |[.clo a b],h2=>exact h2
 |[.nl],h2=>exact h2
 |[.dead a],h2=>exact h2
 |[.rw a b c d e],h2=>exact h2
 |[.tup a],h2=>exact h2
 |[.op a],h2=>exact h2
 |[.gd a b c],h2=>exact h2
 |[.kb a],h2=>exact h2
 |[a,b],h2=>
  cases a with
  |cl o t x=>
   cases b with
   |cl p u y=>exact h2.Ytk
   |_=>exact h2
  |_=>exact h2
 |a::b::c::l,h2=>cases a<;>first | exact h2 | (cases b<;>exact h2)
end
end Mf
