import Derived.Test.YtmkdncckdmanlaaGreatDoorMf2
set_option linter.unusedVariables false
set_option linter.unusedSimpArgs false
set_option autoImplicit true
set_option relaxedAutoImplicit true
namespace Mf
open Go
variable {C C1:Cx} {D:Dd} {K':Yp} {S T:St} {Z:W0} {g:Gd} {hn:Hint} {np nt:Nat} {o:Oper} {ops:Array Oper} {tb:Tb} {w w':World}
section
variable {a:Act}
variable {P:Program}
def Bk.roots (B:Bk) (S:St):Yc:=fun r=>match lk r B.1 with | some x=>x | none=>S.root r
def Q0 (Z:W0) (S:St) (w':World) (B:Bk) (G:Yd) (C1:Cx):TV→Value→Prop:=fun v u=>v.shut=true∧Yi w' (Mt Z C1 (B.roots S) G) C1.L (B.roots S) v u
structure Yig (Z:W0) (S:St) (C:Cx) (w w':World) (B:Bk) (G:Yd) (C1:Cx) (D:Dd):Prop where
 str:Str Z (fun v u=>Yi w (Mt Z C S.root noB) C.L S.root v u∨Q0 Z S w' B G C1 v u) C1 G (B.roots S) w'
 gs:Gs w w' (Mt Z C S.root noB) (Mt Z C1 (B.roots S) G) S.root (B.roots S) C.L C1.L D
 cl:∀ r q,D.l r q→(ddK B.2).l r q
 cs:∀ r q,D.s r q→(ddK B.2).s r q
variable {B:Bk} {G:Yd}
theorem Yig.plain (I:Inv Z S C a w) (T:Yig Z S C w w' B G C1 D) (hp:p=⟨match dst,tv with | some d,some tv=>[(d,tv)] | _,_=>[],B.1,B.2⟩) (hgd:Yu S dst)
  (hd:∀ d,dst=some d→d<Z.nt∧∃ x,tv=some x)
  (hv:∀ x,tv=some x→∀ M',Ye M' (Mt Z C1 (B.roots S) G)→Yfv w' M' C1.L (B.roots S) (a.put dst v) x v) :
  ∃ C',Inv Z (S.ap p) C' (a.put dst v) w':=by
 have hρ:p.roots S=B.roots S:=by rw[hp];rfl
 obtain⟨W,m⟩:=T.str.weak (ρ':=B.roots S) (G':=noB) (fun _ _ h=>h) (fun _ h=>h.elim);have Wg:=T.str.Yci m Dd.none (fun _ _ _ h _=>h) (fun _ _ _ h _=>h)
 refine⟨C1,Inv.ap (Q:=Q0 Z S w' B G C1) (dst:=dst) I (by rw[hρ];exact W) (by rw[hρ];exact T.gs.trans Wg) ?_ ?_ ?_ hgd ?_ ?_⟩
 ·rintro x u ⟨h1,h2⟩;rw[hρ];exact Yi.shut m h1 h2
 ·rintro r q R hR (h | h)
  ·rw[hp];exact T.cl r q h
  ·exact h.elim
 ·rintro r q R hR (h | h)
  ·rw[hp];exact T.cs r q h
  ·exact h.elim
 ·intro d e
  obtain⟨h1,x,h2⟩:=hd d e
  exact⟨h1,x,by rw[hp,e,h2];exact Yl _ _ _⟩
 ·intro i x hl
  rw[hp] at hl
  cases hdst:dst with
  |none=>rw[hdst] at hl;cases hl
  |some d=>
   rw[hdst] at hl
   cases htv:tv with
   |none=>rw[htv] at hl;cases hl
   |some y=>
    rw[htv] at hl
    by_cases e:i=d
    ·subst e
     have:y=x:=by have:=Yl i y ([]:List (Nat×TV));rw[this] at hl;exact jN hl
     subst this;refine⟨rfl,?_⟩;rw[hρ,←hdst];exact hv y htv _ m
    ·have:lk i [(d,y)]=none:=by rw[Yv e];rfl
     rw[this] at hl;cases hl
theorem Yig.new (I:Inv Z S C a w) (T:Yig Z S C w w' B G C1 D) {np d:Nat} {tv:TV} {rt:Root} {v:Value} {p:Patch} {s:Src} {Fn:Yd} {ks:Ks}
  (hp:p=⟨[(d,tv)],(d,some rt)::B.1,ks⟩) (hk1:∀ k∈B.2,k∈ks) (hk2:∀ R,S.root d=some R→(d,none)∈ks) (hle:np≤d) (hnp:∀ i,np≤i→Z.P i=none) (hgd:Yu S (some d)) (hd:d<Z.nt)
  (hr:∀ M',Ye M' (Mt Z C1 (B.roots S) G)→Ya w' M' (Q0 Z S w' B G C1) rt.tv s Fn) (hF:Ye Fn G)
  (hk:(rt.k=.reg∧∃ cs,s=.reg cs 0)∨(rt.k=.mem∧∃ b off,s=.mem b off∧G b∧¬ Fn b∧Room w' b off rt.tv.size))
  (hv:∀ M L ρ,Ye M (Mt Z C1 (B.roots S) G)→L d=s→ρ d=some rt→Ya w' M (Yi w' M L ρ) rt.tv s Fn→Yfv w' M L ρ (a.put (some d) v) tv v) :
  ∃ C',Inv Z (S.ap p) C' (a.put (some d) v) w':=by
 have hρ:p.roots S=((B.roots S).set d none).set d (some rt):=by
  funext i
  unfold Patch.roots Bk.roots Yc.set;rw[hp]
  by_cases e:i=d
  ·subst e;rw[Yl];simp
  ·rw[Yv e];simp only[jM e];all_goals try (cases lk i B.1<;>rfl)
 obtain⟨W1,m1⟩:=T.str.weak (ρ':=(B.roots S).set d none) (G':=G) (fun i R' h=>by
   by_cases e:i=d
   ·subst e;rw[Yc.Yo] at h;cases h
   ·rwa [Yc.Yn _ _ e] at h) (fun b hb=>.inl hb)
 have g1:=T.str.Yci m1 ⟨fun i _=>i=d,fun i _=>i=d⟩
  (fun i R' q h1 h2=>by rw[Yc.Yn _ _ h2];exact h1) (fun i R' q h1 h2=>by rw[Yc.Yn _ _ h2];exact h1)
 obtain⟨W3,g3⟩:=W1.new (d:=d) (R:=rt) (s:=s) (Fn:=Fn) (G':=noB) (Yc.Yo _ _ _) (hnp d hle) ((hr _ m1).go (Yi3 (fun _ h=>h)) (fun _ _=>rfl) (fun _ _ h=>.inr h)) hF (fun _ h=>h.elim) (fun _ h=>h.elim)
  (by
   rcases hk with hk | ⟨k1,b,off,k2,k3,k4,k5⟩
   ·exact .inl hk
   ·exact .inr ⟨k1,b,off,k2,k3,k4,fun h=>h,k5⟩)
 have hsub:Ye (Mt Z (C1.set d s Fn) (((B.roots S).set d none).set d (some rt)) noB) (Mt Z C1 (B.roots S) G):=by
  rintro b (⟨r,R,h1,h2⟩ | h | h)
  ·by_cases e:r=d
   ·subst e;rw[Yc.Yo] at h1;cases h1
    rcases h2 with h2 | ⟨hkk,off,h2⟩
    ·simp only[Cx.set,if_true] at h2;exact .inr (.inl (hF b h2))
    ·simp only[Cx.set,if_true] at h2
     rcases hk with ⟨k1,cs,k2⟩ | ⟨k1,b',off',k2,k3,_⟩
     ·rw[k1] at hkk;cases hkk
     ·rw[k2] at h2;cases h2;exact .inr (.inl k3)
   ·rw[Yc.Yn _ _ e,Yc.Yn _ _ e] at h1
    refine .inl ⟨r,R,h1,?_⟩;unfold Tot at h2;simp only[Cx.set,jM e] at h2;exact h2
  ·exact h.elim
  ·exact .inr (.inr h)
 refine⟨C1.set d s Fn,Inv.ap (Q:=Q0 Z S w' B G C1) (dst:=some d) I (by rw[hρ];exact W3) (by rw[hρ];exact(T.gs.trans g1).trans g3) ?_ ?_ ?_ hgd ?_ ?_⟩
 ·rintro x u ⟨h1,h2⟩;rw[hρ];exact Yi.shut hsub h1 h2
 ·rintro r q R hR ((h | h) | h)
  ·obtain⟨k,k1,k2⟩:=T.cl r q h;rw[hp];exact⟨k,hk1 k k1,k2⟩
  ·cases h;rw[hp];exact⟨_,hk2 R hR,rfl,rfl⟩
  ·exact h.elim
 ·rintro r q R hR ((h | h) | h)
  ·obtain⟨k,k1,k2⟩:=T.cs r q h;rw[hp];exact⟨k,hk1 k k1,k2⟩
  ·cases h;rw[hp];exact⟨_,hk2 R hR,rfl,rfl⟩
  ·exact h.elim
 ·intro d' e;cases e;exact⟨hd,tv,by rw[hp];exact Yl _ _ _⟩
 ·intro i x hl
  rw[hp] at hl
  by_cases e:i=d
  ·subst e
   have:tv=x:=by have:=Yl i tv ([]:List (Nat×TV));rw[this] at hl;exact jN hl
   subst this;refine⟨rfl,?_⟩;rw[hρ]
   refine hv _ _ _ hsub (by simp[Cx.set]) (Yc.Yo _ _ _) ?_
   refine(hr _ hsub).go (Yi3 (fun _ h=>h)) (fun _ _=>rfl) (fun x u h=>?_);exact Yi.shut hsub h.1 h.2
  ·have:lk i [(d,tv)]=none:=by rw[Yv e];rfl
   rw[this] at hl;cases hl
def Conv (w':World) (M2:Yd) (L2:Nat→Src) (ρ2:Yc) (Mf:Yd) (c:TV):Prop:=
 ∀ M',Ye M' Mf→∀ (L:Nat→Src) (ρ:Yc) s F,Ya w' M2 (Yi w' M2 L2 ρ2) c s F→Ya w' M' (Yi w' M' L ρ) c s F
theorem Ya.q0 (hs:c.shut=true) (hm:Ye M' (Mt Z C1 (B.roots S) G)) (h:∀ M'',Ye M'' (Mt Z C1 (B.roots S) G)→∀ L ρ,Ya w' M'' (Yi w' M'' L ρ) c s F):Ya w' M' (Q0 Z S w' B G C1) c s F:=by
 have h1:=h _ (fun _ x=>x) C1.L (B.roots S);exact Ya.shut (Lf:=Yi w' (Mt Z C1 (B.roots S) G) C1.L (B.roots S)) hm (fun v u hv hl=>⟨hv,hl⟩) hs h1
theorem Ytj (hρ:ρ d=some rt):∀ (cs:List TV) (p:Path) {us:List Value} {k:Nat} {cells:List Value},
  rt.tv.get p=some (chain cs)→nav w' rt.tv (L d) p=some (.reg cells k)→L d=.reg cells 0→cs.all TV.Yna=true→cs.all TV.shut=true→
  (∃ F,Ya w' M (Yi w' M L ρ) (chain cs) (.reg cells k) F)→(∀ j:Nat,(cells.drop k)[j]? = ((us.map fun u=>u.cells.toList).flatten)[j]?)→(cs.length=us.length∧∀ (i:Nat) c u,cs[i]? = some c→us[i]? = some u→u.cells.size=c.size∧(c.isAgg=true↔∃ x,u=.agg x))→
  Yfw w' M L ρ ((chain cs).mir d p) us:=by
 intro cs
 induction cs with
 |nil=>
  intro p us k cells hg hn hL hno hsh hr hc hl
  cases us with
  |nil=>trivial
  |cons u us=>simp at hl
 |cons c cs ih=>
  intro p us k cells hg hn hL hno hsh hr hc hl
  cases us with
  |nil=>simp at hl
  |cons u us=>
   simp only[List.all_cons,jC] at hno hsh;obtain⟨F,F1,F2,r1,r2,_⟩:=hr;obtain⟨h1,h2⟩:=hl.2 0 c u rfl rfl;obtain⟨n1,g1⟩:=Y4 p [.f1] hn hg;obtain⟨n2,g2⟩:=Y4 p [.f2] hn hg;simp only[chain,nav,Yf,TV.get,TV.get_nil] at n1 g1 n2 g2
   have hcells:∀ i,i<c.size→(Src.reg u.cells.toList 0).cell w' i=(Src.reg cells k).cell w' i:=by
    intro i hi;have:=hc i;simp only[jS,List.flatten_cons] at this
    rw[List.getElem?_append_left (by rw[Array.length_toList,h1];exact hi),List.getElem?_drop] at this
    simp only[Src.cell,jJ];exact this.symm
   refine⟨?_,ih (p++[.f2]) (k:=k+c.size) (cells:=cells) g2 n2 hL hno.2 hsh.2 ⟨_,r2⟩ (fun j=>?_) ⟨by simpa using hl.1,fun i c' u' e1 e2=>hl.2 (i+1) c' u' (by simpa using e1) (by simpa using e2)⟩⟩
   ·have hrep:=Yf9 hρ c (p++[.f1]) (s':=.reg u.cells.toList 0) r1 n1 g1 hcells
    rcases Yf8 r1 d (p++[.f1]) with ⟨n,e⟩ | hp
    ·left
     show c.mir d (p++[.f1])=.dead (c.mir d (p++[.f1])).size;rw[e];rfl
    ·rcases Yib d c (p++[.f1]) with e | ⟨n,e⟩
     ·exact .inr ⟨hrep,by rw[Yb2];exact h1,by rw[e];exact h2⟩
     ·left
      show c.mir d (p++[.f1])=.dead (c.mir d (p++[.f1])).size;rw[e];rfl
   ·have:=hc (c.size+j)
    simp only[jS,List.flatten_cons] at this
    rw[List.getElem?_append_right (by rw[Array.length_toList,h1];omega),Array.length_toList,h1,Nat.add_sub_cancel_left,List.getElem?_drop] at this
    rw[List.getElem?_drop,kH];exact this
end
section
variable {a:Act}
variable {P:Program}
variable {B:Bk} {G:Yd}
def Yqy (w':World) (M2:Yd) (L2:Nat→Src) (ρ2:Yc) (Mf:Yd):TV→Prop
 |.op tv=>Conv w' M2 L2 ρ2 Mf tv
 |c=>Conv w' M2 L2 ρ2 Mf c
theorem Yp1:∀ (cs:List TV) {us:List Value} {F:Yd} {pre:List Value},cs.all TV.Yna=true→Ydl w' M L ρ cs us F→
  Ya w' M (Yi w' M L ρ) (chain cs) (.reg (pre++(us.map fun u=>u.cells.toList).flatten) pre.length) F∧cs.length=us.length∧∀ (i:Nat) c u,cs[i]? = some c→us[i]? = some u→u.cells.size=c.size∧(c.isAgg=true↔∃ x,u=.agg x):=by
 intro cs
 induction cs with
 |nil=>
  intro us F pre _ h
  cases us with
  |nil=>exact⟨trivial,rfl,fun i c u h=>by simp at h⟩
  |cons u us=>exact h.elim
 |cons c cs ih=>
  intro us F pre hno h
  cases us with
  |nil=>exact h.elim
  |cons u us=>
   simp only[List.all_cons,jC] at hno;obtain⟨F1,F2,h1,h2,b1,b2,d⟩:=h
   have hc:Ya w' M (Yi w' M L ρ) c (.reg u.cells.toList 0) F1∧u.cells.size=c.size∧(c.isAgg=true↔∃ cs,u=.agg cs):=by
    cases c with
    |op v=>simp[TV.Yna] at hno
    |_=>exact h1
   obtain⟨q1,q2,q3⟩:=ih (pre:=pre++u.cells.toList) hno.2 h2
   refine⟨⟨F1,F2,hc.1.mv (fun i hi=>?_),?_,b1,b2,d⟩,by simp[q2],fun i c' u' e1 e2=>?_⟩
   ·simp only[Src.cell,jJ,jS,List.flatten_cons]
    rw[List.getElem?_append_right (by omega),Nat.add_sub_cancel_left,List.getElem?_append_left (by rw[Array.length_toList,hc.2.1];exact hi)]
   ·refine q1.mv (fun i hi=>?_)
    simp only[Src.cell,Src.sh,jS,List.flatten_cons,jP,Array.length_toList,hc.2.1,kO]
   ·cases i with
    |zero=>simp at e1 e2;subst e1 e2;exact hc.2
    |succ i=>simp at e1 e2;exact q3 i c' u' e1 e2
theorem Yk7 (I:Inv Z S C a w) (T:Yig Z S C w w' B G C1 D) (hres:Yke w' M2 L2 ρ2 res v Fr) (hF:Ye Fr G)
  (hsh:res.all TV.shut=true) (hconv:∀ c∈res,Yqy w' M2 L2 ρ2 (Mt Z C1 (B.roots S) G) c) (hnp:∀ i,np≤i→Z.P i=none) (hgd:Yu S dst) (hd:∀ d,dst=some d→d<Z.nt)
  (h:(Ya9 np dst B.1 B.2 res).run S=some p):∃ C',Inv Z (S.ap p) C' (a.put dst v) w':=by
 have blt:∀ d,Nat.blt d np=false→np≤d:=by
  intro d h;rcases kG d np with h' | h'
  ·have:Nat.blt d np=true:=by simpa using h'
   rw[this] at h;cases h
  ·exact h'
 have none_:∀ q:Patch,q=⟨[],B.1,B.2⟩→dst=none→∃ C',Inv Z (S.ap q) C' (a.put dst v) w':=by
  intro q hq hdst
  exact T.plain I (tv:=none) (by rw[hq,hdst]) hgd (fun d e=>by rw[hdst] at e;cases e) (fun x e=>by cases e)
 match res,hres,hsh,hconv,h with
 |[],hres,_,_,h=>
  simp only[Ya9,RD.run,jD] at h
  cases hdst:dst with
  |none=>rw[hdst] at h;rw[←hdst];exact none_ p h.symm hdst
  |some d=>
   rw[hdst] at h;rw[←hdst]
   refine T.plain I (tv:=some (.tup (chain []))) (by rw[hdst];exact h.symm) hgd (fun d' e=>⟨hd d' e,_,rfl⟩) (fun x e M' hm=>?_)
   cases e
   exact⟨#[],hres,trivial⟩
 |[c],hres,hsh,hconv,h=>
  have hsh:c.shut=true:=by simpa using hsh
  have hcv:=hconv c (List.mem_singleton.2 rfl)
  cases hdst:dst with
  |none=>rw[hdst] at h;simp only[Ya9,RD.run,jD] at h;rw[←hdst];exact none_ p h.symm hdst
  |some d=>
   rw[hdst] at h hgd;simp only[Ya9] at h
   cases hR:Y8 c with
   |none=>
    rw[hR] at h;simp only[RD.run,jD] at h
    refine T.plain I (dst:=some d) (tv:=some (c.mir d [])) h.symm hgd (fun d' e=>⟨hd d' (by rw[hdst];exact e),_,rfl⟩) (fun x e M' hm=>?_)
    cases e
    have hop:∀ tv,c≠.op tv:=by rintro tv rfl;cases hR
    have hres:Ya w' M2 (Yi w' M2 L2 ρ2) c (.reg v.cells.toList 0) Fr∧v.cells.size=c.size∧(c.isAgg=true↔∃ cs,v=.agg cs):=by
     cases c with
     |op v=>exact absurd rfl (hop v)
     |_=>exact hres
    have hcv:Conv w' M2 L2 ρ2 (Mt Z C1 (B.roots S) G) c:=by
     cases c with
     |op v=>exact absurd rfl (hop v)
     |_=>exact hcv
    have h1:=hcv M' hm C1.L (B.roots S) _ _ hres.1
    have hval:VOk w' M' C1.L (B.roots S) c v:=by
     refine VOk.Yhs ?_ hres.2.1 hres.2.2 (by cases c<;>first | rfl | cases hsh | cases hR)
     cases c with
     |cl o t x=>
      simp only[Y8] at hR
      split at hR
      ·have hp:t.pure=true:=by assumption
       exact Rep.pure hp h1 (fun _ _=>rfl)
      ·exact Rep.Yh6 h1 (fun _ _=>rfl)
      ·cases hR
     |pr x y=>cases hR
     |dead n=>cases hsh
     |rw o e xs i v=>cases hsh
     |_=>exact h1
    exact(Yd3 hR hval d).tm _
   |some rt=>
    rw[hR] at h;simp only at h
    split at h
    ·cases h
    ·rename_i hb
     have hle:=blt d hb
     have hpp:∃ ks,p=⟨[(d,Ysm d [] c)],(d,some rt)::B.1,ks⟩∧(∀ k∈B.2,k∈ks)∧(∀ R,S.root d=some R→(d,none)∈ks):=by
      simp only[RD.run] at h
      split at h
      ·cases h;exact⟨_,rfl,fun k hk=>jG _ hk,fun _ _=>jF⟩
      ·rename_i hr;cases h;exact⟨_,rfl,fun k hk=>hk,fun R hR=>absurd hR (by rw[hr];simp)⟩
     obtain⟨ks,e1,e2,e3⟩:=hpp
     by_cases hop:∃ tv,c=.op tv
     ·obtain⟨tv,rfl⟩:=hop
      cases hR;obtain⟨b,off,F',rfl,r1,r2,r3,r4,r5⟩:=hres;refine T.new I (s:=.mem b off) (Fn:=F') e1 e2 e3 hle hnp hgd (hd d hdst) (fun M' hm=>?_) (fun b hb=>hF b (r3 b hb)) (.inr ⟨rfl,b,off,rfl,hF b r1,r2,r4⟩) (fun M L ρ hm hL hρ _=>?_)
      ·exact Ya.q0 (c:=tv) hsh hm (fun M'' hm' L ρ=>hcv M'' hm' L ρ _ _ r5)
      ·exact Yb.Yah (v:=.loc d []) ⟨_,b,off,hρ,by rw[Yf,hL],rfl⟩
     ·have hop:∀ tv,c≠.op tv:=fun tv e=>hop ⟨tv,e⟩
      have hres:Ya w' M2 (Yi w' M2 L2 ρ2) c (.reg v.cells.toList 0) Fr∧v.cells.size=c.size∧(c.isAgg=true↔∃ cs,v=.agg cs):=by
       cases c with
       |op v=>exact absurd rfl (hop v)
       |_=>exact hres
      have hcv:Conv w' M2 L2 ρ2 (Mt Z C1 (B.roots S) G) c:=by
       cases c with
       |op v=>exact absurd rfl (hop v)
       |_=>exact hcv
      have hrt:=Yac hR hop;subst hrt
      have hresTV:Ysm d [] c=c.mir d []:=by cases c<;>first | rfl | exact absurd rfl (hop _)
      rw[hresTV] at e1;refine T.new I (s:=.reg v.cells.toList 0) (Fn:=Fr) e1 e2 e3 hle hnp hgd (hd d hdst) (fun M' hm=>?_) hF (.inl ⟨rfl,_,rfl⟩) (fun M L ρ hm hL hρ hrep=>?_)
      ·exact Ya.q0 (c:=c) hsh hm (fun M'' hm' L ρ=>hcv M'' hm' L ρ _ _ hres.1)
      ·have hrep':=Yf9 hρ c [] (s':=.reg v.cells.toList 0) hrep (by rw[Yf,hL]) (TV.get_nil _) (fun _ _=>rfl)
       rcases Yf8 hrep d [] with ⟨n,e⟩ | hp
       ·rw[e];trivial
       ·rcases Yib d c [] with e | ⟨n,e⟩
        ·exact(VOk.Yhs hrep' (by rw[Yb2];exact hres.2.1) (by rw[e];exact hres.2.2) hp).tm _
        ·rw[e];trivial
 |c1::c2::cs,hres,hsh,hconv,h=>
  cases hdst:dst with
  |none=>rw[hdst] at h;simp only[Ya9,RD.run,jD] at h;rw[←hdst];exact none_ p h.symm hdst
  |some d=>
   rw[hdst] at h hgd;simp only[Ya9] at h
   split at h
   ·cases h
   ·rename_i hb
    simp only[Bool.or_eq_false_iff,Bool.not_eq_false'] at hb;have hle:=blt d hb.1;generalize hcs:c1::c2::cs=l at *
    have hpp:∃ ks,p=⟨[(d,.tup ((chain l).mir d []))],(d,some ⟨.reg,chain l⟩)::B.1,ks⟩∧(∀ k∈B.2,k∈ks)∧(∀ R,S.root d=some R→(d,none)∈ks):=by
     simp only[RD.run] at h
     split at h
     ·cases h;exact⟨_,rfl,fun k hk=>jG _ hk,fun _ _=>jF⟩
     ·rename_i hr;cases h;exact⟨_,rfl,fun k hk=>hk,fun R hR=>absurd hR (by rw[hr];simp)⟩
    obtain⟨ks,e1,e2,e3⟩:=hpp
    obtain⟨vs,rfl,hvs⟩:∃ vs:Array Value,v=.tuple vs∧Ydl w' M2 L2 ρ2 l vs.toList Fr:=by rw[←hcs] at hres ⊢;exact hres
    obtain⟨q1,q2,q3⟩:=Yp1 (pre:=[]) l hb.2 hvs;simp only[jO,kD] at q1
    have hshc:∀ l:List TV,l.all TV.shut=true→(chain l).shut=true:=by
     intro l
     induction l with
     |nil=>intro _;rfl
     |cons c l ih=>intro h;simp only[List.all_cons,jC] at h;simp only[chain,TV.shut,jC];exact⟨h.1,ih h.2⟩
    have hcvc:Conv w' M2 L2 ρ2 (Mt Z C1 (B.roots S) G) (chain l):=by
     have:∀ l:List TV,(∀ c∈l,Yqy w' M2 L2 ρ2 (Mt Z C1 (B.roots S) G) c)→l.all TV.Yna=true→Conv w' M2 L2 ρ2 (Mt Z C1 (B.roots S) G) (chain l):=by
      intro l
      induction l with
      |nil=>intro _ _ M' hm L ρ s F h;trivial
      |cons c l ih=>
       intro hc hno M' hm L ρ s F h;simp only[List.all_cons,jC] at hno;obtain⟨F1,F2,r1,r2,r3⟩:=h;have h0:=hc c jF
       have h0:Conv w' M2 L2 ρ2 (Mt Z C1 (B.roots S) G) c:=by
        cases c with
        |op v=>simp[TV.Yna] at hno
        |_=>exact h0
       exact⟨F1,F2,h0 M' hm L ρ _ _ r1,ih (fun c hc'=>hc c (jG _ hc')) hno.2 M' hm L ρ _ _ r2,r3⟩
     exact this l hconv hb.2
    refine T.new I (s:=.reg ((vs.toList.map fun u=>u.cells.toList).flatten) 0) (Fn:=Fr) e1 e2 e3 hle hnp hgd (hd d hdst) (fun M' hm=>?_) hF (.inl ⟨rfl,_,rfl⟩) (fun M L ρ hm hL hρ hrep=>?_)
    ·exact Ya.q0 (c:=chain l) (hshc l hsh) hm (fun M'' hm' L ρ=>hcvc M'' hm' L ρ _ _ q1)
    ·refine⟨vs,rfl,?_⟩
     exact Ytj hρ l [] (k:=0) (cells:=(vs.toList.map fun u=>u.cells.toList).flatten) (TV.get_nil _) (by rw[Yf,hL]) hL hb.2 hsh ⟨_,hrep⟩ (fun j=>by simp) ⟨q2,q3⟩
end
section
variable {a:Act}
variable {P:Program}
theorem Yot (I:Inv Z S C a w) (hg:Yax a g):∀ (os:List Operand) {vs:List TV},(Yql g os).run S=some vs→vs.length=os.length∧∀ (i:Nat) v x,vs[i]? = some v→os[i]? = some x→VOk w (Mt Z C S.root noB) C.L S.root v (a.eval x):=by
 intro os
 induction os with
 |nil=>intro vs h;simp only[Yql,RD.run,jD] at h;subst h;exact⟨rfl,fun i v x h=>by simp at h⟩
 |cons x os ih=>
  intro vs h;simp only[Yql] at h;replace h:=RD.bind_some h;obtain⟨v,h1,h⟩:=h;replace h:=RD.bind_some h;obtain⟨vs',h2,h⟩:=h;simp only[RD.run,jD] at h;subst h;obtain⟨e1,e2⟩:=ih h2
  refine⟨by simp[e1],fun i v' x' q1 q2=>?_⟩
  cases i with
  |zero=>simp at q1 q2;subst q1 q2;exact Yg I hg h1
  |succ i=>simp at q1 q2;exact e2 i v' x' q1 q2
theorem Ykb:∀ (c:TV) {us:List Value},Ycl w M L ρ c us→(unchain c).length=us.length∧∀ (i:Nat) v u,(unchain c)[i]? = some v→us[i]? = some u→VOk w M L ρ v u:=by
 intro c
 induction c with
 |pr x y ihx ihy=>
  intro us h
  cases us with
  |nil=>exact h.elim
  |cons u us=>
   obtain⟨h1,h2⟩:=h;obtain⟨e1,e2⟩:=ihy h2
   refine⟨by simp[unchain,e1],fun i v u' q1 q2=>?_⟩
   cases i with
   |zero=>
    simp[unchain] at q1 q2;subst q1 q2
    have:Yi w M L ρ x u:=by cases x<;>first | exact h1 | exact h1.elim
    exact(Yb.Yah this).v (by cases x<;>first | rfl | exact h1.elim)
   |succ i=>simp[unchain] at q1 q2;exact e2 i v u' q1 q2
 |cl o t x=>intro us h;cases t<;>cases us<;>first | exact h.elim | exact⟨rfl,fun i v u h=>by simp[unchain] at h⟩
 |_=>intro us h;exact h.elim
theorem Yi7:∀ (v:TV) {rp:Nat×Path},Ya7 v=some rp→v.Ycw=true:=by
 intro v
 induction v with
 |seg r p=>intro rp _;rfl
 |pr x y ihx ihy=>
  intro rp h;simp only[Ya7] at h
  cases hx:Ya7 x with
  |some q=>simp only[TV.Ycw,ihx hx,Bool.true_or]
  |none=>
   rw[hx] at h;simp only at h
   cases hy:Ya7 y with
   |none=>rw[hy] at h;cases h
   |some q=>simp only[TV.Ycw,ihy hy,Bool.or_true]
 |_=>intro rp h;cases h
theorem Ygg {M:Yd} {L:Nat→Src} {ρ:Yc}:∀ (v:TV) (t:Ty) {c:TV} {s:Src},Yfr t v=some c→Ya w M (Yi w M L ρ) v s noB→
  ∃ t' y,c=.cl .deep t' y∧(∀ M',Rep w M' t' .deep y s noB)∧t'.size=v.size∧v.isAgg=t'.isAgg∧v.Ycw=false:=by
 intro v
 induction v with
 |cl o t' x=>
  intro t c s h hr
  have h:(match t'.pure with | true=>some (TV.cl .deep t' x) | false=>none)=some c:=by cases t<;>exact h
  cases hp:t'.pure with
  |false=>rw[hp] at h;cases h
  |true=>
   rw[hp] at h;cases h
   exact⟨t',x,rfl,fun M'=>Rep.pure hp (show Rep w M t' o x s noB from hr) (fun _ _=>rfl),rfl,rfl,rfl⟩
 |nl=>
  intro t c s h hr
  cases t with
  |sl e=>
   cases h;obtain⟨u,h1,A,rfl⟩:=hr
   exact⟨_,_,rfl,fun M'=>Rep.nil h1,rfl,rfl,rfl⟩
  |_=>cases h
 |pr x y ihx ihy=>
  intro t c s h hr
  cases t with
  |pair t1 t2=>
   simp only[Yfr] at h;obtain⟨F1,F2,r1,r2,b1,b2,_⟩:=hr
   cases h1:Yfr t1 x with
   |none=>rw[h1] at h;cases h
   |some c1=>
    cases h2:Yfr t2 y with
    |none=>rw[h1,h2] at h;cases c1<;>cases h
    |some c2=>
     obtain⟨u1,y1,rfl,q1,q2,q3,q0⟩:=ihx t1 h1 (r1.sub b1);obtain⟨u2,y2,rfl,q4,q5,q6,q7⟩:=ihy t2 h2 (r2.sub b2);rw[h1,h2] at h;cases h
     exact⟨_,_,rfl,fun M'=>⟨noB,noB,q1 M',by rw[q2];exact q4 M',fun _ x=>x,fun _ x=>x,fun _ x=>x.elim⟩,by simp[Ty.size,TV.size,q2,q5],rfl,by simp[TV.Ycw,q0,q7]⟩
  |_=>cases h
 |_=>intro t c s h;cases t<;>cases h
def Yug (tb:Tb) (Z:W0) (S:St) (C:Cx) (w:World) (m:Md) (v:TV) (u:Value) (c:TV):Prop:=
 (m=.sh∧(∀ tv,c≠.op tv)∧∀ M' L ρ,Far Z S C w v.roots M'→VOk w M' L ρ c u)∨
 (m=.mu∧v.Ycw=false∧(∀ tv,c≠.op tv)∧∀ M' L ρ,Ye M' (Mt Z C S.root noB)→VOk w M' L ρ c u)∨
 (m=.mu∧v.Ycw=true∧∃ t,(Yb7 tb t v).run S=some c)
theorem Ymm (I:Inv Z S C a w) (hv:VOk w (Mt Z C S.root noB) C.L S.root v u) (h:(Yhh tb K t m v).run S=some (c,K')) :
  K'=K∧Yug tb Z S C w m v u c:=by
 cases m with
 |sh=>
  have viaShare:∀ v,((share (argTy tb t) v).bind fun v=>.ret (v,K)).run S=some (c,K')→VOk w (Mt Z C S.root noB) C.L S.root v u→K'=K∧Yug tb Z S C w .sh v u c:=by
   intro v h hv;replace h:=RD.bind_some h;obtain⟨c',h1,h⟩:=h;simp only[RD.run,jD,jV] at h;obtain⟨rfl,rfl⟩:=h
   have hnt:∀ l,v≠.tup l:=by rintro l rfl;generalize argTy tb t=ty at h1;cases ty<;>cases h1
   refine⟨rfl,.inl ⟨rfl,?_,fun M' L ρ hf=>?_⟩⟩
   ·obtain⟨t',y,rfl,_⟩:=Yhx I (M':=noB) v _ h1 (hv.rep hnt).1 ⟨fun _ h=>h.elim,fun _ _ _ _ _ _ h=>h⟩
    simp
   ·obtain⟨t',y,rfl,q1,q2,q3⟩:=Yhx I v _ h1 (hv.rep hnt).1 hf
    have hval:Yb w M' L ρ (.cl .sh t' y) u:=⟨q1,by rw[(hv.rep hnt).2,←q2];rfl,by
     have:=(hv.val hnt).2.2;rw[q3] at this;exact this⟩
    exact hval
  cases v with
  |loc r p=>
   simp only[Yhh] at h;replace h:=RD.bind_some h;obtain⟨c',h1,h⟩:=h;simp only[RD.run,jD,jV] at h;obtain⟨rfl,rfl⟩:=h;have hl:Ydt w (Mt Z C S.root noB) C.L S.root (.loc r p) u:=(hv:Yb _ _ _ _ _ _).leaf rfl;refine⟨rfl,.inl ⟨rfl,?_,fun M' L ρ hf=>?_⟩⟩
   ·obtain⟨t',y,rfl,_⟩:=Yd6 I (M':=noB) h1 hl ⟨fun _ h=>h.elim,fun _ _ _ _ _ _ h=>h⟩
    simp
   ·obtain⟨t',y,rfl,q⟩:=Yd6 I h1 hl hf
    exact Yb.Yah (v:=.pt t' y) (q L ρ)
  |pt ty x=>
   simp only[Yhh,RD.run,jD,jV] at h;obtain⟨rfl,rfl⟩:=h
   refine⟨rfl,.inl ⟨rfl,by simp,fun M' L ρ hf=>?_⟩⟩
   exact Yb.Yah (Yi.shut hf.sub rfl ((hv:Yb _ _ _ _ _ _).leaf rfl))
  |clo f cc=>
   simp only[Yhh] at h;replace h:=RD.bind_some h;obtain⟨c',h1,h⟩:=h;simp only[RD.run,jD,jV] at h;obtain⟨rfl,rfl⟩:=h;obtain⟨caps,rfl,hc⟩:Yi w (Mt Z C S.root noB) C.L S.root (.clo f cc) u:=(hv:Yb _ _ _ _ _ _).leaf rfl
   refine⟨rfl,.inl ⟨rfl,by simp,fun M' L ρ hf=>?_⟩⟩
   exact Yb.Yah (v:=.clo f c') ⟨caps,rfl,Yjt I cc h1 hc hf L ρ⟩
  |_=>exact viaShare _ h hv
 |mu=>
  simp only[Yhh] at h;replace h:=RD.bind_some h;obtain⟨c',h1,h⟩:=h;simp only[RD.run,jD,jV] at h;obtain⟨rfl,rfl⟩:=h;refine⟨rfl,?_⟩
  cases v with
  |cl oo ty x=>
   simp only[Yb7,RD.run,jD] at h1;subst h1;have hv:=(hv:Yb _ _ _ _ _ _)
   refine .inr (.inl ⟨rfl,rfl,by simp,fun M' L ρ hm=>?_⟩)
   exact(⟨Ya.mono (Lf:=Yi w M' L ρ) (tv:=.cl oo ty x) hv.1 hm,hv.2.1,hv.2.2⟩:Yb _ _ _ _ _ _)
  |nl=>
   simp only[Yb7] at h1
   split at h1
   ·rename_i e' _
    simp only[RD.run,jD] at h1;subst h1;obtain⟨A,rfl⟩:=(hv:Yb _ _ _ _ _ _).leaf rfl
    refine .inr (.inl ⟨rfl,rfl,by simp,fun M' L ρ hm=>?_⟩)
    have h1:Yb w M' L ρ (.cl .deep (.sl e') []) (.slice A 0 0):=⟨Rep.nil (A:=A) rfl,rfl,⟨fun h=>(by cases h),fun⟨_,h⟩=>(by cases h)⟩⟩
    exact h1
   ·cases h1
  |loc r p=>exact .inr (.inr ⟨rfl,rfl,t,h1⟩)
  |seg r p=>exact .inr (.inr ⟨rfl,rfl,t,h1⟩)
  |pr x y=>
   cases hh:Ya7 (.pr x y) with
   |some rp=>exact .inr (.inr ⟨rfl,Yi7 _ hh,t,h1⟩)
   |none=>
    simp only[Yb7,hh] at h1
    have hnt:∀ l,TV.pr x y≠.tup l:=fun l e=>by cases e
    obtain⟨t',y',rfl,q1,q2,q3,q4⟩:=Ygg _ _ (RD.Ygd h1) (hv.rep hnt).1
    refine .inr (.inl ⟨rfl,q4,by simp,fun M' L ρ hm=>?_⟩)
    have hval:Yb w M' L ρ (.cl .deep t' y') u:=⟨q1 M',by rw[(hv.rep hnt).2,←q2];rfl,by
     have:=(hv.val hnt).2.2;rw[q3] at this;exact this⟩
    exact hval
  |_=>cases h1
 |mv=>cases h
def Ya6 (tb:Tb) (Z:W0) (S:St) (C:Cx) (w:World):List Md→List TV→List Value→List TV→Prop
 |[],[],[],[]=>True
 |m::ms,v::vs,u::us,c::cs=>Yug tb Z S C w m v u c∧Ya6 tb Z S C w ms vs us cs
 |_,_,_,_=>False
theorem Ylh (I:Inv Z S C a w):∀ (ms:List Md) (ts:List TypeId) (vs:List TV) {us:List Value} {cs:List TV} {K K':Yp},vs.length=us.length→(∀ (i:Nat) v u,vs[i]? = some v→us[i]? = some u→VOk w (Mt Z C S.root noB) C.L S.root v u)→
  (Yfh tb K ts ms vs).run S=some (cs,K')→K'=K∧Ya6 tb Z S C w ms vs us cs:=by
 intro ms
 induction ms with
 |nil=>
  intro ts vs us cs K K' hl hv h
  cases vs with
  |nil=>
   have h:cs=[]∧K=K':=by cases ts<;>(simp only[Yfh,RD.run,jD,jV] at h;exact⟨h.1.symm,h.2⟩)
   obtain⟨rfl,rfl⟩:=h
   cases us with
   |nil=>exact⟨rfl,trivial⟩
   |cons u us=>simp at hl
  |cons v vs=>cases ts<;>cases h
 |cons m ms ih=>
  intro ts vs us cs K K' hl hv h
  cases vs with
  |nil=>cases ts<;>cases h
  |cons v vs=>
   cases us with
   |nil=>simp at hl
   |cons u us=>
    have step:∀ (t:TypeId) (ts:List TypeId),((Yhh tb K t m v).bind fun(c,K)=>(Yfh tb K ts ms vs).bind fun(cs,K)=>.ret (c::cs,K)).run S=some (cs,K')→K'=K∧Ya6 tb Z S C w (m::ms) (v::vs) (u::us) cs:=by
     intro t ts h;replace h:=RD.bind_some h;obtain⟨⟨c,K1⟩,h1,h⟩:=h;replace h:=RD.bind_some h;obtain⟨⟨cs',K2⟩,h2,h⟩:=h;simp only[RD.run,jD,jV] at h;obtain⟨rfl,rfl⟩:=h;obtain⟨rfl,q1⟩:=Ymm I (hv 0 v u rfl rfl) h1
     obtain⟨rfl,q2⟩:=ih ts vs (by simpa using hl) (fun i v' u' e1 e2=>hv (i+1) v' u' (by simpa using e1) (by simpa using e2)) h2
     exact⟨rfl,q1,q2⟩
    cases ts with
    |nil=>exact step 0 [] h
    |cons t ts=>exact step t ts h
theorem Ya6.len:∀ {ms:List Md} {vs:List TV} {us:List Value} {cs:List TV},Ya6 tb Z S C w ms vs us cs→ms.length=us.length∧vs.length=us.length∧cs.length=us.length
 |[],[],[],[],_=>⟨rfl,rfl,rfl⟩
 |m::ms,v::vs,u::us,c::cs,h=>by obtain⟨h1,h2,h3⟩:=Ya6.len h.2;exact⟨by simp[h1],by simp[h2],by simp[h3]⟩
 |[],[],[],_::_,h=>h.elim
 |[],[],_::_,_,h=>h.elim
 |[],_::_,_,_,h=>h.elim
 |_::_,[],_,_,h=>h.elim
 |_::_,_::_,[],_,h=>h.elim
 |_::_,_::_,_::_,[],h=>h.elim
def Y6:Nat→List Md→List TV→Nat
 |j,.mu::ms,v::vs=>match v.Ycw with | true=>j | false=>Y6 (j+1) ms vs
 |j,_::ms,_::vs=>Y6 (j+1) ms vs
 |j,_,_=>j
theorem Ya6.others:∀ {ms:List Md} {vs:List TV} {us:List Value} {cs:List TV} (j:Nat),Ya6 tb Z S C w ms vs us cs→(Yau ms vs).length≤1→
  ∀ (i:Nat) c,j+i≠Y6 j ms vs→cs[i]? = some c→(∀ tv,c≠.op tv)∧∃ (v:TV) (u:Value),us[i]? = some u∧(v.roots ⊆ Yef ms vs∧(∀ M' L ρ,Far Z S C w v.roots M'→VOk w M' L ρ c u)∧((Ygn ms vs).all TV.Ybm=true→v.Ybm=true)∨
   ∀ M' L ρ,Ye M' (Mt Z C S.root noB)→VOk w M' L ρ c u)
 |[],[],[],[],j,_,_,i,c,_,h=>by simp at h
 |m::ms,v::vs,u::us,c0::cs,j,hr,hl,i,c,hne,hc=>by
  obtain⟨h0,hr⟩:=hr;rcases h0 with ⟨rfl,h1,h2⟩ | ⟨rfl,h1,h2,h3⟩ | ⟨rfl,h1,h2⟩
  ·cases i with
   |zero=>
    simp at hc;subst hc
    exact⟨h1,v,u,rfl,.inl ⟨fun r hr=>by simp[Yef,hr],h2,fun h=>by simp[Ygn] at h;exact h.1⟩⟩
   |succ i=>
    obtain⟨q1,v',u',q2,q3⟩:=Ya6.others (j+1) hr hl i c (by rw[show j+1+i=j+(i+1) by omega];exact hne) (by simpa using hc)
    refine⟨q1,v',u',by simpa using q2,q3.imp (fun⟨a,b,c⟩=>⟨fun r hr=>by simp[Yef];exact .inr (a hr),b,fun h=>c (by simp[Ygn] at h ⊢;exact h.2)⟩) id⟩
  ·cases i with
   |zero=>simp at hc;subst hc;exact⟨h2,v,u,rfl,.inr h3⟩
   |succ i=>
    have hl':(Yau ms vs).length≤1:=by simpa only[Yau,h1] using hl
    obtain⟨q1,v',u',q2,q3⟩:=Ya6.others (j+1) hr hl' i c (by rw[show j+1+i=j+(i+1) by omega];simpa only[Y6,h1] using hne) (by simpa using hc)
    exact⟨q1,v',u',by simpa using q2,q3.imp (fun⟨a,b,c⟩=>⟨fun r hr=>by simp only[Yef];exact a hr,b,fun h=>c (by simpa only[Ygn] using h)⟩) id⟩
  ·
   simp only[Yau,h1,jH] at hl
   have hnil:Yau ms vs=[]:=List.length_eq_zero_iff.1 (by omega)
   cases i with
   |zero=>simp[Y6,h1] at hne
   |succ i=>
    have hix:∀ (ms:List Md) (vs:List TV) (us:List Value) (cs:List TV) (k:Nat),Ya6 tb Z S C w ms vs us cs→Yau ms vs=[]→Y6 k ms vs=k+us.length:=by
     intro ms
     induction ms with
     |nil=>intro vs us cs k h _;cases vs<;>cases us<;>cases cs<;>first | rfl | exact h.elim
     |cons m ms ih=>
      intro vs us cs k h hn
      cases vs<;>cases us<;>cases cs<;>first | exact h.elim | skip
      rename_i v vs u us c cs;obtain⟨q0,q⟩:=h
      have:Y6 k (m::ms) (v::vs)=Y6 (k+1) ms vs∧Yau ms vs=[]:=by
       cases m with
       |mu=>
        simp only[Yau] at hn
        split at hn
        ·cases hn
        ·rename_i hh;exact⟨by simp only[Y6,hh],hn⟩
       |sh=>exact⟨rfl,hn⟩
       |mv=>exact⟨rfl,hn⟩
      rw[this.1,ih vs us cs (k+1) q this.2];simp;omega
    have hlen:=hr.len
    have hi:i<us.length:=by
     have:i<cs.length:=by
      rcases kG i cs.length with h | h
      ·exact h
      ·simp[List.getElem?_eq_none h] at hc
     omega
    obtain⟨q1,v',u',q2,q3⟩:=Ya6.others (j+1) hr (by rw[hnil];exact kE _) i c (by rw[hix ms vs us cs (j+1) hr hnil];omega) (by simpa using hc)
    exact⟨q1,v',u',by simpa using q2,q3.imp (fun⟨a,b,c⟩=>⟨fun r hr=>by simp only[Yef];exact a hr,b,fun h=>c (by simpa only[Ygn] using h)⟩) id⟩
 |[],[],[],_::_,_,h,_,_,_,_,_=>h.elim
 |[],[],_::_,_,_,h,_,_,_,_,_=>h.elim
 |[],_::_,_,_,_,h,_,_,_,_,_=>h.elim
 |_::_,[],_,_,_,h,_,_,_,_,_=>h.elim
 |_::_,_::_,[],_,_,h,_,_,_,_,_=>h.elim
 |_::_,_::_,_::_,[],_,h,_,_,_,_,_=>h.elim
theorem Ya6.Yen:∀ {ms:List Md} {vs:List TV} {us:List Value} {cs:List TV} (j:Nat),Ya6 tb Z S C w ms vs us cs→∀ (ρ:Yc) (os:List TV),Ybg ρ j ms os→
  (Yau ms vs=[]∧Y6 j ms vs=j+us.length)∨∃ v rest k,Yau ms vs=v::rest∧Y6 j ms vs=j+k∧∃ u c t R,us[k]? = some u∧vs[k]? = some v∧cs[k]? = some c∧(Yb7 tb t v).run S=some c∧ρ (j+k)=some R∧
   Yc8 ms vs os=some R.out
 |[],[],[],[],j,_,ρ,os,ho=>.inl ⟨rfl,rfl⟩
 |m::ms,v::vs,u::us,c::cs,j,hr,ρ,os,ho=>by
  obtain⟨h0,hr⟩:=hr
  have next:∀ os',Ybg ρ (j+1) ms os'→Yau (m::ms) (v::vs)=Yau ms vs→Y6 j (m::ms) (v::vs)=Y6 (j+1) ms vs→Yc8 (m::ms) (v::vs) os=Yc8 ms vs os'→
    (Yau (m::ms) (v::vs)=[]∧Y6 j (m::ms) (v::vs)=j+(u::us).length)∨∃ v' rest k,Yau (m::ms) (v::vs)=v'::rest∧Y6 j (m::ms) (v::vs)=j+k∧∃ u' c' t R,(u::us)[k]? = some u'∧(v::vs)[k]? = some v'∧(c::cs)[k]? = some c'∧(Yb7 tb t v').run S=some c'∧ρ (j+k)=some R∧
     Yc8 (m::ms) (v::vs) os=some R.out:=by
   intro os' ho' e1 e2 e3;rcases Ya6.Yen (j+1) hr ρ os' ho' with ⟨q1,q2⟩ | ⟨v',rest,k,q1,q2,u',c',t,R,q3,q4,q5,q6,q7,q8⟩
   ·exact .inl ⟨by rw[e1,q1],by rw[e2,q2];simp;omega⟩
   ·exact .inr ⟨v',rest,k+1,by rw[e1,q1],by rw[e2,q2];omega,u',c',t,R,by simpa using q3,by simpa using q4,by simpa using q5,q6,by rw[show j+(k+1)=j+1+k by omega];exact q7,by rw[e3,q8]⟩
  cases m with
  |sh=>exact next os (by cases os<;>exact ho) rfl rfl (by cases os<;>rfl)
  |mv=>exact next os (by cases os<;>exact ho) rfl rfl (by cases os<;>rfl)
  |mu=>
   cases os with
   |nil=>exact ho.elim
   |cons o os=>
    obtain⟨⟨R,e1,e2⟩,ho⟩:=ho
    cases hl:v.Ycw with
    |false=>exact next os ho (by simp only[Yau,hl]) (by simp only[Y6,hl]) (by simp only[Yc8,hl])
    |true=>
     rcases h0 with ⟨h,_⟩ | ⟨_,h,_⟩ | ⟨_,_,t,h⟩
     ·cases h
     ·rw[hl] at h;cases h
     ·exact .inr ⟨v,Yau ms vs,0,by simp only[Yau,hl],by simp only[Y6,hl];rfl,u,c,t,R,rfl,rfl,rfl,h,e1,by simp only[Yc8,hl];rw[e2]⟩
 |[],[],[],_::_,_,h,_,_,_=>h.elim
 |[],[],_::_,_,_,h,_,_,_=>h.elim
 |[],_::_,_,_,_,h,_,_,_=>h.elim
 |_::_,[],_,_,_,h,_,_,_=>h.elim
 |_::_,_::_,[],_,_,h,_,_,_=>h.elim
 |_::_,_::_,_::_,[],_,h,_,_,_=>h.elim
end
section
variable {a:Act}
variable {P:Program}
theorem Yme:∀ v:TV,v.Ybm=true→v.roots=[]:=by
 intro v
 induction v with
 |pr a b iha ihb=>intro h;simp only[TV.Ybm,jC] at h;simp[TV.roots,iha h.1,ihb h.2]
 |clo f c ih=>intro h;exact ih h
 |cl o t x=>intro _;rfl
 |pt t x=>intro _;rfl
 |nl=>intro _;rfl
 |_=>intro h;cases h
theorem Kp.Yu4 (h:Same w w' b):Kp w w' s' n b:=by
 cases s' with
 |reg cs o=>exact h
 |mem b0 off0=>
  by_cases e:b=b0
  ·simp only[Kp,jL e]
   exact⟨fun i _=>h.cell i,fun i=>h.frozen i,fun i hi=>by rw[h.cell];exact hi⟩
  ·simp only[Kp,jM e];exact h
theorem Yi.noop (v:TV) (u:Value):¬ Yi w M L ρ (.op v) u:=fun h=>h
theorem Yh7 (hs:c.shut=true) (h:Ye Mf M2∨c.noSh=true):Conv w' M2 L2 ρ2 Mf c:=by
 intro M' hm L ρ s F hr;rcases h with h | h
 ·exact Ya.shut (fun b hb=>h b (hm b hb)) (fun v u hv hl=>Yi.shut (fun b hb=>h b (hm b hb)) hv hl) hs hr
 ·exact Ya.noSh Yi.noop h hr
theorem Yq9 (hs:c.Yb4=true) (h:Ye Mf M2∨c.noSh=true):Conv w' M2 L2 ρ2 Mf c:=by
 intro M' hm L ρ s F hr;rcases h with h | h
 ·exact Ya.Yb4 (fun b hb=>h b (hm b hb)) Yi.noop (fun v u hv hl=>Yi.shut (fun b hb=>h b (hm b hb)) hv hl) hs hr
 ·exact Ya.noSh Yi.noop h hr
theorem Ymq (hs:c.shut=true) (h:Ye Mf M2∨c.noSh=true):Yqy w' M2 L2 ρ2 Mf c:=by
 cases c with
 |op v=>exact Yh7 (c:=v) hs h
 |cl o t x=>exact Yh7 (c:=.cl o t x) hs h
 |pr x y=>exact Yh7 (c:=.pr x y) hs h
 |_=>exact Yh7 hs h
theorem Yji:∀ (p:Path) {tv:TV} {s s1:Src} {q:Path},nav w tv s (p++q)=some s1→∃ s',nav w tv s p=some s':=by
 intro p
 induction p with
 |nil=>intro tv s s1 q _;exact⟨s,Yf _ _ _⟩
 |cons a p ih=>
  intro tv s s1 q h
  cases tv with
  |pr x y=>cases a<;>simp only[jQ,nav] at h ⊢<;>first | exact ih h | cases h
  |cl o t x=>
   cases t with
   |pair t1 t2=>cases a<;>simp only[jQ,nav] at h ⊢<;>first | exact ih h | cases h
   |sl e=>
    cases a with
    |el i=>
     simp only[jQ,nav] at h ⊢
     split at h
     ·rename_i hi
      rw[jL hi]
      split at h
      ·exact ih h
      ·cases h
     ·cases h
    |f1=>simp[nav] at h
    |f2=>simp[nav] at h
   |arr n e=>
    cases a with
    |el i=>
     simp only[jQ,nav] at h ⊢
     split at h
     ·rename_i hi;rw[jL hi];exact ih h
     ·cases h
    |f1=>simp[nav] at h
    |f2=>simp[nav] at h
   |_=>cases a<;>simp[nav] at h
  |rw o e xs i v=>
   cases a with
   |el j=>
    simp only[jQ,nav] at h ⊢
    split at h
    ·rename_i hj
     rw[jL hj]
     split at h
     ·split at h
      ·exact ih h
      ·exact ih h
     ·cases h
    ·cases h
   |f1=>simp[nav] at h
   |f2=>simp[nav] at h
  |_=>cases a<;>simp[nav] at h
theorem Yfl:∀ {two:Bool} {p q:Path},Ydx two p=some q→p=q++[if two then .f2 else .f1]
 |two,[],q,h=>by cases h
 |two,[.f1],q,h=>by cases two<;>cases h;rfl
 |two,[.f2],q,h=>by cases two<;>cases h;rfl
 |two,[.el i],q,h=>by simp[Ydx] at h
 |two,x::y::p,q,h=>by
  have h:(match Ydx two (y::p) with | some q=>some (x::q) | none=>none)=some q:=by
   cases x<;>exact h
  cases hq:Ydx two (y::p) with
  |none=>rw[hq] at h;cases h
  |some q'=>rw[hq] at h;cases h;rw[Yfl hq];rfl
theorem Yrr:∀ (v:TV) {r:Nat} {p:Path} {s:Src} {F:Yd},Ya7 v=some (r,p)→Ya w M (Yi w M C.L S.root) v s F→∃ R s',S.root r=some R∧nav w R.tv (C.L r) p=some s':=by
 intro v
 induction v with
 |seg r' q=>
  intro r p s F h hv;simp only[Ya7,jD,jV] at h;obtain⟨rfl,rfl⟩:=h;obtain⟨u,hu,R,s1,o1,e1,xs1,k1,k2,_⟩:=hv
  exact⟨R,s1,k1,k2⟩
 |pr x y ihx ihy=>
  intro r p s F h hv;obtain⟨F1,F2,r1,r2,_⟩:=hv;simp only[Ya7] at h
  cases hx:Ya7 x with
  |some rp=>
   obtain⟨r',p'⟩:=rp;rw[hx] at h;simp only at h
   cases hq:Ydx false p' with
   |none=>rw[hq] at h;cases h
   |some q=>
    rw[hq] at h;simp only[jD,jV] at h;obtain⟨rfl,rfl⟩:=h;obtain⟨R,s1,k1,k2⟩:=ihx hx r1;rw[Yfl hq] at k2;obtain⟨s',k3⟩:=Yji q k2
    exact⟨R,s',k1,k3⟩
  |none=>
   rw[hx] at h;simp only at h
   cases hy:Ya7 y with
   |none=>rw[hy] at h;cases h
   |some rp=>
    obtain⟨r',p'⟩:=rp;rw[hy] at h;simp only at h
    cases hq:Ydx true p' with
    |none=>rw[hq] at h;cases h
    |some q=>
     rw[hq] at h;simp only[jD,jV] at h;obtain⟨rfl,rfl⟩:=h;obtain⟨R,s1,k1,k2⟩:=ihy hy r2;rw[Yfl hq] at k2;obtain⟨s',k3⟩:=Yji q k2
     exact⟨R,s',k1,k3⟩
 |_=>intro r p s F h;cases h
theorem Yok (I:Inv Z S C a w) (hv:VOk w (Mt Z C S.root noB) C.L S.root v u) (hl:v.Ycw=true) (h:(Yb7 tb t v).run S=some c) (hp:Yeo v=some (r,p)) :
  ∃ R s' old,S.root r=some R∧nav w R.tv (C.L r) p=some s'∧R.tv.get p=some old∧
   ((v=.loc r p∧p.flat=true∧c=.op old∧∃ b off,s'=.mem b off∧u=.pointer (some ⟨b,off,none⟩))∨
    (v=.seg r p∧c=old∧isRow old=true∧s'.cell w 0=some u∧(∃ A n cc,u=.slice A n cc))∨
    (∃ x y,v=.pr x y∧Ycv r p v old=some c)):=by
 cases v with
 |loc r' p'=>
  simp only[Yeo] at hp
  split at hp
  ·rename_i hf
   simp only[jD,jV] at hp;obtain⟨rfl,rfl⟩:=hp;simp only[Yb7] at h;replace h:=RD.bind_some h;obtain⟨old,h1,h⟩:=h;simp only[RD.run,jD] at h;subst h;obtain⟨R,hR,hg⟩:=Ya1 h1;obtain⟨R',b,off,e1,e2,rfl⟩:=(hv:Yb _ _ _ _ _ _).leaf rfl;rw[hR] at e1;cases e1;exact⟨R,_,old,hR,e2,hg,.inl ⟨rfl,hf,rfl,b,off,rfl,rfl⟩⟩
  ·cases hp
 |seg r' p'=>
  simp only[Yeo,jD,jV] at hp;obtain⟨rfl,rfl⟩:=hp;simp only[Yb7] at h;replace h:=RD.bind_some h;obtain⟨old,h1,h⟩:=h;obtain⟨R,hR,hg⟩:=Ya1 h1
  split at h
  ·rename_i hrow
   simp only[RD.run,jD] at h;subst h;obtain⟨R',s1,o1,e1,xs1,k1,k2,k3,k4,k5⟩:=(hv:Yb _ _ _ _ _ _).leaf rfl;rw[hR] at k1;cases k1;exact⟨R,s1,old,hR,k2,hg,.inr (.inl ⟨rfl,rfl,hrow,k4,k5⟩)⟩
  ·cases h
 |pr x y=>
  simp only[Yeo] at hp;simp only[Yb7] at h
  cases hh:Ya7 (.pr x y) with
  |none=>
   rw[hh] at h
   obtain⟨_,_,_,_,_,_,q⟩:=Ygg _ _ (RD.Ygd h) (hv.rep (fun l e=>by cases e)).1
   rw[q] at hl;cases hl
  |some rp=>
   obtain⟨r',p'⟩:=rp;rw[hh] at h hp;simp only at h hp
   split at hp
   ·simp only[jD,jV] at hp
    obtain⟨rfl,rfl⟩:=hp;replace h:=RD.bind_some h;obtain⟨old,h1,h⟩:=h;obtain⟨R,hR,hg⟩:=Ya1 h1
    obtain⟨R',s',k1,k2⟩:=Yrr (.pr x y) hh (hv.rep (fun l e=>by cases e)).1
    rw[hR] at k1;cases k1;exact⟨R,s',old,hR,k2,hg,.inr (.inr ⟨x,y,rfl,RD.Ygd h⟩)⟩
   ·cases hp
 |_=>cases hp
end
section
variable {a:Act}
variable {P:Program}
theorem Yk2 (I:Inv Z S C a w) {ms:List Md} {vs:List TV} {us:Array Value} {cs:List TV} {Mz X:Yd} {rl:Nat} (hargs:Ya6 tb Z S C w ms vs us.toList cs) (hl:(Yau ms vs).length≤1)
  (hMz:∀ b,Mz b→Mt Z C S.root noB b∧∃ R,S.root rl=some R∧Tot C rl R b) (hX:∀ b,X b→Mt Z C S.root noB b) (hrl:rl∉Yef ms vs∨∀ b,¬ Mz b) (hXs:(Ygn ms vs).all TV.Ybm=true∨∀ b,¬ X b) :
  ∀ i c,i≠Y6 0 ms vs→cs[i]? = some c→(∀ v,c≠.op v)∧∀ M' L ρ,Ye M' (fun b=>Mz b∨X b)→VOk w M' L ρ c (us.getD i undef):=by
 intro i c hne hc
 obtain⟨q1,v,u,q2,q3⟩:=Ya6.others 0 hargs hl i c (by rw[jJ];exact hne) hc
 have hu:us.getD i undef=u:=by
  rw[Array.getElem?_toList] at q2;simp[kU,q2]
 refine⟨q1,fun M' L ρ hm=>?_⟩;rw[hu];have hsub:Ye M' (Mt Z C S.root noB):=fun b hb=>(hm b hb).elim (fun h=>(hMz b h).1) (hX b);rcases q3 with ⟨r1,r2,r3⟩ | r
 ·refine r2 M' L ρ ⟨hsub,fun r hr R hR b hb hmb=>?_⟩
  rcases hm b hmb with h | h
  ·obtain⟨_,R',e1,e2⟩:=hMz b h
   rcases hrl with hrl | hrl
   ·have hne:r≠rl:=fun e=>hrl (e▸r1 hr)
    exact I.str.dis r rl R R' hne hR e1 b hb e2
   ·exact hrl b h
  ·rcases hXs with hXs | hXs
   ·rw[Yme v (r3 hXs)] at hr;cases hr
   ·exact hXs b h
 ·exact r M' L ρ hsub
theorem Ym1 {n:Nat}:∀ {l:List Nat},Yay n l=false→n∉l
 |[],_=>by simp
 |m::l,h=>by
  simp only[Yay,Bool.or_eq_false_iff] at h;intro hm;rcases List.mem_cons.1 hm with e | hm
  ·subst e;simp at h
  ·exact Ym1 h.2 hm
theorem Yoj:∀ (ms:List Md) (vs:List TV) (us:List Value) (cs:List TV) (k:Nat),Ya6 tb Z S C w ms vs us cs→Yau ms vs=[]→Y6 k ms vs=k+us.length:=by
 intro ms
 induction ms with
 |nil=>intro vs us cs k h _;cases vs<;>cases us<;>cases cs<;>first | rfl | exact h.elim
 |cons m ms ih=>
  intro vs us cs k h hn
  cases vs<;>cases us<;>cases cs<;>first | exact h.elim | skip
  rename_i v vs u us c cs;obtain⟨q0,q⟩:=h
  have:Y6 k (m::ms) (v::vs)=Y6 (k+1) ms vs∧Yau ms vs=[]:=by
   cases m with
   |mu=>
    simp only[Yau] at hn
    split at hn
    ·cases hn
    ·rename_i hh;exact⟨by simp only[Y6,hh],hn⟩
   |sh=>exact⟨rfl,hn⟩
   |mv=>exact⟨rfl,hn⟩
  rw[this.1,ih vs us cs (k+1) q this.2];simp;omega
theorem Ypy (I:Inv Z S C a w) {ms:List Md} {vs:List TV} {us:Array Value} {cs:List TV} {f:FuncId} {np:Nat} {out:Out} {p:Patch} (hargs:Ya6 tb Z S C w ms vs us.toList cs) (hl:Yau ms vs=[])
  (hC:Ycz P f ms cs out) (hnoSh:(Ygn ms vs).all TV.Ybm=true∨(out.res.all TV.noSh=true∧out.outs.all TV.noSh=true)) (hnp:∀ i,np≤i→Z.P i=none) (hgd:Yu S o.dst) (hd:∀ d,o.dst=some d→d<Z.nt)
  (hp:(Ya9 np o.dst [] [] out.res).run S=some p):Calls P f us w fun e w'=>∃ u,e=.returned u∧∃ C',Inv Z (S.ap p) C' (a.put o.dst u) w':=by
 have hlen:=hargs.len;simp only[Array.length_toList] at hlen
 have hMlt:∀ b,Mt Z C S.root noB b→b<w.heap.size:=by
  rintro b (⟨r,R,h1,h2⟩ | h | h)
  ·exact Yea I h1 h2
  ·exact h.elim
  ·have:=I.str.xb b h;have:=I.str.sz;omega
 have key:∀ X:Yd,(∀ b,X b→Mt Z C S.root noB b)→((Ygn ms vs).all TV.Ybm=true∨∀ b,¬ X b)→((∀ b,Mt Z C S.root noB b→X b)∨(out.res.all TV.noSh=true))→
   Calls P f us w fun e w'=>∃ u,e=.returned u∧∃ C',Inv Z (S.ap p) C' (a.put o.dst u) w':=by
  intro X hX hXs hcase
  have hix:Y6 0 ms vs=us.size:=by rw[Yoj ms vs us.toList cs 0 hargs hl];simp
  have hcn:cs[Y6 0 ms vs]? = none:=by rw[hix];exact List.getElem?_eq_none (by omega)
  have hinv:=Yin (w:=w) (Mz:=noB) (X:=X) (Kz:=fun _ _=>False) (cs:=cs) (us:=us) (k:=Y6 0 ms vs) (sk:=.reg [] 0) (Fo:=noB) (by omega)
   (Yk2 I (rl:=0) hargs (by rw[hl];exact kE _) (fun b h=>h.elim) hX (.inr (fun b h=>h)) hXs)
   ⟨fun b h=>h.elim,fun tv h=>absurd (hcn▸h) (by simp),fun c h=>absurd (hcn▸h) (by simp)⟩ (fun b hb=>hMlt b (hX b hb)) (fun b i h=>h.elim)
  refine(hC.calls _ _ us (by omega) rfl (fun i hi=>jM (by omega)) (fun i hi=>jL hi) hinv).mono ?_
  rintro e w' ⟨v,rfl,C2,G2,ρ2,Fr,J,_,hFr,hres,hrsh,_⟩;refine⟨v,rfl,?_⟩
  obtain⟨W,Wg⟩:=I.str.hand (w':=w') (G':=Fr) J.sz (fun b hb _=>J.old b hb (fun h=>h)) (fun b hb=>.inr (by
   obtain⟨h1,_,_,h2⟩:=J.gbnd b (hFr b hb)
   exact⟨h2.resolve_left (fun h=>h),h1⟩)) J.os J.tape J.output
  have hBr:Bk.roots ([],[]) S=S.root:=rfl
  have T:Yig Z S C w w' ([],[]) Fr C Dd.none:=⟨by rw[hBr];exact W.lf (fun _ _ h=>.inl h),by rw[hBr];exact Wg,fun _ _ h=>h.elim,fun _ _ h=>h.elim⟩
  refine Yk7 I T hres (fun _ h=>h) hrsh (fun c hc=>Ymq (List.all_eq_true.1 hrsh c hc) ?_) hnp hgd hd hp;rcases hcase with hcase | hcase
  ·left
   rintro b (⟨r,R,h1,h2⟩ | h | h)
   ·exact .inr (.inr (hcase b (.inl ⟨r,R,h1,h2⟩)))
   ·exact .inr (.inl (hFr b h))
   ·exact .inr (.inr (hcase b (.inr (.inr h))))
  ·exact .inr (List.all_eq_true.1 hcase c hc)
 rcases hnoSh with h | h
 ·exact key (Mt Z C S.root noB) (fun _ h=>h) (.inl h) (.inl fun _ h=>h)
 ·exact key noB (fun _ h=>h.elim) (.inr fun _ h=>h) (.inr h.1)
end
section
variable {a:Act}
variable {P:Program}
theorem Yqd:∀ (ms:List Md) (vs os:List TV) {o:TV},Yc8 ms vs os=some o→o∈os:=by
 intro ms
 induction ms with
 |nil=>intro vs os o h;cases vs<;>cases os<;>cases h
 |cons m ms ih=>
  intro vs os o h
  cases vs with
  |nil=>cases m<;>cases os<;>cases h
  |cons v vs=>
   cases m with
   |mu=>
    cases os with
    |nil=>cases h
    |cons x os=>
     simp only[Yc8] at h
     split at h
     ·cases h;exact jF
     ·exact jG _ (ih vs os h)
   |sh=>exact ih vs os (by cases os<;>exact h)
   |mv=>exact ih vs os (by cases os<;>exact h)
def Ybv (v:TV) (s':Src) (u:Value):Src:=match v with
 |.loc _ _=>s'
 |_=>.reg u.cells.toList 0
theorem Yjh (a b:TV):(Yal a b).isAgg=true∧(Yal a b).plain=true:=by
 rcases Y2 a b with e | ⟨_,_,_,_,_,_,_,_,_,e,_⟩<;>rw[e]<;>exact⟨rfl,rfl⟩
theorem Yoc:∀ (p:Path) {tv:TV} {s s':Src} {F:Yd},p.flat=true→nav w tv s p=some s'→Ya w M Lf tv s F→(∃ j,s'=s.sh j)∨False:=by
 intro p
 induction p with
 |nil=>intro tv s s' F _ h _;rw[Yf] at h;cases h;exact .inl ⟨0,(Src.Ydb s).symm⟩
 |cons a p ih=>
  intro tv s s' F hf h hr
  cases a with
  |el i=>simp[Path.flat] at hf
  |f1=>
   simp only[Path.flat] at hf
   cases tv with
   |pr x y=>obtain⟨F1,F2,r1,_⟩:=hr;exact ih hf h r1
   |cl o t z=>
    cases t with
    |pair t1 t2=>obtain⟨F1,F2,r1,_⟩:=hr;exact ih (tv:=.cl o t1 z.1) hf h r1
    |_=>simp[nav] at h
   |_=>simp[nav] at h
  |f2=>
   simp only[Path.flat] at hf
   cases tv with
   |pr x y=>
    obtain⟨F1,F2,r1,r2,_⟩:=hr;rcases ih hf h r2 with ⟨j,e⟩ | h
    ·exact .inl ⟨x.size+j,by rw[e,Src.Ygo]⟩
    ·exact h.elim
   |cl o t z=>
    cases t with
    |pair t1 t2=>
     obtain⟨F1,F2,r1,r2,_⟩:=hr;rcases ih (tv:=.cl o t2 z.2) hf h r2 with ⟨j,e⟩ | h
     ·exact .inl ⟨t1.size+j,by rw[e,Src.Ygo]⟩
     ·exact h.elim
    |_=>simp[nav] at h
   |_=>simp[nav] at h
theorem Ypz (I:Inv Z S C a w) (hargs:Ya6 tb Z S C w ms vs us.toList cs) (hvs:∀ (i:Nat) v u,vs[i]? = some v→us.toList[i]? = some u→VOk w (Mt Z C S.root noB) C.L S.root v u)
 (hl:Yau ms vs=[v]) (hat:Yeo v=some (r,q)) (hrd:r∉Yef ms vs) (hsh:cs.all TV.shut=true)
  (hC:Ycz P f ms cs out) (hnoSh:(Ygn ms vs).all TV.Ybm=true∨(out.res.all TV.noSh=true∧out.outs.all TV.noSh=true)) (hnp:∀ i,np≤i→Z.P i=none) (hgd:Yu S o.dst) (hd:∀ d,o.dst=some d→d<Z.nt)
 (hb:(back .none ms vs out.outs).run S=some B) (hp:(Ya9 np o.dst B.1 B.2 out.res).run S=some p):Calls P f us w fun e w'=>∃ u,e=.returned u∧∃ C',Inv Z (S.ap p) C' (a.put o.dst u) w':=by
 have hlen:=hargs.len;simp only[Array.length_toList] at hlen
 have hMlt:∀ b,Mt Z C S.root noB b→b<w.heap.size:=by
  rintro b (⟨r,R,h1,h2⟩ | h | h)
  ·exact Yea I h1 h2
  ·exact h.elim
  ·have:=I.str.xb b h;have:=I.str.sz;omega
 have hfind:∃ k u c t,Y6 0 ms vs=k∧us.toList[k]? = some u∧vs[k]? = some v∧cs[k]? = some c∧(Yb7 tb t v).run S=some c∧
   ∀ (ρ:Yc) os,Ybg ρ 0 ms os→∃ R,ρ k=some R∧Yc8 ms vs os=some R.out:=by
  have h0:∀ (ms:List Md) (j:Nat),∃ os,Ybg (fun _=>some ⟨.reg,.dead 0⟩) j ms os:=by
   intro ms
   induction ms with
   |nil=>intro j;exact⟨[],trivial⟩
   |cons m ms ih=>
    intro j;obtain⟨os,h⟩:=ih (j+1)
    cases m with
    |mu=>exact⟨_::os,⟨_,rfl,rfl⟩,h⟩
    |sh=>exact⟨os,by cases os<;>exact h⟩
    |mv=>exact⟨os,by cases os<;>exact h⟩
  obtain⟨os0,ho0⟩:=h0 ms 0;rcases Ya6.Yen 0 hargs _ os0 ho0 with ⟨h,_⟩ | ⟨v',rest,k,h1,h2,u,c,t,R,h3,h4,h5,h6,_,_⟩
  ·rw[hl] at h;cases h
  ·rw[hl] at h1;cases h1
   rw[jJ] at h2;refine⟨k,u,c,t,h2,h3,h4,h5,h6,fun ρ os ho=>?_⟩;rcases Ya6.Yen 0 hargs ρ os ho with ⟨h,_⟩ | ⟨v',rest,k',g1,g2,u',c',t',R',_,_,_,_,g7,g8⟩
   ·rw[hl] at h;cases h
   ·rw[jJ] at g2 g7
    rw[h2] at g2;subst g2;exact⟨R',g7,g8⟩
 obtain⟨k,u,c,t,hk,hu,hv,hck,hlend,houts⟩:=hfind
 have hvl:v.Ycw=true:=by
  cases v with
  |cl o t x=>cases hat
  |nl=>cases hat
  |pr x y=>
   cases hh:Ya7 (.pr x y) with
   |some rp=>exact Yi7 _ hh
   |none=>simp only[Yeo,hh] at hat;cases hat
  |_=>rfl
 have hukd:us.getD k undef=u:=by rw[Array.getElem?_toList] at hu;simp[kU,hu]
 have hVu:=hvs k v u hv hu;obtain⟨R,s',old,hR,hnav,hget,hform⟩:=Yok I hVu hvl hlend hat;have hcsh:c.shut=true:=List.all_eq_true.1 hsh c (List.mem_of_getElem? hck)
 obtain⟨oo,n,ks',tv',hoo,hn,hlay,hset,rfl⟩:∃ oo n ks' tv',Yc8 ms vs out.outs=some oo∧Yhi v old oo=some (n,ks')∧n.lay=old.lay∧R.tv.set q n=some tv'∧B=([(r,some ⟨R.k,tv'⟩)],ks'):=by
  unfold back at hb;rw[hl] at hb;simp only[hat] at hb
  cases hoo:Yc8 ms vs out.outs with
  |none=>rw[hoo] at hb;cases hb
  |some oo=>
   rw[hoo] at hb;simp only[RD.run,hR,hget] at hb
   cases hn:Yhi v old oo with
   |none=>rw[hn] at hb;cases hb
   |some nk=>
    obtain⟨n,ks'⟩:=nk;rw[hn] at hb;simp only at hb
    split at hb
    ·split at hb
     ·simp only[RD.run,jD] at hb
      exact⟨oo,n,ks',_,rfl,hn,by assumption,by assumption,by rw[←hb];simp[Yp.none]⟩
     ·cases hb
    ·cases hb
 obtain⟨Fo,Fr,b1,b2,d1,ro,hloc,hly,hput⟩:=I.str.Yw4 hR hnav hget hset hlay;have hFo:∀ b,Fo b→b<w.heap.size∧(∀ i,¬ Z.K b i)∧¬ Z.X b∧(Z.M b∨Z.w.heap.size≤b):=fun b hb=>I.str.bnd r R b hR (b1 b hb)
 have hblk:∀ b0 off0,s'=.mem b0 off0→v=.loc r q→Tot C r R b0∧¬ Fo b0:=by
  intro b0 off0 e _;rcases hloc with ⟨j,e',_⟩ | ⟨b3,o3,e',hf⟩
  ·rw[e] at e'
   obtain⟨o',e1,_⟩:=Src.Yat e'.symm
   cases hkk:R.k with
   |reg=>obtain⟨cs,e2⟩:=I.str.reg r R hR hkk;rw[e1] at e2;cases e2
   |mem=>
    obtain⟨b',off',e2,h3,_⟩:=I.str.mem r R hR hkk;rw[e1] at e2;cases e2;exact⟨.inr ⟨hkk,o',e1⟩,fun h=>h3 (b1 _ h)⟩
  ·rw[e] at e';cases e';exact⟨.inl (b2 _ hf),fun h=>d1 _ h hf⟩
 generalize hMz:(fun b=>Fo b∨(v=.loc r q∧∃ off,s'=.mem b off):Yd)=Mz
 have hMzT:∀ b,Mz b→Tot C r R b:=by
  intro b hb;rw[←hMz] at hb;rcases hb with hb | ⟨h1,off,h2⟩
  ·exact .inl (b1 b hb)
  ·exact(hblk b off h2 h1).1
 have hMzM:∀ b,Mz b→Mt Z C S.root noB b:=fun b hb=>.inl ⟨r,R,hR,hMzT b hb⟩;generalize hKz:(fun b i=>v=.loc r q∧∃ off,s'=.mem b off∧(i<off∨off+old.size≤i):Nat→Nat→Prop)=Kz
 have key:∀ X:Yd,(∀ b,X b→Mt Z C S.root noB b∧¬ Mz b)→((Ygn ms vs).all TV.Ybm=true∨∀ b,¬ X b)→((∀ b,Mt Z C S.root noB b→¬ Mz b→X b)∨(out.res.all TV.noSh=true∧out.outs.all TV.noSh=true))→
   Calls P f us w fun e w'=>∃ u,e=.returned u∧∃ C',Inv Z (S.ap p) C' (a.put o.dst u) w':=by
  intro X hX hXs hcase
  have hroom:∀ b off,s'=.mem b off→Room w b off old.size:=by
   intro b off e
   have hr0:Yei w (C.L r) R.tv.size:=by
    cases hk:R.k with
    |reg=>obtain⟨x,e⟩:=I.str.reg r R hR hk;rw[e];trivial
    |mem=>obtain⟨b',off',e,_,_,h,_⟩:=I.str.mem r R hR hk;rw[e];exact h
   exact Ymd q (I.str.rep r R hR) (by rw[hnav,e]) hget hset hr0
  have hsubM:∀ M':Yd,Ye M' (fun b=>Mz b∨X b)→Ye M' (Mt Z C S.root noB):=fun M' hm b hb=>(hm b hb).elim (hMzM b) (fun h=>(hX b h).1);have hplainc:(∀ tv,c≠.op tv)→c.plain=true∨True:=fun _=>.inr trivial
  have hinv:=Yin (w:=w) (Mz:=Mz) (X:=X) (Kz:=Kz) (cs:=cs) (us:=us) (k:=Y6 0 ms vs) (sk:=Ybv v s' u) (Fo:=Fo) (by omega)
   (Yk2 I (rl:=r) hargs (by rw[hl];exact jB _) (fun b hb=>⟨hMzM b hb,R,hR,hMzT b hb⟩) (fun b hb=>(hX b hb).1) (.inl hrd) hXs)
   (by
    rw[hk]
    refine⟨fun b hb=>⟨by rw[←hMz];exact .inl hb,(hFo b hb).1,fun i hi=>?_,fun hx=>(hX b hx).2 (by rw[←hMz];exact .inl hb)⟩,fun tv h=>?_,fun c' h hop=>?_⟩
    ·rw[←hKz] at hi;obtain⟨h1,off,h2,_⟩:=hi;exact(hblk b off h2 h1).2 hb
    ·rw[hck] at h;cases h
     rcases hform with ⟨rfl,hf,e1,b,off,e2,e3⟩ | ⟨rfl,rfl,hrow,_⟩ | ⟨x,y,rfl,hH⟩
     ·cases e1
      obtain⟨k1,k2⟩:=hblk b off e2 rfl
      refine⟨b,off,e2,by rw[hukd];exact e3,k2,Yea I hR k1,hroom b off e2,by rw[←hMz];exact .inr ⟨rfl,off,e2⟩,fun i hi=>?_,fun hx=>(hX b hx).2 (by rw[←hMz];exact .inr ⟨rfl,off,e2⟩),fun M' L ρ hm=>?_⟩
      ·rw[←hKz];rintro⟨_,off',e4,h5⟩;rw[e2] at e4;cases e4;omega
      ·exact Ya.shut (hsubM M' hm) (fun v u hv hl=>Yi.shut (hsubM M' hm) hv hl) hcsh ro
     ·obtain⟨_,_,_,e,_⟩:=Yf5 hrow;cases e
     ·exact absurd rfl ((Yku (Lf:=Yi w (Mt Z C S.root noB) C.L S.root) hR _ hH hnav hget ro (hVu.rep (fun l e=>by cases e)).1).2.2.2 tv)
    ·rw[hck] at h;cases h
     rcases hform with ⟨rfl,hf,rfl,_⟩ | ⟨rfl,rfl,hrow,hcell,A,nn,cc,hu'⟩ | ⟨x,y,rfl,hH⟩
     ·exact absurd rfl (hop _)
     ·obtain⟨ow,e,xs,rfl,how⟩:=Yf5 hrow
      rw[hukd]
      refine⟨rfl,by rw[hu'];rfl,by rw[hu'];exact⟨fun h=>(by cases h),fun⟨_,h⟩=>(by cases h)⟩,rfl,fun M' L ρ hm=>?_⟩
      have h1:Rep w (Mt Z C S.root noB) (.sl e) ow xs (.reg u.cells.toList 0) Fo:=Rep.mv ro (fun i hi=>by
       have:i=0:=by simp[Ty.size] at hi;exact hi
       subst this;rw[hcell,hu'];rfl)
      exact Ya.mono (Lf:=Yi w M' L ρ) (tv:=.cl ow (.sl e) xs) h1 (hsubM M' hm)
     ·obtain⟨r1,r2,_,_⟩:=Yku (Lf:=Yi w (Mt Z C S.root noB) C.L S.root) hR _ hH hnav hget ro (hVu.rep (fun l e=>by cases e)).1
      have hv2:=hVu.val (fun l e=>by cases e)
      rw[hukd]
      have hagg:c.isAgg=true∧c.plain=true:=by
       simp only[Ycv] at hH
       split at hH
       ·split at hH
        ·cases hH
         exact Yjh _ _
        ·cases hH
       ·cases hH
      refine⟨rfl,by rw[r2];exact hv2.2.1,by rw[hagg.1];have:=hv2.2.2;simpa [TV.isAgg] using this,hagg.2,fun M' L ρ hm=>?_⟩
      exact Ya.shut (hsubM M' hm) (fun v u hv hl=>Yi.shut (hsubM M' hm) hv (hl.elim id id)) hcsh r1)
   (fun b hb=>hMlt b (hX b hb).1) (fun b i hb=>by rw[←hKz] at hb;obtain⟨h1,off,h2,_⟩:=hb;exact Yea I hR (hblk b off h2 h1).1)
  refine(hC.calls _ _ us (by omega) rfl (fun i hi=>jM (by omega)) (fun i hi=>jL hi) hinv).mono ?_
  rintro e w' ⟨vr,rfl,C2,G2,ρ2,Fres,J,hO,hFr,hres,hrsh,hosh⟩;refine⟨vr,rfl,?_⟩;obtain⟨R2,hR2,hlo⟩:=houts ρ2 out.outs hO;rw[hoo] at hlo;have hoo':oo=R2.out:=jN hlo
  have hkz:k<us.size:=by
   rcases kG k us.size with h | h
   ·exact h
   ·rw[Array.getElem?_toList,Array.getElem?_eq_none h] at hu;cases hu
  have hL2:C2.L k=Ybv v s' u:=(J.plc k R2 hR2).1 _ (by show(if k<us.size then _ else _)=_;rw[jL hkz,jL hk.symm])
  have hsame:∀ b,b<w.heap.size→¬ Mz b→Same w w' b:=fun b hb hm=>J.old b hb hm
  have hFn:∀ b,C2.F k b→(noB b∨Fo b∨w.heap.size≤b)∧b<w'.heap.size:=by
   intro b hb;obtain⟨h1,_,_,h2⟩:=J.bnd k R2 b hR2 hb;refine⟨.inr ?_,h1⟩;rcases h2 with h2 | h2
   ·left
    have h2:Mz b:=h2;rw[←hMz] at h2;rcases h2 with h2 | ⟨e1,off,e2⟩
    ·exact h2
    ·exfalso
     subst e1
     cases hkk:R2.k with
     |reg=>obtain⟨cs',e3⟩:=J.reg k R2 hR2 hkk;rw[hL2] at e3;simp only[Ybv] at e3;rw[e2] at e3;cases e3
     |mem=>obtain⟨b',off',e3,h4,_⟩:=J.mem k R2 hR2 hkk;rw[hL2] at e3;simp only[Ybv] at e3;rw[e2] at e3;cases e3;exact h4 hb
   ·exact .inr h2
  have hG2:∀ b,G2 b→(noB b∨Fo b∨w.heap.size≤b)∧b<w'.heap.size:=by
   intro b hb;obtain⟨h1,_,_,h2⟩:=J.gbnd b hb;refine⟨.inr ?_,h1⟩;rcases h2 with h2 | h2
   ·left
    have h2:Mz b:=h2;rw[←hMz] at h2;rcases h2 with h2 | ⟨e1,off,e2⟩
    ·exact h2
    ·exfalso
     subst e1
     cases hkk:R2.k with
     |reg=>obtain⟨cs',e3⟩:=J.reg k R2 hR2 hkk;rw[hL2] at e3;simp only[Ybv] at e3;rw[e2] at e3;cases e3
     |mem=>exact J.gdis k R2 hR2 b (.inr ⟨hkk,off,by rw[hL2];exact e2⟩) hb
   ·exact .inr h2
  have hRsz:v=.loc r q→R2.tv.size=old.size:=by
   rintro rfl
   cases hkk:R2.k with
   |reg=>
    exfalso;rcases hform with ⟨_,_,_,b,off,e2,_⟩ | ⟨e,_⟩ | ⟨_,_,e,_⟩
    ·obtain⟨cs',e3⟩:=J.reg k R2 hR2 hkk;rw[hL2] at e3;simp only[Ybv] at e3;rw[e2] at e3;cases e3
    ·cases e
    ·cases e
   |mem=>
    rw[hoo'] at hn;simp only[Root.out,hkk,Yhi,jD,jV] at hn;rw[hn.1,TV.Yak hlay]
  have hwr:Wr2 w w' s' old.size (fun b=>noB b∨Fo b):=by
   refine⟨J.sz,fun b hb hnf=>?_⟩;have hnf:¬ Fo b:=fun h=>hnf (.inr h)
   by_cases hm:Mz b
   ·rw[←hMz] at hm
    rcases hm with hm | ⟨e1,off,e2⟩
    ·exact absurd hm hnf
    ·have hK:∀ i,(i<off∨off+old.size≤i)→Kz b i:=fun i hi=>by rw[←hKz];exact⟨e1,off,e2,hi⟩
     rw[e2];simp only[Kp,if_true];have hout:∀ i,(i<off∨off+old.size≤i)→w'.cell? ⟨b,i,none⟩=w.cell? ⟨b,i,none⟩:=fun i hi=>J.kp b i (hK i hi);refine⟨hout,fun i=>J.kf b (off+old.size) i (hK _ (.inr (jB _))),fun i hi=>?_⟩
     by_cases hin:i<off∨off+old.size≤i
     ·rw[hout i hin];exact hi
     ·have hL2':C2.L k=.mem b off:=by rw[hL2,e1];exact e2
      have hkk:R2.k=.mem:=by
       cases hkk:R2.k with
       |reg=>obtain⟨cs',e3⟩:=J.reg k R2 hR2 hkk;rw[hL2'] at e3;cases e3
       |mem=>rfl
      obtain⟨b',off',e3,_,_,h4,_⟩:=J.mem k R2 hR2 hkk;rw[hL2'] at e3;cases e3
      have:=(h4 (i-off) (by rw[hRsz e1];omega)).1
      rwa [show off+(i-off)=i by omega] at this
   ·exact Kp.Yu4 (hsame b hb hm)
  generalize hCf:C.Ydj r (fun b=>Fr b∨C2.F k b)=Cf
  have hBr:Bk.roots ([(r,some ⟨R.k,tv'⟩)],ks') S=Yc.set S.root r (some ⟨R.k,tv'⟩):=by
   funext i
   unfold Bk.roots Yc.set
   by_cases e:i=r
   ·subst e;rw[Yl,jL rfl]
   ·rw[Yv e,jM e];rfl
  generalize hMf:Mt Z Cf (Yc.set S.root r (some ⟨R.k,tv'⟩)) Fres=Mf
  have hMfM:∀ b,Mf b→Mt Z C S.root noB b∨w.heap.size≤b:=by
   intro b hb;rw[←hMf] at hb;rcases hb with ⟨i,R',h1,h2⟩ | h | h
   ·by_cases e:i=r
    ·subst e;rw[Yc.Yo] at h1;cases h1
     rcases h2 with h2 | ⟨hk2,off,h2⟩
     ·rw[←hCf] at h2;simp only[Cx.Ydj,if_true] at h2
      rcases h2 with h2 | h2
      ·exact .inl (.inl ⟨i,R,hR,.inl (b2 b h2)⟩)
      ·rcases(hFn b h2).1 with h | h | h
       ·exact h.elim
       ·exact .inl (.inl ⟨i,R,hR,.inl (b1 b h)⟩)
       ·exact .inr h
     ·rw[←hCf] at h2;exact .inl (.inl ⟨i,R,hR,.inr ⟨hk2,off,h2⟩⟩)
    ·rw[Yc.Yn _ _ e] at h1
     refine .inl (.inl ⟨i,R',h1,?_⟩);unfold Tot at h2;rw[←hCf] at h2;simp only[Cx.Ydj,jM e] at h2;exact h2
   ·rcases(hG2 b (hFr b h)).1 with h | h | h
    ·exact h.elim
    ·exact .inl (.inl ⟨r,R,hR,.inl (b1 b h)⟩)
    ·exact .inr h
   ·exact .inl (.inr (.inr h))
  have hMfM2:(∀ b,Mt Z C S.root noB b→¬ Mz b→X b)→Ye Mf (Mt ⟨w,Mz,Kz,X,fun i=>if i<us.size then some (if i=Y6 0 ms vs then Ybv v s' u else .reg (us.getD i undef).cells.toList 0) else none,us.size⟩ C2 ρ2 G2):=by
   intro hcase b hb
   have viaX:Mt Z C S.root noB b→¬ Mz b→Mt ⟨w,Mz,Kz,X,fun i=>if i<us.size then some (if i=Y6 0 ms vs then Ybv v s' u else .reg (us.getD i undef).cells.toList 0) else none,us.size⟩ C2 ρ2 G2 b:=fun h1 h2=>.inr (.inr (hcase b h1 h2))
   rw[←hMf] at hb;rcases hb with ⟨i,R',h1,h2⟩ | h | h
   ·by_cases e:i=r
    ·subst e;rw[Yc.Yo] at h1;cases h1
     rcases h2 with h2 | ⟨hk2,off,h2⟩
     ·rw[←hCf] at h2;simp only[Cx.Ydj,if_true] at h2
      rcases h2 with h2 | h2
      ·refine viaX (.inl ⟨i,R,hR,.inl (b2 b h2)⟩) (fun hm=>?_)
       rw[←hMz] at hm;rcases hm with hm | ⟨e1,off,e2⟩
       ·exact d1 b hm h2
       ·
        rcases hform with ⟨_,hf,_,b',off',e3,_⟩ | ⟨e,_⟩ | ⟨_,_,e,_⟩
        ·rcases hloc with ⟨j,e',_⟩ | ⟨b3,o3,e',hf3⟩
         ·rw[e2] at e'
          obtain⟨o',e5,_⟩:=Src.Yat e'.symm
          cases hkk:R.k with
          |reg=>obtain⟨cs,e6⟩:=I.str.reg i R hR hkk;rw[e5] at e6;cases e6
          |mem=>obtain⟨b'',off'',e6,h7,_⟩:=I.str.mem i R hR hkk;rw[e5] at e6;cases e6;exact h7 (b2 _ h2)
         ·exact(Yoc (Lf:=Yi w (Mt Z C S.root noB) C.L S.root) q hf hnav (I.str.rep i R hR)).elim (fun⟨j,h⟩=>by
           rw[e2] at h;obtain⟨o',e5,_⟩:=Src.Yat h.symm
           cases hkk:R.k with
           |reg=>obtain⟨cs,e6⟩:=I.str.reg i R hR hkk;rw[e5] at e6;cases e6
           |mem=>obtain⟨b'',off'',e6,h7,_⟩:=I.str.mem i R hR hkk;rw[e5] at e6;cases e6;exact h7 (b2 _ h2)) id
        ·rw[e1] at e;cases e
        ·rw[e1] at e;cases e
      ·exact .inl ⟨k,R2,hR2,.inl h2⟩
     ·rw[←hCf] at h2
      have h2:C.L i=.mem b off:=h2
      by_cases hm:Mz b
      ·have hm':=hm
       rw[←hMz] at hm';rcases hm' with hm' | ⟨e1,off',e2⟩
       ·exact absurd (b1 b hm') (by obtain⟨b'',off'',e6,h7,_⟩:=I.str.mem i R hR hk2;rw[h2] at e6;cases e6;exact h7)
       ·refine .inl ⟨k,R2,hR2,.inr ⟨?_,off',by rw[hL2,e1];exact e2⟩⟩
        cases hkk:R2.k with
        |reg=>obtain⟨cs',e3⟩:=J.reg k R2 hR2 hkk;rw[hL2,e1] at e3;rw[show Ybv (TV.loc i q) s' u=s' from rfl,e2] at e3;cases e3
        |mem=>rfl
      ·exact viaX (.inl ⟨i,R,hR,.inr ⟨hk2,off,h2⟩⟩) hm
    ·rw[Yc.Yn _ _ e] at h1
     have h2:Tot C i R' b:=by unfold Tot at h2;rw[←hCf] at h2;simp only[Cx.Ydj,jM e] at h2;exact h2
     exact viaX (.inl ⟨i,R',h1,h2⟩) (fun hm=>I.str.dis i r R' R e h1 hR b h2 (hMzT b hm))
   ·exact .inr (.inl (hFr b h))
   ·exact viaX (.inr (.inr h)) (fun hm=>by
     rcases hMzT b hm with h' | ⟨hk2,off,h'⟩
     ·exact(I.str.bnd r R b hR h').2.2.1 h
     ·obtain⟨b'',off'',e6,_,_,_,_,h7,_⟩:=I.str.mem r R hR hk2;rw[h'] at e6;cases e6;exact h7 h)
  have hgoes:Goes w w' (Mt Z C S.root noB) Mf noB:=⟨J.sz,fun b hb=>hb.elim,fun b h1 h2=>⟨hsame b h2 (fun hm=>h1 (hMzM b hm)),fun hf=>(hMfM b hf).elim h1 (fun h=>by omega)⟩⟩
  have hoomem:oo∈out.outs:=Yqd ms vs out.outs hoo
  have hoosh:R2.tv.Yb4=true:=by
   have h1:=List.all_eq_true.1 hosh oo hoomem;rw[hoo'] at h1;unfold Root.out at h1
   split at h1
   ·exact h1
   ·exact h1
  have hoonsh:out.outs.all TV.noSh=true→R2.tv.noSh=true:=by
   intro h;have h1:=List.all_eq_true.1 h oo hoomem;rw[hoo'] at h1;unfold Root.out at h1
   split at h1<;>exact h1
  have hq2:Ya w' Mf (fun v u=>Yi w (Mt Z C S.root noB) C.L S.root v u∨Q0 Z S w' ([(r,some ⟨R.k,tv'⟩)],ks') Fres Cf v u) R2.tv (C2.L k) (C2.F k):=by
   have h1:=Yq9 (w':=w') (Mf:=Mf) hoosh (hcase.imp hMfM2 (fun h=>hoonsh h.2)) Mf (fun _ h=>h) Cf.L (Yc.set S.root r (some ⟨R.k,tv'⟩)) _ _ (J.rep k R2 hR2)
   exact Ya.Yb4 (fun _ h=>h) Yi.noop (fun v u hv hl=>.inr ⟨hv,by rw[hBr,hMf];exact hl⟩) hoosh h1
  have hcells:(∀ r' q',v≠.loc r' q')→∀ i,s'.cell w' i=s'.cell w i:=by
   intro hv i
   cases hs':s' with
   |reg cs off=>rfl
   |mem b off=>
    have hb:b<w.heap.size∧¬ Fo b:=by
     rcases hloc with ⟨j,e',_⟩ | ⟨b3,o3,e',hf⟩
     ·rw[hs'] at e'
      obtain⟨o',e1,_⟩:=Src.Yat e'.symm
      cases hkk:R.k with
      |reg=>obtain⟨cs,e2⟩:=I.str.reg r R hR hkk;rw[e1] at e2;cases e2
      |mem=>
       obtain⟨b',off',e2,h3,h4,_⟩:=I.str.mem r R hR hkk;rw[e1] at e2;cases e2;exact⟨h4,fun h=>h3 (b1 _ h)⟩
     ·rw[hs'] at e';cases e';exact⟨(I.str.bnd r R _ hR (b2 _ hf)).1,fun h=>d1 _ h hf⟩
    exact Same.cell (hsame b hb.1 (fun hm=>by
     rw[←hMz] at hm;rcases hm with hm | ⟨e,_⟩
     ·exact hb.2 hm
     ·exact hv _ _ e)) _
  have hN:Ya w' Mf (fun v u=>Yi w (Mt Z C S.root noB) C.L S.root v u∨Q0 Z S w' ([(r,some ⟨R.k,tv'⟩)],ks') Fres Cf v u) n s' (C2.F k)∧Yfg w w' old n s' r q ks':=by
   rcases hform with ⟨rfl,hf,e1,b,off,e2,e3⟩ | ⟨rfl,rfl,hrow,hcell,A,nn,cc,hu'⟩ | ⟨x,y,rfl,hH⟩
   ·rw[hoo'] at hn
    cases hkk:R2.k with
    |reg=>obtain⟨cs',e3⟩:=J.reg k R2 hR2 hkk;rw[hL2] at e3;simp only[Ybv] at e3;rw[e2] at e3;cases e3
    |mem=>
     simp only[Root.out,hkk,Yhi,jD,jV] at hn;obtain⟨rfl,rfl⟩:=hn
     refine⟨by rw[hL2] at hq2;exact hq2,fun t b off hd hn=>?_,fun t s1 hd=>absurd ⟨_,List.mem_singleton.2 rfl,rfl,Path.Yie q t⟩ hd⟩
     have hft:Path.flat t=true:=by
      cases hh:Path.flat t with
      |true=>rfl
      |false=>exact absurd ⟨_,List.mem_singleton.2 rfl,rfl,by show Path.far _ _=true;rw[Path.Yh9,hh];rfl⟩ hd
     exact Yl5 t hft hlay.symm hn
   ·have hcl:=hcells (by simp)
    obtain⟨ow,e,xs,rfl,how⟩:=Yf5 hrow
    have hbk:(∃ ys o2,oo=.cl o2 (.sl e) ys∧n=oo∧ks'=[(r,some (q++[.el 0]))])∨(n=.dead 1∧ks'=[(r,some (q++[.el 0])),(r,some q)]):=by
     cases oo with
     |dead m=>
      simp only[Yhi] at hn
      cases hbh:Yc1 (.seg r q) (.cl ow (.sl e) xs) (.dead m) with
      |none=>rw[hbh] at hn;cases hn
      |some n'=>
       rw[hbh] at hn;simp only[jD,jV] at hn;obtain⟨rfl,rfl⟩:=hn
       by_cases hm1:m=1
       ·subst hm1
        cases hbh;exact .inr ⟨rfl,rfl⟩
       ·exfalso
        match m,hm1,hbh with
        |0,_,h=>cases h
        |k+2,_,h=>cases h
     |cl o2 t2 ys=>
      simp only[Yhi] at hn
      cases hbh:Yc1 (.seg r q) (.cl ow (.sl e) xs) (.cl o2 t2 ys) with
      |none=>rw[hbh] at hn;cases hn
      |some n'=>
       rw[hbh] at hn;simp only[jD,jV] at hn;obtain⟨rfl,rfl⟩:=hn
       cases t2 with
       |sl e2=>
        simp only[Yc1] at hbh
        split at hbh
        ·have he:e2=e:=by assumption
         subst he;cases hbh;exact .inl ⟨ys,o2,rfl,rfl,rfl⟩
        ·cases hbh
       |_=>cases hbh
     |_=>cases hn
    rcases hbk with ⟨ys,o2,rfl,rfl,rfl⟩ | ⟨rfl,rfl⟩
    case inr=>exact⟨trivial,Ykl.mono (fun k hk=>jG _ hk)⟩
    have htv:R2.tv=.cl o2 (.sl e) ys∧C2.L k=.reg u.cells.toList 0:=by
     refine⟨?_,hL2⟩;unfold Root.out at hoo'
     split at hoo'
     ·cases hoo'
     ·exact hoo'.symm
    rw[htv.1,htv.2] at hq2
    have hlen:ys.length=xs.length:=by
     obtain⟨A1,c1,q1,_⟩:=(ro:Rep _ _ (.sl _) _ _ _ _);obtain⟨A2,c2,q2,_⟩:=(hq2:Rep _ _ (.sl _) _ _ _ _);rw[hcell,hu'] at q1;rw[hu'] at q2;have q2:some (Value.slice A nn cc)=some (Value.slice A2 ys.length c2):=q2;rw[q1] at q2;have:=jN q2
     injection this with _ h _
     exact h.symm
    refine⟨Rep.mv (t:=.sl e) hq2 (fun i hi=>?_),Yni (hcl 0) hlen⟩
    have:i=0:=by simp[Ty.size] at hi;exact hi
    subst this;rw[hcl 0,hcell,hu'];rfl
   ·have hcl:=hcells (by simp)
    have hbk:∃ n',Yc1 (.pr x y) old R2.tv=some n'∧n=n'∧ks'=Yhe (.pr x y)++Yfb (.pr x y) R2.tv∧C2.L k=.reg u.cells.toList 0:=by
     cases hkk:R2.k with
     |mem=>
      rw[hoo'] at hn;simp only[Root.out,hkk,Yhi,Yc1,TV.fst,TV.snd] at hn
      split at hn
      ·rename_i h;split at h
       ·rename_i h1 _;cases h1
       ·cases h
      ·cases hn
     |reg=>
      rw[hoo'] at hn;simp only[Root.out,hkk] at hn
      have hn':(match Yc1 (.pr x y) old R2.tv with | some n=>some (n,Yhe (.pr x y)++Yfb (.pr x y) R2.tv) | none=>none)=some (n,ks'):=by
       cases hx:R2.tv<;>rw[hx] at hn<;>exact hn
      cases hbh:Yc1 (.pr x y) old R2.tv with
      |none=>rw[hbh] at hn';cases hn'
      |some n'=>
       rw[hbh] at hn';simp only[jD,jV] at hn';exact⟨n',rfl,hn'.1.symm,hn'.2.symm,hL2⟩
    obtain⟨n',hbh,rfl,rfl,hLk⟩:=hbk;rw[hLk] at hq2
    obtain⟨k1,_,_,_,_,k2⟩:=Ypx (Lf:=Yi w (Mt Z C S.root noB) C.L S.root) hR hgoes _ hH hbh hnav hget ro (hVu.rep (fun l e=>by cases e)).1 hq2 (fun i _=>hcl i)
    exact⟨k1,k2⟩
  obtain⟨W,Wg⟩:=hput (fun v u=>Yi w (Mt Z C S.root noB) C.L S.root v u∨Q0 Z S w' ([(r,some ⟨R.k,tv'⟩)],ks') Fres Cf v u) (fun _ _ h=>.inl h) w' (C2.F k) Fres (ddK ks') hwr (by rw[hCf,hMf];exact hN.1) hFn
   (fun b hb=>⟨hG2 b (hFr b hb),fun hf=>J.gdis k R2 hR2 b (.inl hf) (hFr b hb)⟩) J.os J.tape J.output (fun t b off hd hn=>hN.2.l t b off hd hn) (fun t s1 hd hn o e xs hg=>hN.2.s t s1 hd hn o e xs hg)
  rw[hCf] at W Wg
  have T:Yig Z S C w w' ([(r,some ⟨R.k,tv'⟩)],ks') Fres Cf (ddK ks'):=⟨by rw[hBr];exact W,by rw[hBr,show Cf.L=C.L by rw[←hCf];rfl];exact Wg,fun _ _ h=>h,fun _ _ h=>h⟩
  refine Yk7 I T hres (fun _ h=>h) hrsh (fun c hc=>Ymq (List.all_eq_true.1 hrsh c hc) ?_) hnp hgd hd hp;rw[hBr,hMf];exact hcase.imp hMfM2 (fun h=>List.all_eq_true.1 h.1 c hc)
 rcases hnoSh with h | h
 ·exact key (fun b=>Mt Z C S.root noB b∧¬ Mz b) (fun b h=>h) (.inl h) (.inl fun b h1 h2=>⟨h1,h2⟩)
 ·exact key noB (fun _ h=>h.elim) (.inr fun _ h=>h) (.inr h)
end
section
variable {a:Act}
variable {P:Program}
theorem Yn1
  (h:(Ypb tb np Mo cd g o f args ats).run S=some (.call cd' f' cs post)) :
  cd'=cd∧∃ c vs ms,(opv g f).run S=some (.clo f' c)∧(Yql g args).run S=some vs∧Mo f'=some ms∧∃ K,(Yfh tb .none ats ms (vs++unchain c)).run S=some (cs,K)∧Yn0 K ms (vs++unchain c)=true∧cs.all TV.shut=true∧
   ∀ out p,(post out).run S=some p→((Ygn ms (vs++unchain c)).all TV.Ybm=true∨(out.res.all TV.noSh=true∧out.outs.all TV.noSh=true))∧∃ B,(back K ms (vs++unchain c) out.outs).run S=some B∧(Ya9 np o.dst B.1 B.2 out.res).run S=some p:=by
 simp only[Ypb] at h;replace h:=RD.bind_some h;obtain⟨vf,h1,h⟩:=h
 cases vf with
 |clo f0 c=>
  simp only at h;replace h:=RD.bind_some h;obtain⟨vs,h2,h⟩:=h
  split at h
  ·rename_i ms hms
   replace h:=RD.bind_some h;obtain⟨⟨cs',K⟩,h3,h⟩:=h;simp only at h
   split at h
   ·cases h
   ·rename_i hok
    simp only[jC] at hok;cases h;refine⟨rfl,c,vs,ms,h1,h2,hms,K,h3,hok.1,hok.2,fun out p hp=>?_⟩
    dsimp only at hp
    split at hp
    ·rename_i hh
     replace hp:=RD.bind_some hp;obtain⟨B,h4,hp⟩:=hp
     exact⟨by simpa [Bool.or_eq_true,jC] using hh,B,h4,hp⟩
    ·cases hp
  ·cases h
 |_=>cases h
theorem Yn2 (I:Inv Z S C a w) (hg:Yax a g) (ho:o.op=.call ⟨.value f,args,ats⟩)
  (hnp:∀ i,np≤i→Z.P i=none) (hgd:Yu S o.dst) (hd:∀ d,o.dst=some d→d<Z.nt)
  (h:(Ypb tb np Mo cd g o f args.toList ats.toList).run S=some (.call cd' f' cs post)) (hms:Mo f'=some ms) (hC:Ycz P f' ms cs out) (hp:(post out).run S=some p) :
  ∃ us,(execOp a.eval o).run P w=.ok (.enter f' us) w∧Calls P f' us w fun e w'=>∃ u,e=.returned u∧∃ C',Inv Z (S.ap p) C' (a.put o.dst u) w':=by
 obtain⟨_,c,vs,ms',h1,h2,hms',K,h3,hok,hsh,hpost⟩:=Yn1 h;rw[hms] at hms';cases hms';obtain⟨hnoSh,B,hb,hp'⟩:=hpost out p hp;obtain⟨caps,hf,hcaps⟩:Yi w (Mt Z C S.root noB) C.L S.root (.clo f' c) (a.eval f):=((Yg I hg h1):Yb _ _ _ _ _ _).leaf rfl;obtain⟨v1,v2⟩:=Yot I hg args.toList h2;obtain⟨c1,c2⟩:=Ykb c hcaps;obtain⟨fn,f1,f2,f3⟩:=hC.there
 have hvs:∀ (i:Nat) v u,(vs++unchain c)[i]? = some v→(args.map a.eval++caps).toList[i]? = some u→VOk w (Mt Z C S.root noB) C.L S.root v u:=by
  intro i v u e1 e2;rw[Array.toList_append,Array.toList_map] at e2;rcases kG i vs.length with hlt | hge
  ·rw[List.getElem?_append_left hlt] at e1
   rw[List.getElem?_append_left (by rw[kP,←v1];exact hlt),List.getElem?_map] at e2
   cases hx:args.toList[i]? with
   |none=>rw[hx] at e2;cases e2
   |some x=>rw[hx] at e2;cases e2;exact v2 i v x e1 hx
  ·rw[List.getElem?_append_right hge] at e1
   rw[List.getElem?_append_right (by rw[kP,←v1];exact hge),kP,←v1] at e2
   exact c2 _ v u e1 e2
 have hlen:(vs++unchain c).length=(args.map a.eval++caps).toList.length:=by
  rw[jP,Array.toList_append,jP,Array.toList_map,kP,v1,c1]
 obtain⟨rfl,hargs⟩:=Ylh I ms ats.toList (vs++unchain c) hlen hvs h3;refine⟨args.map a.eval++caps,?_,?_⟩
 ·have g2:fn.name≠"runtime.NumGoroutine":=by simpa using f2
  have g3:fn.body≠none:=by
   intro e;rw[e] at f3;cases f3
  simp[execOp,ho,resolve,Deferred.ofValue,hf,invoke,callFunc,f1,g2,g3]
 ·unfold Yn0 at hok
  split at hok
  ·rename_i hl
   have hb':B=([],[]):=by
    unfold back at hb;rw[hl] at hb;simp only[RD.run,jD] at hb;exact hb.symm
   subst hb';exact Ypy I hargs hl hC hnoSh hnp hgd hd hp'
  ·rename_i v hl
   split at hok
   ·rename_i r q hat
    simp only[jC,Bool.not_eq_true'] at hok;exact Ypz I hargs hvs hl hat (Ym1 hok.2.2) hsh hC hnoSh hnp hgd hd hb hp'
   ·cases hok
  ·cases hok
end
section
variable {a:Act}
variable {P:Program}
theorem Rep.anyM:∀ {t:Ty} {x:t.El} {s:Src} {F:Yd},Rep w M t .deep x s F→Rep w M' t .deep x s F:=by
 intro t
 induction t with
 |int k=>intro x s F h;exact h
 |bool=>intro x s F h;exact h
 |str=>intro x s F h;exact h
 |unit=>intro x s F h;trivial
 |pair a b iha ihb=>
  intro x s F h;obtain⟨F1,F2,h1,h2,h3⟩:=h
  exact⟨F1,F2,iha h1,ihb h2,h3⟩
 |sl e ih=>
  intro x s F h;obtain⟨A,c,h1,h2,h3⟩:=h;refine⟨A,c,h1,h2,fun hc=>?_⟩;obtain⟨b,off,Fs,e1,e2,e3,e4,e5⟩:=h3 hc
  exact⟨b,off,Fs,e1,e2,e3,fun i hi=>⟨ih (e4 i hi).1,(e4 i hi).2⟩,e5⟩
 |arr n e ih=>
  intro x s F h;obtain⟨h1,Fs,h2,h3⟩:=h;exact⟨h1,Fs,fun i hi=>⟨ih (h2 i hi).1,(h2 i hi).2⟩,h3⟩
theorem Yr2 (I:Inv Z S C a w) {d r t:Nat} {f:FuncId} {e e':Ty} {xs:List e.El} {ys:List e'.El} {p:Patch} {args:Array Operand} {ats:Array TypeId}
  (ho:o.op=.call ⟨.value (.func f),args,ats⟩) (hargs:args.toList=[.tmp t]) (hdst:o.dst=some d)
  (hnp:∀ i,np≤i→Z.P i=none) (hgd:Yu S (some d)) (hd:d<Z.nt)
  (ht:lk t S.tm=some (.seg r [])) (hR:S.root r=some ⟨.reg,.cl .deep (.sl e) xs⟩)
  (hC:Ycz P f [.mv] [.cl .deep (.sl e) xs] ⟨[.cl .deep (.sl e') ys],[]⟩)
  (hp:(Yao np d (.seg d []) ⟨.reg,.cl .deep (.sl e') ys⟩ ⟨[(r,none)],[(r,none)]⟩).run S=some p) :
  ∃ us,(execOp a.eval o).run P w=.ok (.enter f us) w∧Calls P f us w fun e w'=>∃ u,e=.returned u∧∃ C',Inv Z (S.ap p) C' (a.put o.dst u) w':=by
 obtain⟨fn,f1,f2,f3⟩:=hC.there
 have hargs':args=#[.tmp t]:=by rw[←Array.toArray_toList (xs:=args),hargs]
 subst hargs';obtain⟨cs,hcs⟩:=I.str.reg r _ hR rfl;have hrep:Rep w _ (.sl e) .deep xs (C.L r) (C.F r):=I.str.rep r _ hR
 have hval:∃ A n c,a.tmps.getD t undef=.slice A n c∧(C.L r).cell w 0=some (.slice A n c):=by
  have hv:Yb _ _ _ _ (.seg r []) (a.tmps.getD t undef):=I.tm t (.seg r []) ht;obtain⟨u,e1,R,s,oo,e0,zs,q1,q2,q3,q4,A,n,c,q5⟩:=hv.1;rw[hR] at q1;cases q1;rw[Yf] at q2;cases q2
  have hagg:¬ ∃ cs,a.tmps.getD t undef=.agg cs:=fun h=>by have:=hv.2.2.2 h;cases this
  have hone:=Ydi hagg;simp only[Src.cell,hone] at e1
  have:a.tmps.getD t undef=u:=by simpa using e1
  exact⟨A,n,c,by rw[this,q5],by rw[q4,q5]⟩
 obtain⟨A,n,c,hu,hcell⟩:=hval;refine⟨#[a.tmps.getD t undef],?_,?_⟩
 ·have g2:fn.name≠"runtime.NumGoroutine":=by simpa using f2
  have g3:fn.body≠none:=by intro e;rw[e] at f3;cases f3
  simp[execOp,ho,resolve,Deferred.ofValue,invoke,callFunc,f1,g2,g3,Act.eval]
 let Z':W0:=⟨w,C.F r,fun _ _=>False,noB,fun i=>if i=0 then some (C.L r) else none,1⟩
 let C':Cx:=⟨fun _=>C.L r,fun _=>C.F r⟩
 have hR0:(Yh [.cl .deep (.sl e) xs]).root 0=some ⟨.reg,.cl .deep (.sl e) xs⟩:=rfl
 have hR':∀ i R,(Yh [.cl .deep (.sl e) xs]).root i=some R→i=0∧R=⟨.reg,.cl .deep (.sl e) xs⟩:=by
  intro i R h
  by_cases e0:i=0
  ·subst e0;rw[hR0] at h;refine And.intro rfl ?_;cases h;rfl
  ·exfalso
   rw[Ya5,List.getElem?_eq_none (by simp;omega)] at h;cases h
 have hbnd:=fun b=>I.str.bnd r _ b hR
 have IZ:Inv Z' (Yh [.cl .deep (.sl e) xs]) C' ⟨#[a.tmps.getD t undef],[]⟩ Z'.w:=by
  refine⟨?_,?_,rfl,rfl⟩
  ·refine {rep:=?_,reg:=?_,mem:=?_,bnd:=?_,gbnd:=fun _ h=>h.elim,dis:=?_,gdis:=fun _ _ _ _ _ h=>h,plc:=?_,sz:=jB _,old:=fun _ _ _=>rfl,kp:=fun _ _ h=>h.elim,kf:=fun _ _ _ h=>h.elim,xb:=fun _ h=>h.elim,kb:=fun _ _ h=>h.elim,os:=rfl,tape:=rfl,output:=rfl }
   ·intro i R h
    obtain⟨rfl,rfl⟩:=hR' i R h;exact Rep.anyM hrep
   ·intro i R h _;exact⟨cs,hcs⟩
   ·intro i R h hk;obtain⟨rfl,rfl⟩:=hR' i R h;cases hk
   ·intro i R b h hb
    exact⟨(hbnd b hb).1,fun _ h=>h.elim,fun h=>h.elim,.inl hb⟩
   ·intro i j R1 R2 hne h1 h2
    exact absurd ((hR' i R1 h1).1.trans (hR' j R2 h2).1.symm) hne
   ·intro i R h
    obtain⟨rfl,rfl⟩:=hR' i R h
    exact⟨fun s' h=>by
      have:some (C.L r)=some s':=h
      cases this;rfl,fun hk=>by cases hk⟩
  ·intro i v hv
   by_cases e0:i=0
   ·subst e0
    have:v=.seg 0 []:=by
     have h1:some (TV.seg 0 [])=some v:=hv;cases h1;rfl
    subst this;show Yb _ _ _ _ _ _;refine Yb.Yah (v:=.seg 0 []) ⟨_,_,.deep,e,xs,hR0,Yf _ _ _,TV.get_nil _,?_,A,n,c,hu⟩;show(C.L r).cell w 0=some (a.tmps.getD t undef);rw[hcell,hu]
   ·exfalso
    rw[Yks,List.getElem?_eq_none (by simp;omega)] at hv;cases hv
 have hcall:=hC.calls Z' C' #[a.tmps.getD t undef] rfl rfl (fun i hi=>by
   show(if i=0 then some (C.L r) else none)=none
   rw[jM (by intro e0;subst e0;simp at hi)]) (fun i hi=>by
   show(if i=0 then some (C.L r) else none)=some (C.L r)
   have h1:i<1:=hi
   rw[jL (by omega)]) IZ
 refine hcall.mono fun ee w' hh=>?_;obtain⟨v,rfl,C2,G2,ρ2,Fr,hS,hO,hFr,hres,_⟩:=hh;refine⟨v,rfl,?_⟩;obtain⟨hrv,hsz,hagg⟩:Ygv w' (Mt Z' C2 ρ2 G2) C2.L ρ2 (.cl .deep (.sl e') ys) v Fr:=hres
 have hone:v.cells=#[v]:=Ydi fun h=>by have:=hagg.2 h;cases this
 have hrv':Rep w' (Mt Z' C2 ρ2 G2) (.sl e') .deep ys (.reg [v] 0) Fr:=by
  have h1:Rep w' (Mt Z' C2 ρ2 G2) (.sl e') .deep ys (.reg v.cells.toList 0) Fr:=hrv;rw[hone] at h1;exact h1
 obtain⟨A2,c2,hv1,hv2,_⟩:=id hrv'
 have hve:v=.slice A2 ys.length c2:=by
  have:some v=some (.slice A2 ys.length c2):=hv1;cases this;rfl
 obtain⟨Tk,hT⟩:=Y0.drop I hR;rw[hdst];refine Ye5 I Tk (Fn:=Fr) (G1:=Fr) hp hnp hgd hd ⟨hS.sz,fun b h1 h2=>hS.old b h1 h2,fun b hb=>?_,hS.os,hS.tape,hS.output⟩ hve (fun M _=>Rep.anyM hrv') (fun _ h=>h);obtain⟨k1,_,_,k2⟩:=hS.gbnd b (hFr b hb);rcases k2 with h | h
 ·exact .inl h
 ·exact .inr ⟨h,k1⟩
end
section
variable (tb:Tb)
inductive Rec | tm (i:Nat) (v:TV) | rt (r:Nat) (x:Option Root) | ck (r:Nat) (c:Chk) (b:Bool)
def RD.Ybe {α:Type} (S:St):RD α→List Rec→Option (α×List Rec)
 |.ret a,l=>some (a,l)
 |.fail,_=>none
 |.ck r c f,l=>match S.root r with | some R=>(f (c.run R.tv)).Ybe S (.ck r c (c.run R.tv)::l) | none=>none
 |.tm i f,l=>match lk i S.tm with | some v=>(f v).Ybe S (.tm i v::l) | none=>none
 |.rt r f,l=>match S.root r with | some R=>(f R).Ybe S (.rt r (some R)::l) | none=>none
 |.rt? r f,l=>match S.root r with | some R=>(f true).Ybe S (.rt r (some R)::l) | none=>(f false).Ybe S (.rt r none::l)
def St.is (S:St) (t:Nat) (b:Bool):St:={S with tm:=(t,.kb b)::S.tm }
def Yra:Option Nat→Patch
 |some d=>⟨[(d,.dead 1)],[],[]⟩
 |none=>⟨[],[],[]⟩
def Patch.is (p:Patch) (t:Nat) (b:Bool):Patch:={p with tm:=(t,.kb b)::p.tm }
inductive GR | no | do_ (g:Gd) | skip | sym (b:Bool) (t:Nat) (w:Bool) (g:Gd)
def gcl:Nat→Nat→Bool→RD GR
 |0,_,_=>.fail
 |n+1,t,w=>.tm t fun v=>match v with
  |.kb b=>match b,w with
   |true,true=>.ret (.do_ [(t,w)])
   |false,false=>.ret (.do_ [(t,w)])
   |_,_=>.ret .skip
  |.cl _ .bool b=>.ret (.sym (match w with | true=>b | false=>!b) t w [(t,w)])
  |.gd t2 w2 (.cl _ .bool b)=>(gcl n t2 w2).bind fun r=>match r with
   |.sym b2 _ _ l=>.ret (.sym (b2&&(match w with | true=>b | false=>!b)) t w ((t,w)::l))
   |_=>.fail
  |_=>.fail
def Ybi (all:List Oper) (o:Oper):Option Nat:=match o.guard with
 |none=>none
 |some (j,_)=>match all[j]? with
  |some o'=>o'.dst
  |none=>none
def Yi6 (all:List Oper) (o:Oper):RD GR:=match o.guard with
 |none=>.ret .no
 |some (_,w)=>match Ybi all o with
  |some t=>gcl 4 t w
  |none=>.fail
def Ypm (t:Nat):List Oper→Bool
 |[]=>true
 |o::l=>(match o.dst with | some d=>!Nat.beq d t | none=>true)&&Ypm t l
def Yv8:Option Nat→List Oper→Bool
 |some t,l=>Ypm t l
 |none,_=>true
def Yl9 (gt:Option Nat):List (Nat×TV)→Bool
 |[]=>true
 |(_,.gd t _ _)::l=>(match gt with | some u=>Nat.beq t u | none=>false)&&Yl9 gt l
 |_::l=>Yl9 gt l
def Yfc {α:Type} (i:Nat):List (Nat×α)→Bool
 |[]=>false
 |(j,_)::l=>Nat.beq i j || Yfc i l
def Ykm:Option Nat→List (Nat×TV)→Bool
 |some d,l=>Yfc d l
 |none,_=>true
def Yl2 (G:Gam) (f:FuncId):Option (List Md):=match G f with | some fs=>some fs.modes | none=>none
def Yeb (o:Oper):Option (Operand×List Operand×List TypeId):=match o.op with
 |.call {callee:=.value f,args,argTypes }=>some (f,args.toList,argTypes.toList)
 |_=>none
structure MvA where
 r:Nat
 e:Ty
 xs:List e.El
def Yu3 (t:Nat):RD MvA:=.tm t fun v=>match v with
 |.seg r []=>.rt r fun R=>match R with
  |⟨.reg,.cl .deep (.sl e) xs⟩=>.ret ⟨r,e,xs⟩
  |_=>.fail
 |_=>.fail
def Yr1 (np d r:Nat) (out:Out):RD Patch:=match out with
 |⟨[.cl .deep (.sl e) ys],[]⟩=>Yao np d (.seg d []) ⟨.reg,.cl .deep (.sl e) ys⟩ ⟨[(r,none)],[(r,none)]⟩
 |_=>.fail
def Yv6 (G:Gam) (o:Oper) (x:Operand×List Operand×List TypeId):Option (FuncId×Nat×Nat×FS):=match x.1,x.2.1,o.dst with
 |.func f,[.tmp t],some d=>match G f with
  |some ⟨[.mv],F⟩=>some (f,t,d,⟨[.mv],F⟩)
  |_=>none
 |_,_,_=>none
def Yuz:List Md→Bool
 |[.mv,.mv]=>true
 |_=>false
def Ywq:FS:=⟨[.mv,.mv],fun _ _ _=>none⟩
def dnV (c:TV):TV→Option TV
 |.pr a0 (.pr a1 (.pr a2 (.pr a3 (.pr a4 (.pr a5 e)))))=>
  match Nat.beq a0.size 1&&(Nat.beq a1.size 1&&(Nat.beq a2.size 1&&(Nat.beq a3.size 1&&(Nat.beq a4.size 1&&(Nat.beq a5.size 2&&(Nat.beq e.size 0&&Nat.beq c.size 2)))))) with
  |true=>some (.pr a0 (.pr a1 (.pr a2 (.pr a3 (.pr a4 (.pr c e))))))
  |false=>none
 |_=>none
structure DnA where
 r:Nat
 p:Path
 c:TV
 v2:TV
 v:TV
def Yup (t u:Nat):RD DnA:=.tm t fun v1=>match v1 with
 |.loc r p=>.tm u fun v2=>.rt r fun R=>match R.tv.get p with
  |some c=>match c.live&&v2.live,dnV (c.mir r p) v2 with
   |true,some v=>.ret ⟨r,p,c,v2,v⟩
   |_,_=>.fail
  |none=>.fail
 |_=>.fail
def Yvu (G:Gam) (o:Oper) (x:Operand×List Operand×List TypeId):Option (FuncId×Nat×Nat×Nat):=match x.1,x.2.1,o.dst with
 |.func f,[.tmp t,.tmp u],some d=>match G f with
  |some fs=>match Yuz fs.modes with | true=>some (f,t,u,d) | false=>none
  |none=>none
 |_,_,_=>none
def Ylw (np:Nat) (G:Gam) (g:Gd) (o:Oper) {R:Type} (x:Operand×List Operand×List TypeId) (S:St) (l:List Rec) (k:Patch→List Rec→Option R):Option R:=
 match (Ypb tb np (Yl2 G) none g o x.1 x.2.1 x.2.2).Ybe S l with
 |some (.call _ f cs post,l)=>match G f with
  |some fs=>fs.F cs R fun out=>match (post out).Ybe S l with
   |some (p,l)=>k p l
   |none=>none
  |none=>none
 |_=>none
def Yoe (np:Nat) (G:Gam) (g:Gd) (o:Oper) {R:Type} (x:Operand×List Operand×List TypeId) (S:St) (l:List Rec) (k:Patch→List Rec→Option R):Option R:=
 match Yv6 G o x with
 |some (_,t,d,fs)=>match (Yu3 t).Ybe S l with
  |some (m,l)=>fs.F [.cl .deep (.sl m.e) m.xs] R fun out=>match (Yr1 np d m.r out).Ybe S l with
   |some (p,l)=>k p l
   |none=>none
  |none=>none
 |none=>match Yvu G o x with
  |some (_,t,u,d)=>match (Yup t u).Ybe S l with
   |some (m,l)=>k ⟨[(d,m.v)],[],[]⟩ l
   |none=>none
  |none=>Ylw tb np G g o x S l k
def Yly {R:Type} (m:RD Ycn) (S:St) (l:List Rec) (k:Patch→List Rec→Option R):Option R:=match m.Ybe S l with
 |some (.step (some b) p,l)=>cond b (k p l) none
 |some (.step none p,l)=>k p l
 |_=>none
def Ys9 (h:Hint) (np:Nat) (G:Gam) (g:Gd) (o:Oper) {R:Type} (S:St) (l:List Rec) (k:Patch→List Rec→Option R):Option R:=
 match Yeb o with
 |some x=>Yoe tb np G g o x S l k
 |none=>Yly (doR tb h np g o) S l k
def Yt9 (b:Bool) (t:Nat) (w:Bool) (g:Gd) (o:Oper) {R:Type} (S:St) (l:List Rec) (k:Patch→List Rec→Option R):Option R:=
 match Yeb o with
 |some _=>none
 |none=>Yly (Yht tb (some (b,t,w)) g o) S l k
def Yus (h:Hint) (np:Nat) (G:Gam) (all:List Oper) (o:Oper) {R:Type} (S:St) (k:Patch→List Rec→Option R):Option R:=
 match (Yi6 all o).Ybe S [] with
 |some (.no,l)=>Ys9 tb h np G [] o S l k
 |some (.do_ g,l)=>Ys9 tb h np G g o S l k
 |some (.skip,l)=>k (Yra o.dst) l
 |some (.sym b t w g,l)=>Yt9 tb b t w g o S l k
 |none=>none
structure Rc where
 l:List Rec
 p:Patch
def hangs (all:List Oper) (t:Nat):List Oper→Bool
 |[]=>false
 |o::l=>(match Yeb o with
  |some _=>(match Ybi all o with | some u=>Nat.beq t u | none=>false)
  |none=>false) || hangs all t l
def Yo0 (all l:List Oper) (d:Option Nat) (p:Patch):Option (Nat×Bool):=match d with
 |some t=>match hangs all t l with
  |true=>match lk t p.tm with
   |some (.cl _ .bool e)=>some (t,e)
   |_=>none
  |false=>none
 |none=>none
def Yhl (h:Hint) (np:Nat) (G:Gam) (all:List Oper) {R:Type}:List Oper→St→List Rc→(St→List Rc→Option R)→Option R
 |[],S,T,k=>k S T
 |o::l,S,T,k=>match Yv8 (Ybi all o) (o::l) with
  |true=>Yus tb h np G all o S fun p r=>match Yl9 (Ybi all o) p.tm&&Ykm o.dst p.tm with
   |true=>match Yo0 all l o.dst p with
    |none=>Yhl h np G all l (S.ap p) (⟨r,p⟩::T) k
    |some (t,e)=>cond e (Yhl h np G all l (S.ap (p.is t true)) (⟨r,p.is t true⟩::T) k) (Yhl h np G all l (S.ap (p.is t false)) (⟨r,p.is t false⟩::T) k)
   |false=>none
  |false=>none
def TV.keeps (r:Nat) (p:Option Path):TV→Bool
 |.pr a b=>a.keeps r p&&b.keeps r p
 |.loc r' q=>!(Nat.beq r r'&&(match p with | some p=>Path.far p q | none=>true))
 |.seg r' q=>!(Nat.beq r r'&&(match p with | some p=>Path.pre p q | none=>true))
 |.sub r' q _ _=>!(Nat.beq r r'&&(match p with | some p=>Path.pre p q | none=>true))
 |.clo _ c=>c.live&&c.keeps r p
 |.tup l=>l.keeps r p
 |.gd _ _ v=>v.keeps r p
 |_=>true
def TV.Ye8:TV→Bool
 |.pr a b=>a.Ye8&&b.Ye8
 |.tup l=>l.Ye8
 |.gd _ _ v=>v.Ye8
 |.dead _=>false
 |_=>true
def Yce:Ks→TV→Bool
 |[],_=>true
 |(r,p)::ks,v=>v.keeps r p&&Yce ks v
def Rec.keeps (ks:Ks):Rec→Bool
 |.tm _ v=>Yce ks v
 |.rt _ (some R)=>Yce ks R.tv
 |.rt _ none=>true
 |.ck _ _ _=>true
def Rec.Ye8:Rec→Bool
 |.tm _ v=>v.Ye8
 |.rt _ (some R)=>R.tv.Ye8
 |.rt _ none=>true
 |.ck _ _ _=>true
def Ymh (ks:Ks):List (Nat×TV)→Bool
 |[]=>true
 |(_,v)::l=>Yce ks v&&Ymh ks l
def Yha (ks:Ks):List (Nat×Option Root)→Bool
 |[]=>true
 |(_,some R)::l=>Yce ks R.tv&&Yha ks l
 |(_,none)::l=>Yha ks l
def Yf6 {α:Type} (a:List (Nat×α)):List (Nat×α)→Bool
 |[]=>true
 |(j,_)::l=>!Yfc j a&&Yf6 a l
def Rec.off (p:Patch):Rec→Bool
 |.tm i _=>!Yfc i p.tm
 |.rt r _=>!Yfc r p.rt
 |.ck r _ _=>!Yfc r p.rt
def Rec.off2 (p:Patch):Rec→Bool
 |.ck r c b=>match lk r p.rt with
  |some (some R)=>match c.run R.tv,b with
   |true,true=>true
   |false,false=>true
   |_,_=>false
  |some none=>false
  |none=>true
 |x=>x.off p
def Ygj (p:Patch):List Rec→Bool
 |[]=>true
 |x::l=>x.off2 p&&Ygj p l
def Yif (p:Patch):List Rec→Bool
 |[]=>true
 |x::l=>x.off p&&Yif p l
def Ygi (ks:Ks):List Rec→Bool
 |[]=>true
 |x::l=>x.keeps ks&&Ygi ks l
def Ygh:List Rec→Bool
 |[]=>true
 |x::l=>x.Ye8&&Ygh l
def clear (ks:Ks) (b:Rc):Bool:=match ks with
 |[]=>true
 |ks=>Ygi ks b.l&&(Ygh b.l&&(Ymh ks b.p.tm&&Yha ks b.p.rt))
def apart (a b:Rc):Bool:=
 Yif a.p b.l&&(Ygj b.p a.l&&(Yf6 a.p.tm b.p.tm&&(Yf6 a.p.rt b.p.rt&&(clear a.p.ks b&&clear b.p.ks a))))
def Yr9 (bj:Nat) (t:Rc):Nat→List Rc→Bool
 |_,[]=>true
 |n,u::l=>(apart u t || bj.testBit (n-1))&&Yr9 bj t (n-1) l
def Yo9 (acc:List (Nat×Nat)):List Edge→Nat→Nat
 |[],s=>s
 |e::l,s=>Yo9 acc l (match Region.binds .any e with
  |true=>s ||| (2 ^ e.on ||| (match lk e.on acc with | some m=>m | none=>0))
  |false=>s)
def Ysy:Nat→List Oper→List (Nat×Nat)→List (Nat×Nat)
 |_,[],acc=>acc
 |n,o::l,acc=>Ysy (n+1) l ((n,Yo9 acc o.after.toList 0)::acc)
def Ynb (bs:List (Nat×Nat)):Nat→List Rc→Bool
 |_,[]=>true
 |n,t::l=>Yr9 (match lk (n-1) bs with | some m=>m | none=>0) t (n-1) l&&Ynb bs (n-1) l
def Yex:Nat→List Oper→Bool
 |_,[]=>true
 |n,o::l=>edges n o.after.toList&&Yex (n+1) l
 where
 edges (n:Nat):List Edge→Bool
  |[]=>true
  |e::l=>(!Region.binds .any e || Nat.blt e.on n)&&edges n l
def Yjj:List (Nat×TV)→List (Nat×TV)
 |[]=>[]
 |(i,.gd _ _ _)::l=>(i,.dead 1)::Yjj l
 |x::l=>x::Yjj l
def guarded:List Oper→Bool
 |[]=>false
 |o::l=>o.guard.isSome || guarded l
def Ylr (nt:Nat):List Oper→Bool
 |[]=>true
 |o::l=>(match o.dst with | some d=>Nat.blt d nt | none=>true)&&Ylr nt l
def Yfk (ops:List Oper) (S:St):St:=match guarded ops with
 |true=>{S with tm:=Yjj S.tm }
 |false=>S
def Yrj (h:Hint) (nt np:Nat) (G:Gam) (draw:Bool) {R:Type} (ops:Array Oper) (S:St) (k:St→Option R):Option R:=
 match Ylr nt ops.toList with
 |false=>none
 |true=>Yhl tb h np G ops.toList ops.toList S [] fun S' T=>
  match (match draw with | true=>Yex 0 ops.toList&&Ynb (Ysy 0 ops.toList []) ops.toList.length T | false=>true) with
   |true=>k (Yfk ops.toList S')
   |false=>none
def ev (hn:Hint) (nt np:Nat) (G:Gam) (L:Lam) {R:Type}:Code→Hi→St→(Ex→St→Option R)→Option R
 |_,.fr l,S,k=>match L l with | some f=>f S R k | none=>none
 |.skip,_,S,k=>k .nm S
 |.region _ ops draw,_,S,k=>Yrj tb hn nt np G draw ops S fun S'=>k .nm S'
 |.seq a b,h,S,k=>ev hn nt np G L a h.l S fun e S'=>match e with
  |.nm=>ev hn nt np G L b h.r S' k
  |e=>k e S'
 |.cond c a b,h,S,k=>match (opv [] c).run S with
  |some (.cl _ .bool t)=>match c with
   |.tmp u=>cond t (ev hn nt np G L a h.l (S.is u true) k) (ev hn nt np G L b h.r (S.is u false) k)
   |_=>none
  |_=>none
 |.block id c,h,S,k=>ev hn nt np G L c h.i S fun e S'=>match e with
  |.ex j=>match Nat.beq j id with | true=>k .nm S' | false=>k (.ex j) S'
  |e=>k e S'
 |.exit id,_,S,k=>k (.ex id) S
 |.ret,_,S,k=>k .rt S
 |_,_,_,_=>none
end
section
open Go.RowKit
variable {a:Act}
variable {P:Program}
def Yui (P:Program) (f:FuncId):Prop:=Ybb P f∧∀ (w:World) (b off:Nat) (x0 x1 x2 x3 x4 x5 x6 y0 y1:Value),(∀ v∈[x0,x1,x2,x3,x4,x5,x6],v.oneCell'=true)→(∀ v∈[y0,y1],v.oneCell'=true)→
 w.cell? ⟨b,off,none⟩=some y0→w.cell? ⟨b,off+1,none⟩=some y1→b<w.heap.size→
 Calls P f #[.pointer (some ⟨b,off,none⟩),.agg #[x0,x1,x2,x3,x4,x5,x6]] w fun e W=>e=.returned (.agg #[x0,x1,x2,x3,x4,y0,y1])∧Below w.heap.size w W
theorem Yz.nev:∀ v:TV,Yz Dd.none v:=by
 intro v
 induction v with
 |pr a b iha ihb=>exact⟨iha,ihb⟩
 |clo f c ih=>exact ih
 |loc r q=>exact fun h=>h
 |seg r q=>exact fun h=>h
 |sub r q lo n=>exact fun h=>h
 |_=>exact trivial
theorem Inv.below {W:World} (I:Inv Z S C a w) (hB:Below w.heap.size w W):Inv Z S C a W:=by
 obtain⟨J,gs⟩:=I.str.hand (G':=noB) hB.size (fun b hb _=>hB.block b hb) (fun _ h=>h.elim) hB.os hB.tape hB.output;exact⟨J.lf fun v u h=>Yi.go gs (Yz.nev v) h,fun i v hv=>(I.tm i v hv).go gs (Kd.refl (fun v=>Yz.nev v) v) (fun _ _ _ _=>rfl),I.df,I.ts⟩
theorem seven {cs:Array Value} (h:cs.size=7):∃ x0 x1 x2 x3 x4 x5 x6,cs=#[x0,x1,x2,x3,x4,x5,x6]:=by
 obtain⟨l⟩:=cs
 rcases l with _ | ⟨x0,_ | ⟨x1,_ | ⟨x2,_ | ⟨x3,_ | ⟨x4,_ | ⟨x5,_ | ⟨x6,_ | ⟨x7,l⟩⟩⟩⟩⟩⟩⟩⟩<;>simp at h
 exact⟨x0,x1,x2,x3,x4,x5,x6,rfl⟩
theorem Yev (cs:Array Value):(Value.agg cs).cells=cs:=rfl
theorem Yrc (I:Inv Z S C a w) {f:FuncId} {d t u r:Nat} {p:Path} {R:Root} {c v2 v:TV} {args:Array Operand} {ats:Array TypeId}
  (ho:o.op=.call ⟨.value (.func f),args,ats⟩) (hargs:args.toList=[.tmp t,.tmp u]) (hdst:o.dst=some d) (hgd:Yu S (some d)) (hd:d<Z.nt)
  (ht:lk t S.tm=some (.loc r p)) (hu:lk u S.tm=some v2) (hR:S.root r=some R) (hg:R.tv.get p=some c) (hcl:c.live=true) (hvl:v2.live=true) (hv:dnV (c.mir r p) v2=some v) (hD:Yui P f) :
  ∃ us,(execOp a.eval o).run P w=.ok (.enter f us) w∧Calls P f us w fun e w'=>∃ u,e=.returned u∧∃ C',Inv Z (S.ap ⟨[(d,v)],[],[]⟩) C' (a.put o.dst u) w':=by
 obtain⟨⟨fn,f1,f2,f3⟩,hcall⟩:=hD
 have hargs':args=#[.tmp t,.tmp u]:=by rw[←Array.toArray_toList (xs:=args),hargs]
 subst hargs';unfold dnV at hv
 split at hv
 ·rename_i a0 a1 a2 a3 a4 a5 e
  split at hv
  ·rename_i hsz
   cases hv;simp only[jC,Nat.beq_eq] at hsz;obtain⟨z0,z1,z2,z3,z4,z5,z6,z7⟩:=hsz;rw[Yb2] at z7;have h0:Yb _ _ _ _ (.loc r p) (a.tmps.getD t undef):=I.tm t (.loc r p) ht;obtain⟨R',b,off,q1,q2,q3⟩:=h0.leaf rfl;rw[hR] at q1;cases q1;have h2:Yb w (Mt Z C S.root noB) C.L S.root (.pr a0 (.pr a1 (.pr a2 (.pr a3 (.pr a4 (.pr a5 e)))))) (a.tmps.getD u undef):=I.tm u _ hu;obtain⟨cs,hcs⟩:=h2.2.2.1 rfl
   have hcz:cs.size=7:=by
    have:=h2.2.1;rw[hcs,Yev] at this;rw[this];simp only[TV.size];omega
   obtain⟨x0,x1,x2,x3,x4,x5,x6,rfl⟩:=seven hcz
   obtain⟨F,hF,hrep⟩:=focus p (I.str.rep r _ hR) q2 hg
   have hone:∀ v u,Yi w (Mt Z C S.root noB) C.L S.root v u→u.oneCell'=true:=fun v u h=>h.one.1
   have hcell:∀ i,i<2→∃ y,w.cell? ⟨b,off+i,none⟩=some y∧y.oneCell'=true:=by
    rcases hrep.cells hone with hh | hh
    ·intro i hi
     obtain⟨y,y1,y2⟩:=hh i (by omega)
     exact⟨y,y1,y2⟩
    ·exact absurd hcl hh
   obtain⟨y0,c0,k0⟩:=hcell 0 (by omega)
   obtain⟨y1,c1,k1⟩:=hcell 1 (by omega)
   rw[kF] at c0
   have hxs:∀ v∈[x0,x1,x2,x3,x4,x5,x6],v.oneCell'=true:=by
    rcases h2.1.cells hone with hh | hh
    ·intro v hm
     obtain⟨i,hi,rfl⟩:=List.getElem_of_mem hm;have hi':i<7:=hi
     obtain⟨y,y1,y2⟩:=hh i (by simp only[TV.size];omega)
     rw[hcs,Yev] at y1;have:[x0,x1,x2,x3,x4,x5,x6][0+i]? = some y:=y1;rw[jJ,kV hi] at this;cases this;exact y2
    ·exact absurd hvl hh
   have hb:b<w.heap.size:=block_lt_of_cell c0;refine⟨#[a.tmps.getD t undef,a.tmps.getD u undef],?_,?_⟩
   ·have g2:fn.name≠"runtime.NumGoroutine":=by simpa using f2
    have g3:fn.body≠none:=by intro e;rw[e] at f3;cases f3
    simp[execOp,ho,resolve,Deferred.ofValue,invoke,callFunc,f1,g2,g3,Act.eval]
   ·rw[q3,hcs]
    refine(hcall w b off x0 x1 x2 x3 x4 x5 x6 y0 y1 hxs (by simp[k0,k1]) c0 c1 hb).mono ?_
    rintro e' W ⟨rfl,hB⟩;have I':=I.below hB;refine⟨_,rfl,C,?_⟩;rw[hdst];have h2':Yb W (Mt Z C S.root noB) C.L S.root (.pr a0 (.pr a1 (.pr a2 (.pr a3 (.pr a4 (.pr a5 e)))))) (a.tmps.getD u undef):=I'.tm u _ hu;have h0':Yb _ _ _ _ (.loc r p) (a.tmps.getD t undef):=I'.tm t (.loc r p) ht;obtain⟨R',b',off',p1,p2,p3⟩:=h0'.leaf rfl;rw[hR] at p1;cases p1;rw[q3] at p3;cases p3
    obtain⟨F',hF',hrep'⟩:=focus p (I'.str.rep r _ hR) p2 hg
    have d0:=(hB.cell (p:=⟨b,off,none⟩) hb).trans c0;have d1:=(hB.cell (p:=⟨b,off+1,none⟩) hb).trans c1;have hr2:=h2'.1;rw[hcs,Yev] at hr2
    have hL:=Yf9 hR c p (s':=.reg [x0,x1,x2,x3,x4,y0,y1] 5) hrep' p2 hg (fun i hi=>by
     have:i=0∨i=1:=by omega
     rcases this with rfl | rfl
     ·exact d0.symm
     ·exact d1.symm)
    obtain⟨A0,B0,r0,n0,s0,t0,-⟩:=hr2;obtain⟨A1,B1,r1,n1,s1,t1,-⟩:=n0;obtain⟨A2,B2,r2,n2,s2,t2,-⟩:=n1;obtain⟨A3,B3,r3,n3,s3,t3,-⟩:=n2;obtain⟨A4,B4,r4,n4,s4,t4,-⟩:=n3;obtain⟨A5,B5,r5,n5,s5,t5,-⟩:=n4
    have one:∀ {i:Nat} {x:TV},x.size=1→i<x.size→i=0:=fun h1 h2=>by omega
    have m0:=r0.mv (s':=.reg [x0,x1,x2,x3,x4,y0,y1] 0) fun i hi=>by obtain rfl:=one z0 hi;rfl
    have m1:=r1.mv (s':=.reg [x0,x1,x2,x3,x4,y0,y1] 1) fun i hi=>by obtain rfl:=one z1 hi;rw[z0];rfl
    have m2:=r2.mv (s':=.reg [x0,x1,x2,x3,x4,y0,y1] 2) fun i hi=>by obtain rfl:=one z2 hi;rw[z0,z1];rfl
    have m3:=r3.mv (s':=.reg [x0,x1,x2,x3,x4,y0,y1] 3) fun i hi=>by obtain rfl:=one z3 hi;rw[z0,z1,z2];rfl
    have m4:=r4.mv (s':=.reg [x0,x1,x2,x3,x4,y0,y1] 4) fun i hi=>by obtain rfl:=one z4 hi;rw[z0,z1,z2,z3];rfl
    have m6:=n5.mv (s':=.reg [x0,x1,x2,x3,x4,y0,y1] 7) fun i hi=>by omega
    have u1:Ye B1 noB:=fun b h=>t0 b (t1 b h);have u2:Ye B2 noB:=fun b h=>u1 b (t2 b h);have u3:Ye B3 noB:=fun b h=>u2 b (t3 b h);have u4:Ye B4 noB:=fun b h=>u3 b (t4 b h);have w0:=m0.sub s0;have w1:=m1.sub fun b h=>t0 b (s1 b h);have w2:=m2.sub fun b h=>u1 b (s2 b h);have w3:=m3.sub fun b h=>u2 b (s3 b h);have w4:=m4.sub fun b h=>u3 b (s4 b h);have w6:=m6.sub fun b h=>u4 b (t5 b h);refine Inv.slot I' hgd hd ?_;show Yb W (Mt Z C S.root noB) C.L S.root (.pr a0 (.pr a1 (.pr a2 (.pr a3 (.pr a4 (.pr (c.mir r p) e)))))) (.agg #[x0,x1,x2,x3,x4,y0,y1]);refine⟨?_,?_,⟨fun _=>⟨_,rfl⟩,fun _=>rfl⟩⟩
    ·show Ya W _ _ _ (.reg [x0,x1,x2,x3,x4,y0,y1] 0) noB
     refine⟨noB,noB,w0,?_,fun _ h=>h,fun _ h=>h,fun _ h=>h.elim⟩;rw[z0];refine⟨noB,noB,w1,?_,fun _ h=>h,fun _ h=>h,fun _ h=>h.elim⟩;rw[z1];refine⟨noB,noB,w2,?_,fun _ h=>h,fun _ h=>h,fun _ h=>h.elim⟩;rw[z2];refine⟨noB,noB,w3,?_,fun _ h=>h,fun _ h=>h,fun _ h=>h.elim⟩;rw[z3];refine⟨noB,noB,w4,?_,fun _ h=>h,fun _ h=>h,fun _ h=>h.elim⟩;rw[z4];refine⟨noB,noB,hL,?_,fun _ h=>h,fun _ h=>h,fun _ h=>h.elim⟩;rw[Yb2,z7];exact w6
    ·rw[Yev]
     simp only[TV.size,Yb2];show 7=_;omega
  ·cases hv
 ·cases hv
end
def Rec.ok (S:St):Rec→Prop
 |.tm i v=>lk i S.tm=some v
 |.rt r x=>S.root r=x
 |.ck r c b=>∃ R,S.root r=some R∧c.run R.tv=b
def Fits (S:St) (l:List Rec):Prop:=∀ x∈l,x.ok S
theorem Y1:∀ (m:RD α) {l l':List Rec} {x:α},m.Ybe S l=some (x,l')→∀ e∈l,e∈l'
 |.ret a,l,l',x,h,e,he=>by cases h;exact he
 |.fail,l,l',x,h,e,he=>by cases h
 |.ck r c f,l,l',x,h,e,he=>by
  simp only[RD.Ybe] at h
  split at h
  ·exact Y1 (f _) h e (jG _ he)
  ·cases h
 |.tm i f,l,l',x,h,e,he=>by
  simp only[RD.Ybe] at h
  split at h
  ·exact Y1 (f _) h e (jG _ he)
  ·cases h
 |.rt r f,l,l',x,h,e,he=>by
  simp only[RD.Ybe] at h
  split at h
  ·exact Y1 (f _) h e (jG _ he)
  ·cases h
 |.rt? r f,l,l',x,h,e,he=>by
  simp only[RD.Ybe] at h
  split at h
  ·exact Y1 (f _) h e (jG _ he)
  ·exact Y1 (f _) h e (jG _ he)
theorem Yaq:∀ (m:RD α) {l l':List Rec} {x:α},m.Ybe S l=some (x,l')→Fits T l'→m.run T=some x
 |.ret a,l,l',x,h,ht=>by cases h;rfl
 |.fail,l,l',x,h,ht=>by cases h
 |.ck r c f,l,l',x,h,ht=>by
  simp only[RD.Ybe] at h
  split at h
  ·rename_i R hR
   obtain⟨R1,h1,h2⟩:∃ R1,T.root r=some R1∧c.run R1.tv=c.run R.tv:=ht _ (Y1 (f _) h _ (jF));simp only[RD.run,h1,h2];exact Yaq (f _) h ht
  ·cases h
 |.tm i f,l,l',x,h,ht=>by
  simp only[RD.Ybe] at h
  split at h
  ·rename_i v hv
   have h1:lk i T.tm=some v:=ht _ (Y1 (f _) h _ (jF));simp only[RD.run,h1];exact Yaq (f _) h ht
  ·cases h
 |.rt r f,l,l',x,h,ht=>by
  simp only[RD.Ybe] at h
  split at h
  ·rename_i v hv
   have h1:T.root r=some v:=ht _ (Y1 (f _) h _ (jF));simp only[RD.run,h1];exact Yaq (f _) h ht
  ·cases h
 |.rt? r f,l,l',x,h,ht=>by
  simp only[RD.Ybe] at h
  split at h
  ·rename_i v hv
   have h1:T.root r=some v:=ht _ (Y1 (f _) h _ (jF));simp only[RD.run,h1];exact Yaq (f _) h ht
  ·have h1:T.root r=none:=ht _ (Y1 (f _) h _ (jF))
   simp only[RD.run,h1];exact Yaq (f _) h ht
theorem Yam:∀ (m:RD α) {l l':List Rec} {x:α},m.Ybe S l=some (x,l')→Fits S l→Fits S l'
 |.ret a,l,l',x,h,hl=>by cases h;exact hl
 |.fail,l,l',x,h,hl=>by cases h
 |.ck r c f,l,l',x,h,hl=>by
  simp only[RD.Ybe] at h
  split at h
  ·rename_i R hR
   refine Yam (f _) h (fun e he=>?_);rcases List.mem_cons.1 he with rfl | he
   ·exact⟨R,hR,rfl⟩
   ·exact hl e he
  ·cases h
 |.tm i f,l,l',x,h,hl=>by
  simp only[RD.Ybe] at h
  split at h
  ·rename_i v hv
   refine Yam (f _) h (fun e he=>?_);rcases List.mem_cons.1 he with rfl | he
   ·exact hv
   ·exact hl e he
  ·cases h
 |.rt r f,l,l',x,h,hl=>by
  simp only[RD.Ybe] at h
  split at h
  ·rename_i v hv
   refine Yam (f _) h (fun e he=>?_);rcases List.mem_cons.1 he with rfl | he
   ·exact hv
   ·exact hl e he
  ·cases h
 |.rt? r f,l,l',x,h,hl=>by
  simp only[RD.Ybe] at h
  split at h
  ·rename_i v hv
   refine Yam (f _) h (fun e he=>?_);rcases List.mem_cons.1 he with rfl | he
   ·exact hv
   ·exact hl e he
  ·rename_i hv
   refine Yam (f _) h (fun e he=>?_);rcases List.mem_cons.1 he with rfl | he
   ·exact hv
   ·exact hl e he
theorem Fits.nil (S:St):Fits S []:=fun _ h=>by cases h
structure Eqv (S T:St):Prop where
 tm:∀ i,lk i S.tm=lk i T.tm
 rt:∀ r,S.root r=T.root r
theorem Eqv.refl (S:St):Eqv S S:=⟨fun _=>rfl,fun _=>rfl⟩
theorem Eqv.symm (h:Eqv S T):Eqv T S:=⟨fun i=>(h.tm i).symm,fun r=>(h.rt r).symm⟩
theorem Eqv.trans (h:Eqv S T) (g:Eqv T U):Eqv S U:=⟨fun i=>(h.tm i).trans (g.tm i),fun r=>(h.rt r).trans (g.rt r)⟩
theorem Eqv.fits (h:Eqv S T) (hl:Fits S l):Fits T l:=fun x hx=>by
 have:=hl x hx
 cases x with
 |tm i v=>exact(h.tm i).symm.trans this
 |rt r v=>exact(h.rt r).symm.trans this
 |ck r c b=>obtain⟨R,h1,h2⟩:=this;exact⟨R,(h.rt r).symm.trans h1,h2⟩
theorem Eqv.inv (h:Eqv S T) (I:Inv Z S C a w):Inv Z T C a w:=by
 have e:S.root=T.root:=funext h.rt;exact⟨e▸I.str,fun i v hv=>e▸I.tm i v ((h.tm i).trans hv),I.df,I.ts⟩
theorem Yjq (S:St) (p:Patch) (r:Nat):(S.ap p).root r=(match lk r p.rt with | some x=>x | none=>S.root r).map (Root.kill p.ks):=by
 rw[Ye6];rfl
theorem Eqv.ap (h:Eqv S T) (p:Patch):Eqv (S.ap p) (T.ap p):=by
 refine⟨fun i=>?_,fun r=>?_⟩
 ·rw[Yeh,Yeh,h.tm i]
 ·rw[Yjq,Yjq,h.rt r]
def Yog (r:Nat) (p:Option Path) (q:Nat) (s:Path):Bool:=Nat.beq r q&&(match p with | some p=>Path.far p s | none=>true)
def Yf4 (r:Nat) (p:Option Path) (q:Nat) (s:Path):Bool:=Nat.beq r q&&(match p with | some p=>Path.pre p s | none=>true)
theorem Ydg (r:Nat) (p:Option Path) (f:FuncId) (c:TV):(TV.clo f c).kill r p=match (c.kill r p).live with | true=>.clo f c | false=>.dead 1:=rfl
theorem Yqa (r:Nat) (p:Option Path) (r':Nat) (p':Option Path):∀ v:TV,(v.kill r p).kill r' p'=(v.kill r' p').kill r p:=by
 intro v
 induction v with
 |pr a b iha ihb=>simp only[TV.kill,iha,ihb]
 |tup l ih=>simp only[TV.kill,ih]
 |gd t w v ih=>simp only[TV.kill,ih]
 |loc q s=>
  have e:∀ r p,(TV.loc q s).kill r p=match Yog r p q s with | true=>.dead 1 | false=>.loc q s:=fun _ _=>rfl
  cases h1:Yog r p q s<;>cases h2:Yog r' p' q s<;>simp only[e,h1,h2]<;>rfl
 |seg q s=>
  have e:∀ r p,(TV.seg q s).kill r p=match Yf4 r p q s with | true=>.dead 1 | false=>.seg q s:=fun _ _=>rfl
  cases h1:Yf4 r p q s<;>cases h2:Yf4 r' p' q s<;>simp only[e,h1,h2]<;>rfl
 |sub q s lo n=>
  have e:∀ r p,(TV.sub q s lo n).kill r p=match Yf4 r p q s with | true=>.dead 1 | false=>.sub q s lo n:=fun _ _=>rfl
  cases h1:Yf4 r p q s<;>cases h2:Yf4 r' p' q s<;>simp only[e,h1,h2]<;>rfl
 |clo f c ih=>
  simp only[Ydg]
  cases h1:(c.kill r p).live<;>cases h2:(c.kill r' p').live<;>simp[TV.kill,h1,h2]
 |_=>rfl
theorem Ym5 (ks:Ks) (r:Nat) (p:Option Path) (v:TV):Yx ks (v.kill r p)=(Yx ks v).kill r p:=by
 induction ks generalizing v with
 |nil=>rfl
 |cons k ks ih=>
  obtain⟨r',p'⟩:=k;simp only[Yx];rw[Yqa,ih]
theorem Yhr (a b:Ks) (v:TV):Yx a (Yx b v)=Yx b (Yx a v):=by
 induction a generalizing v with
 |nil=>rfl
 |cons k a ih=>
  obtain⟨r,p⟩:=k;simp only[Yx];rw[←Ym5,ih]
theorem Yoi:∀ {v:TV},v.keeps r p=true→v.kill r p=v:=by
 intro v
 induction v with
 |pr a b iha ihb=>intro h;simp only[TV.keeps,jC] at h;simp only[TV.kill,iha h.1,ihb h.2]
 |tup l ih=>intro h;simp only[TV.keeps] at h;simp only[TV.kill,ih h]
 |gd t w v ih=>intro h;simp only[TV.keeps] at h;simp only[TV.kill,ih h]
 |loc q s=>
  intro h;have h:(!Yog r p q s)=true:=h
  show(match Yog r p q s with | true=>TV.dead 1 | false=>TV.loc q s)=_
  rw[Bool.not_eq_true'] at h;rw[h]
 |seg q s=>
  intro h;have h:(!Yf4 r p q s)=true:=h
  show(match Yf4 r p q s with | true=>TV.dead 1 | false=>TV.seg q s)=_
  rw[Bool.not_eq_true'] at h;rw[h]
 |sub q s lo n=>
  intro h;have h:(!Yf4 r p q s)=true:=h
  show(match Yf4 r p q s with | true=>TV.dead 1 | false=>TV.sub q s lo n)=_
  rw[Bool.not_eq_true'] at h;rw[h]
 |clo f c ih=>
  intro h;simp only[TV.keeps,jC] at h
  rw[Ydg,ih h.2,h.1]
 |_=>intro h;rfl
theorem Ybj:∀ {ks:Ks} {v:TV},Yce ks v=true→Yx ks v=v
 |[],v,h=>rfl
 |(r,p)::ks,v,h=>by
  simp only[Yce,jC] at h;simp only[Yx,Yoi h.1];exact Ybj h.2
theorem Yp5:∀ {v:TV},(v.kill r p).Ye8=true→v.kill r p=v:=by
 intro v
 induction v with
 |pr a b iha ihb=>intro h;simp only[TV.kill,TV.Ye8,jC] at h;simp only[TV.kill,iha h.1,ihb h.2]
 |tup l ih=>intro h;simp only[TV.kill,TV.Ye8] at h;simp only[TV.kill,ih h]
 |gd t w v ih=>intro h;simp only[TV.kill,TV.Ye8] at h;simp only[TV.kill,ih h]
 |loc q s=>
  have e:(TV.loc q s).kill r p=match Yog r p q s with | true=>.dead 1 | false=>.loc q s:=rfl
  rw[e];cases Yog r p q s<;>intro h<;>first | rfl | cases h
 |seg q s=>
  have e:(TV.seg q s).kill r p=match Yf4 r p q s with | true=>.dead 1 | false=>.seg q s:=rfl
  rw[e];cases Yf4 r p q s<;>intro h<;>first | rfl | cases h
 |sub q s lo n=>
  have e:(TV.sub q s lo n).kill r p=match Yf4 r p q s with | true=>.dead 1 | false=>.sub q s lo n:=rfl
  rw[e];cases Yf4 r p q s<;>intro h<;>first | rfl | cases h
 |clo f c ih=>rw[Ydg];cases (c.kill r p).live<;>intro h<;>first | rfl | cases h
 |_=>intro h;rfl
theorem Yek:∀ {ks:Ks} {v:TV},(Yx ks v).Ye8=true→Yx ks v=v
 |[],v,h=>rfl
 |(r,p)::ks,v,h=>by
  simp only[Yx] at h ⊢;have h1:=Yek h;rw[h1] at h ⊢;exact Yp5 h
theorem Ycu:∀ {l:List (Nat×α)},Yfc i l=false↔lk i l=none
 |[]=>by simp[Yfc,lk]
 |(j,x)::l=>by
  simp only[Yfc,lk]
  cases h:Nat.beq i j with
  |true=>simp
  |false=>simpa using Ycu
theorem Yfn:∀ {b:List (Nat×α)},Yf6 a b=true→∀ i x,lk i b=some x→lk i a=none
 |[],h,i,x,hx=>by cases hx
 |(j,y)::b,h,i,x,hx=>by
  simp only[Yf6,jC,Bool.not_eq_true'] at h;simp only[lk] at hx
  split at hx
  ·rename_i e
   rw[Nat.beq_eq] at e;subst e;exact Ycu.1 h.1
  ·exact Yfn h.2 i x hx
theorem Yhu:∀ {l:List Rec},Yif p l=true→∀ x∈l,x.off p=true
 |[],h,x,hx=>by cases hx
 |y::l,h,x,hx=>by
  simp only[Yif,jC] at h;rcases List.mem_cons.1 hx with rfl | hx
  ·exact h.1
  ·exact Yhu h.2 x hx
theorem Ygk:∀ {l:List Rec},Ygj p l=true→∀ x∈l,x.off2 p=true
 |[],h,x,hx=>by cases hx
 |y::l,h,x,hx=>by
  simp only[Ygj,jC] at h;rcases List.mem_cons.1 hx with rfl | hx
  ·exact h.1
  ·exact Ygk h.2 x hx
theorem Ytc:∀ (f:Nat) {v v':TV},Kd P v v'→v'.Ycc f=v.Ycc f:=by
 intro f
 induction f with
 |zero=>
  intro v v' h
  cases v with
  |pr a b=>obtain⟨a',b',rfl,_⟩:=h;rfl
  |cl o t x=>rw[show v'=_ from h]
  |tup l=>obtain⟨l',rfl,_⟩:=h;rfl
  |gd t w v=>obtain⟨l',rfl,_⟩:=h;rfl
  |dead n=>rw[show v'=_ from h]
  |kb b=>rw[show v'=_ from h]
  |op b=>rw[show v'=_ from h]
  |rw o e xs i v=>rw[show v'=_ from h]
  |_=>rcases h with ⟨rfl,_⟩ | rfl<;>rfl
 |succ f ih=>
  intro v v' h
  cases v with
  |pr a b=>obtain⟨a',b',rfl,h1,h2⟩:=h;simp only[TV.Ycc,ih h2,h1.size]
  |cl o t x=>rw[show v'=_ from h]
  |tup l=>obtain⟨l',rfl,_⟩:=h;rfl
  |gd t w v=>obtain⟨l',rfl,_⟩:=h;rfl
  |dead n=>rw[show v'=_ from h]
  |kb b=>rw[show v'=_ from h]
  |op b=>rw[show v'=_ from h]
  |rw o e xs i v=>rw[show v'=_ from h]
  |_=>rcases h with ⟨rfl,_⟩ | rfl<;>rfl
theorem Yrs (hp:∀ v,P v∨True):∀ (p:Path) {v v':TV},Kd P v v'→(v'.get p=v.get p)∨(∃ u u',v.get p=some u∧v'.get p=some u'∧Kd P u u'):=by
 intro p
 induction p with
 |nil=>intro v v' h;exact .inr ⟨v,v',TV.get_nil _,TV.get_nil _,h⟩
 |cons a p ih=>
  intro v v' h
  cases v with
  |pr x y=>
   obtain⟨x',y',rfl,h1,h2⟩:=h
   cases a with
   |f1=>exact ih h1
   |f2=>exact ih h2
   |el i=>exact .inl rfl
  |cl o t x=>left;rw[show v'=_ from h]
  |tup l=>obtain⟨l',rfl,_⟩:=h;left;cases a<;>rfl
  |gd t w v=>obtain⟨l',rfl,_⟩:=h;left;cases a<;>rfl
  |dead n=>left;rw[show v'=_ from h]
  |kb b=>left;rw[show v'=_ from h]
  |op b=>left;rw[show v'=_ from h]
  |rw o e xs i v=>left;rw[show v'=_ from h]
  |_=>rcases h with ⟨rfl,_⟩ | rfl<;>(left;cases a<;>rfl)
theorem Yio (c:Chk) (ks:Ks) (v:TV):c.run (Yx ks v)=c.run v:=by
 have hk:=Ya0 ks v
 cases c with
 |Ycc p f n=>
  simp only[Chk.run];rcases Yrs (fun _=>.inr trivial) p hk with e | ⟨u,u',e1,e2,e3⟩
  ·rw[e]
  ·rw[e1,e2];simp only;rw[Ytc f e3]
 |row p=>
  simp only[Chk.run];rcases Yrs (fun _=>.inr trivial) p hk with e | ⟨u,u',e1,e2,e3⟩
  ·rw[e]
  ·rw[e1,e2]
   cases u with
   |pr a b=>obtain⟨a',b',rfl,_⟩:=e3;rfl
   |cl o t x=>rw[show u'=_ from e3]
   |tup l=>obtain⟨l',rfl,_⟩:=e3;rfl
   |gd t w v=>obtain⟨l',rfl,_⟩:=e3;rfl
   |dead n=>rw[show u'=_ from e3]
   |kb b=>rw[show u'=_ from e3]
   |op b=>rw[show u'=_ from e3]
   |rw o e xs i v=>rw[show u'=_ from e3]
   |_=>rcases e3 with ⟨rfl,_⟩ | rfl<;>rfl
theorem Yd2:∀ {l:List Rec},Ygi ks l=true→∀ x∈l,x.keeps ks=true
 |[],h,x,hx=>by cases hx
 |y::l,h,x,hx=>by
  simp only[Ygi,jC] at h;rcases List.mem_cons.1 hx with rfl | hx
  ·exact h.1
  ·exact Yd2 h.2 x hx
theorem Yd1:∀ {l:List Rec},Ygh l=true→∀ x∈l,x.Ye8=true
 |[],h,x,hx=>by cases hx
 |y::l,h,x,hx=>by
  simp only[Ygh,jC] at h;rcases List.mem_cons.1 hx with rfl | hx
  ·exact h.1
  ·exact Yd1 h.2 x hx
theorem Yla:∀ {l:List (Nat×TV)},Ymh ks l=true→∀ i v,lk i l=some v→Yce ks v=true
 |[],h,i,v,hv=>by cases hv
 |(j,y)::l,h,i,v,hv=>by
  simp only[Ymh,jC] at h;simp only[lk] at hv
  split at hv
  ·cases hv;exact h.1
  ·exact Yla h.2 i v hv
theorem Yhb:∀ {l:List (Nat×Option Root)},Yha ks l=true→∀ i R,lk i l=some (some R)→Yce ks R.tv=true
 |[],h,i,v,hv=>by cases hv
 |(j,none)::l,h,i,v,hv=>by
  simp only[Yha] at h;simp only[lk] at hv
  split at hv
  ·cases hv
  ·exact Yhb h i v hv
 |(j,some y)::l,h,i,v,hv=>by
  simp only[Yha,jC] at h;simp only[lk] at hv
  split at hv
  ·cases hv;exact h.1
  ·exact Yhb h.2 i v hv
structure Clear (ks:Ks) (b:Rc):Prop where
 tm:∀ i v,Rec.tm i v∈b.l→Yx ks v=v
 rt:∀ r R,Rec.rt r (some R)∈b.l→Yx ks R.tv=R.tv
 bk:∀ i v v0,Rec.tm i v∈b.l→Yx ks v0=v→v0=v
 br:∀ r R v0,Rec.rt r (some R)∈b.l→Yx ks v0=R.tv→v0=R.tv
 ptm:∀ i v,lk i b.p.tm=some v→Yx ks v=v
 prt:∀ i R,lk i b.p.rt=some (some R)→Yx ks R.tv=R.tv
theorem Ymo (h:clear ks b=true):Clear ks b:=by
 unfold clear at h
 split at h
 ·exact⟨fun _ _ _=>rfl,fun _ _ _=>rfl,fun _ _ _ _ h=>h,fun _ _ _ _ h=>h,fun _ _ _=>rfl,fun _ _ _=>rfl⟩
 ·simp only[jC] at h
  obtain⟨h1,h2,h3,h4⟩:=h;refine⟨fun i v hm=>?_,fun r R hm=>?_,fun i v v0 hm e=>?_,fun r R v0 hm e=>?_,fun i v hm=>?_,fun i R hm=>?_⟩
  ·exact Ybj (Yd2 h1 _ hm)
  ·exact Ybj (Yd2 h1 _ hm)
  ·have:=Yd1 h2 _ hm
   simp only[Rec.Ye8] at this;rw[←e] at this;rw[←e];exact(Yek this).symm
  ·have:=Yd1 h2 _ hm
   simp only[Rec.Ye8] at this;rw[←e] at this;rw[←e];exact(Yek this).symm
  ·exact Ybj (Yla h3 _ _ hm)
  ·exact Ybj (Yhb h4 _ _ hm)
structure Apart (a b:Rc):Prop where
 ab:∀ x∈b.l,x.off a.p=true
 ba:∀ x∈a.l,x.off2 b.p=true
 tm:∀ i x,lk i b.p.tm=some x→lk i a.p.tm=none
 rt:∀ i x,lk i b.p.rt=some x→lk i a.p.rt=none
 ca:Clear a.p.ks b
 cb:Clear b.p.ks a
theorem Yq4 (h:apart a b=true):Apart a b:=by
 simp only[apart,jC] at h;obtain⟨h1,h2,h3,h4,h5,h6⟩:=h;exact⟨Yhu h1,Ygk h2,Yfn h3,Yfn h4,Ymo h5,Ymo h6⟩
theorem Ypj (ks:Ks) (h:Yx ks R.tv=R.tv):Root.kill ks R=R:=by
 obtain⟨k,v⟩:=R;simp only[Root.kill] at h ⊢;rw[h]
theorem Yfo (a b:Ks) (R:Root):Root.kill a (Root.kill b R)=Root.kill b (Root.kill a R):=by
 simp only[Root.kill,Yhr a b]
theorem Apart.fits (h:Apart a b) (hb:Fits (S.ap a.p) b.l):Fits S b.l:=by
 intro x hx;have h1:=hb x hx;have h2:=h.ab x hx
 cases x with
 |tm i v=>
  simp only[Rec.ok,Rec.off,Bool.not_eq_true'] at h1 h2 ⊢;rw[Yeh,Ycu.1 h2] at h1;simp only at h1
  cases hv:lk i S.tm with
  |none=>rw[hv] at h1;cases h1
  |some v0=>
   rw[hv] at h1;simp only[jT,jD] at h1
   rw[h.ca.bk i v v0 hx h1]
 |rt r y=>
  simp only[Rec.ok,Rec.off,Bool.not_eq_true'] at h1 h2 ⊢;rw[Yjq,Ycu.1 h2] at h1;simp only at h1
  cases hv:S.root r with
  |none=>rw[hv] at h1;exact h1
  |some R0=>
   rw[hv] at h1;simp only[jT] at h1;subst h1;have e:R0.tv=Yx a.p.ks R0.tv:=h.ca.br r (Root.kill a.p.ks R0) R0.tv hx rfl
   rw[Ypj _ e.symm]
 |ck r c y=>
  simp only[Rec.off,Bool.not_eq_true'] at h2;obtain⟨R,h3,h4⟩:=h1;rw[Yjq,Ycu.1 h2] at h3;simp only at h3
  cases hv:S.root r with
  |none=>rw[hv] at h3;cases h3
  |some R0=>
   rw[hv] at h3;simp only[jT,jD] at h3;subst h3
   exact⟨R0,hv,by rw[←h4];exact(Yio c a.p.ks R0.tv).symm⟩
theorem Apart.fits' (h:Apart a b) (ha:Fits S a.l):Fits (S.ap b.p) a.l:=by
 intro x hx;have h1:=ha x hx;have h2:=h.ba x hx
 cases x with
 |tm i v=>
  simp only[Rec.ok,Rec.off2,Rec.off,Bool.not_eq_true'] at h1 h2 ⊢;rw[Yeh,Ycu.1 h2,h1];simp only[jT]
  rw[h.cb.tm i v hx]
 |rt r y=>
  simp only[Rec.ok,Rec.off2,Rec.off,Bool.not_eq_true'] at h1 h2 ⊢;rw[Yjq,Ycu.1 h2];simp only;rw[h1]
  cases y with
  |none=>rfl
  |some R=>rw[jT,Ypj _ (h.cb.rt r R hx)]
 |ck r c y=>
  obtain⟨R,h3,h4⟩:=h1;simp only[Rec.off2] at h2;show ∃ R,(S.ap b.p).root r=some R∧c.run R.tv=y;rw[Yjq]
  split at h2
  ·rename_i R1 hR1
   rw[hR1];refine⟨_,rfl,?_⟩;show c.run (Yx b.p.ks R1.tv)=y;rw[Yio]
   split at h2<;>first | (rename_i e1;exact e1) | (rename_i e1 _;exact e1) | cases h2
  ·cases h2
  ·rename_i hn
   rw[hn,h3]
   exact⟨_,rfl,by show c.run (Yx b.p.ks R.tv)=y;rw[Yio];exact h4⟩
theorem Apart.eqv (h:Apart a b) (S:St):Eqv ((S.ap a.p).ap b.p) ((S.ap b.p).ap a.p):=by
 refine⟨fun i=>?_,fun r=>?_⟩
 ·simp only[Yeh]
  cases hb:lk i b.p.tm with
  |some v=>
   have ha:=h.tm i v hb;simp only[ha,jT]
   rw[h.ca.ptm i v hb]
  |none=>
   cases ha:lk i a.p.tm with
   |some v=>
    simp only[jT]
    rw[h.cb.ptm i v ha]
   |none=>
    cases hS:lk i S.tm with
    |none=>rfl
    |some v=>simp only[jT];rw[Yhr]
 ·simp only[Yjq]
  cases hb:lk r b.p.rt with
  |some y=>
   have ha:=h.rt r y hb;simp only[ha]
   cases y with
   |none=>rfl
   |some R=>
    simp only[jT]
    rw[Yfo,Ypj a.p.ks (h.ca.prt r R hb)]
  |none=>
   cases ha:lk r a.p.rt with
   |some y=>
    simp only
    cases y with
    |none=>rfl
    |some R=>
     simp only[jT]
     rw[Yfo,Ypj b.p.ks (h.cb.prt r R ha)]
   |none=>
    simp only
    cases hS:S.root r with
    |none=>rfl
    |some R=>simp only[jT];rw[Yfo]
section
variable {a:Act}
variable {P:Program} {G:Gam}
def Yuj (a:Act) (t:Nat) (w:Bool):GR→Prop
 |.no=>False
 |.do_ g=>Yax a g∧a.tmps.getD t undef=.bool w
 |.skip=>a.tmps.getD t undef≠.bool w
 |.sym b t' w' g=>t'=t∧w'=w∧(b=true→Yax a g∧a.tmps.getD t undef=.bool w)∧(b=false→a.tmps.getD t undef≠.bool w)∧
   g≠[]∧(∀ x,g=[x]→∃ b',a.tmps.getD t undef=.bool b')
theorem Yj0 (b:Bool):undef≠.bool b:=by intro h;cases h
theorem Ykq (I:Inv Z T C a w):∀ (n t:Nat) (b:Bool) (gr:GR),(gcl n t b).run T=some gr→Yuj a t b gr
 |0,t,b,gr,h=>by cases h
 |n+1,t,b,gr,h=>by
  simp only[gcl,RD.run] at h
  split at h
  ·rename_i v hv
   have ht:=I.tm t v hv
   split at h
   ·rename_i b'
    have hu:a.tmps.getD t undef=.bool b':=ht
    cases b'<;>cases b<;>cases h<;>simp only[Yuj]
    ·exact⟨(Yax.nil a).cons hu,hu⟩
    ·rw[hu];intro e;cases e
    ·rw[hu];intro e;cases e
    ·exact⟨(Yax.nil a).cons hu,hu⟩
   ·rename_i ow b'
    have hu:a.tmps.getD t undef=.bool b':=(ht:Yb _ _ _ _ _ _).bool;cases h
    refine⟨rfl,rfl,fun hb=>?_,fun hb=>?_,by simp,fun x _=>⟨b',hu⟩⟩
    ·have:b'=b:=by cases b<;>cases b'<;>first | rfl | cases hb
     subst this;exact⟨(Yax.nil a).cons hu,hu⟩
    ·rw[hu];cases b<;>cases b'<;>first | (intro e;cases e;done) | cases hb
   ·rename_i t2 w2 ow b'
    replace h:=RD.bind_some h;obtain⟨r,h1,h⟩:=h;have ih:=Ykq I n t2 w2 r h1
    split at h
    ·rename_i b2 t2' w2' l
     cases h;obtain⟨rfl,rfl,i1,i2,i3,i4⟩:=ih;obtain⟨g1,g2⟩:(a.tmps.getD t2' undef=.bool w2'→TV.cl ow .bool b'=.dead 1∨Yb _ _ _ _ (TV.cl ow .bool b') _)∧(a.tmps.getD t2' undef≠.bool w2'→a.tmps.getD t undef=undef):=ht
     refine⟨rfl,rfl,fun hb=>?_,fun hb=>?_,by simp,fun x e=>?_⟩
     ·rw[jC] at hb
      obtain⟨j1,j2⟩:=i1 hb.1
      have hu:a.tmps.getD t undef=.bool b':=by
       rcases g1 j2 with h | h
       ·cases h
       ·exact h.bool
      have:b'=b:=by cases b<;>cases b'<;>first | rfl | cases hb.2
      subst this;exact⟨j1.cons hu,hu⟩
     ·by_cases hw:a.tmps.getD t2' undef=.bool w2'
      ·have hu:a.tmps.getD t undef=.bool b':=by
        rcases g1 hw with h | h
        ·cases h
        ·exact h.bool
       have hb2:b2=true:=by
        cases b2
        ·exact absurd hw (i2 rfl)
        ·rfl
       rw[hb2] at hb
       rw[hu];cases b<;>cases b'<;>first | (intro e;cases e;done) | cases hb
      ·rw[g2 hw];exact Yj0 b
     ·cases l with
      |nil=>exact absurd rfl i3
      |cons y l=>cases e
    ·cases h
   ·cases h
  ·cases h
def Sound (P:Program) (ops:Array Oper) (Q:Exit→Act→World→Prop) (i:Nat) (o:Oper) (np:Nat) (T:St) (p:Patch):Prop:=
 ∀ (Z:W0) (C:Cx) (a:Act) (w:World) (K:Act→World→Prop),Inv Z T C a w→(∀ i,np≤i→Z.P i=none)→Yu T o.dst→(∀ d,o.dst=some d→d<Z.nt)→
  (∀ C' a' w',Inv Z (T.ap p) C' a' w'→K a' w')→wpOp P ops Q i K a w
def Yfu (P:Program) (o:Oper) (np:Nat) (T:St) (p:Patch) (Z:W0) (C:Cx) (a:Act) (w:World):Prop:=
 ∀ (Q:Exit→Act→World→Prop) (K:Act→World→Prop),(∀ C' u w',Inv Z (T.ap p) C' (a.put o.dst u) w'→K (a.put o.dst u) w')→o.wp P a w K Q
theorem Done.at (h:Done P o a w fun u w'=>∃ C',Inv Z (T.ap p) C' (a.put o.dst u) w'):Yfu P o np T p Z C a w:=by
 intro Q K hK;rcases h with ⟨u,w',he,C',hi⟩ | h
 ·unfold Oper.wp
  rcases he with he | ⟨rfl,he⟩
  ·rw[he];exact hK C' u w' hi
  ·rw[he];exact hK C' undef w' hi
 ·exact h.elim
def GOk (P:Program) (G:Gam):Prop:=∀ f fs,G f=some fs→(Yuz fs.modes=true→Yui P f)∧∀ (cs:List TV) (R:Type) (k:Out→Option R) (r:R),fs.F cs R k=some r→∃ out,k out=some r∧Ycz P f fs.modes cs out
theorem Yec (h:Yeb o=some x):∃ (f:Operand) (args:Array Operand) (ats:Array TypeId),o.op=.call ⟨.value f,args,ats⟩∧x=(f,args.toList,ats.toList):=by
 unfold Yeb at h
 split at h
 ·rename_i f args ats ho;cases h;exact⟨f,args,ats,ho,rfl⟩
 ·cases h
theorem Yj7 (hG:GOk P G) {R:Type} {x:Operand×List Operand×List TypeId} (hx:Yeb o=some x) {l:List Rec} {k:Patch→List Rec→Option R} {r:R}
  (h:Ylw tb np G g o x S l k=some r):∃ p l',k p l'=some r∧(Fits S l→Fits S l')∧(∀ e∈l,e∈l')∧∀ T,Fits T l'→∀ Z C a w,Inv Z T C a w→Yax a g→(∀ i,np≤i→Z.P i=none)→
   Yu T o.dst→(∀ d,o.dst=some d→d<Z.nt)→Yfu P o np T p Z C a w:=by
 obtain⟨f,args,ats,ho,rfl⟩:=Yec hx;unfold Ylw at h
 split at h
 ·rename_i cd f' cs post l1 h1
  split at h
  ·rename_i fs hfs
   obtain⟨out,h2,hout⟩:=(hG f' fs hfs).2 cs R _ r h
   split at h2
   ·rename_i p l2 h3
    refine⟨p,l2,h2,fun hf=>Yam _ h3 (Yam _ h1 hf),fun e he=>Y1 _ h3 e (Y1 _ h1 e he),fun T hT Z C a w I hg hnp hgd hd=>?_⟩;have hT1:Fits T l1:=fun e he=>hT e (Y1 _ h3 e he);have e1:=Yaq _ h1 hT1;have e2:=Yaq _ h3 hT
    obtain⟨us,g1,g2⟩:=Yn2 I hg ho hnp hgd hd e1 (Mo:=Yl2 G) (by simp only[Yl2,hfs]) hout e2
    intro Q K hK;unfold Oper.wp;rw[g1];refine g2.mono fun e w' he=>?_;obtain⟨u,rfl,C',hi⟩:=he;exact hK C' u w' hi
   ·cases h2
  ·cases h
 ·cases h
theorem Yr0 (h:(Yu3 t).run S=some m):lk t S.tm=some (.seg m.r [])∧S.root m.r=some ⟨.reg,.cl .deep (.sl m.e) m.xs⟩:=by
 unfold Yu3 at h;simp only[RD.run] at h
 split at h
 ·rename_i v hv
  split at h
  ·rename_i r
   simp only[RD.run] at h
   split at h
   ·rename_i R hR
    split at h
    ·cases h;exact⟨hv,hR⟩
    ·cases h
   ·cases h
  ·cases h
 ·cases h
theorem Yrb (h:(Yup t u).run S=some m):lk t S.tm=some (.loc m.r m.p)∧lk u S.tm=some m.v2∧∃ R,S.root m.r=some R∧R.tv.get m.p=some m.c∧m.c.live=true∧m.v2.live=true∧dnV (m.c.mir m.r m.p) m.v2=some m.v:=by
 unfold Yup at h;simp only[RD.run] at h
 split at h
 ·rename_i v hv
  split at h
  ·rename_i r p
   simp only[RD.run] at h
   split at h
   ·rename_i v2 hv2
    split at h
    ·rename_i R hR
     split at h
     ·rename_i c hc
      split at h
      ·rename_i v' h1 h2
       cases h;simp only[jC] at h1;exact⟨hv,hv2,R,hR,hc,h1.1,h1.2,h2⟩
      ·cases h
     ·cases h
    ·cases h
   ·cases h
  ·cases h
 ·cases h
theorem Ylx (hG:GOk P G) {R:Type} {x:Operand×List Operand×List TypeId} (hx:Yeb o=some x) {l:List Rec} {k:Patch→List Rec→Option R} {r:R}
  (h:Yoe tb np G g o x S l k=some r):∃ p l',k p l'=some r∧(Fits S l→Fits S l')∧(∀ e∈l,e∈l')∧∀ T,Fits T l'→∀ Z C a w,Inv Z T C a w→Yax a g→(∀ i,np≤i→Z.P i=none)→
   Yu T o.dst→(∀ d,o.dst=some d→d<Z.nt)→Yfu P o np T p Z C a w:=by
 unfold Yoe at h
 split at h
 ·rename_i f t d fs hmv
  obtain⟨f0,args,ats,ho,rfl⟩:=Yec hx;unfold Yv6 at hmv
  split at hmv
  ·rename_i f1 t1 d1 e1 e2 e3
   split at hmv
   ·rename_i F hF
    cases hmv
    split at h
    ·rename_i m l1 h1
     obtain⟨out,h2,hout⟩:=(hG f _ hF).2 _ R _ r h
     split at h2
     ·rename_i p l2 h3
      refine⟨p,l2,h2,fun hf=>Yam _ h3 (Yam _ h1 hf),fun e he=>Y1 _ h3 e (Y1 _ h1 e he),fun T hT Z C a w I hg hnp hgd hd=>?_⟩;have hT1:Fits T l1:=fun e he=>hT e (Y1 _ h3 e he);obtain⟨q1,q2⟩:=Yr0 (Yaq _ h1 hT1);have q3:=Yaq _ h3 hT;unfold Yr1 at q3
      split at q3
      ·rename_i e' ys
       have e1':f0=.func f:=e1;subst e1';rw[e3] at hgd hd;obtain⟨us,g1,g2⟩:=Yr2 I ho e2 e3 hnp hgd (hd d rfl) q1 q2 hout q3;intro Q K hK;unfold Oper.wp;rw[g1];refine g2.mono fun e w' he=>?_;obtain⟨u,rfl,C',hi⟩:=he;exact hK C' u w' hi
      ·cases q3
     ·cases h2
    ·cases h
   ·cases hmv
  ·cases hmv
 ·split at h
  ·rename_i f t u d hdn
   obtain⟨f0,args,ats,ho,rfl⟩:=Yec hx;unfold Yvu at hdn
   split at hdn
   ·rename_i f1 t1 u1 d1 e1 e2 e3
    split at hdn
    ·rename_i fs hF
     split at hdn
     ·rename_i hm
      cases hdn
      split at h
      ·rename_i m l1 h1
       refine⟨_,l1,h,fun hf=>Yam _ h1 hf,fun e he=>Y1 _ h1 e he,fun T hT Z C a w I hg hnp hgd hd=>?_⟩;obtain⟨q1,q2,R0,q3,q4,q5,q6,q7⟩:=Yrb (Yaq _ h1 hT);have e1':f0=.func f:=e1;subst e1';rw[e3] at hgd;obtain⟨us,g1,g2⟩:=Yrc I ho e2 e3 hgd (hd d e3) q1 q2 q3 q4 q5 q6 q7 ((hG f _ hF).1 hm);intro Q K hK;unfold Oper.wp;rw[g1];refine g2.mono fun e w' he=>?_;obtain⟨u,rfl,C',hi⟩:=he;exact hK C' u w' hi
      ·cases h
     ·cases hdn
    ·cases hdn
   ·cases hdn
  ·exact Yj7 hG hx h
theorem Yhp {R:Type} {m:RD Ycn} {l:List Rec} {k:Patch→List Rec→Option R} {r:R} (h:Yly m S l k=some r) :
  ∃ b p l',k p l'=some r∧m.Ybe S l=some (.step b p,l')∧b≠some false:=by
 unfold Yly at h
 split at h
 ·rename_i b p l' h1
  cases b with
  |true=>exact⟨_,p,l',h,h1,by simp⟩
  |false=>cases h
 ·rename_i p l' h1
  exact⟨_,p,l',h,h1,by simp⟩
 ·cases h
theorem Yi2 (ht:Yaf P tb) (hG:GOk P G) {R:Type} {l:List Rec} {k:Patch→List Rec→Option R} {r:R}
  (h:Ys9 tb hn np G g o S l k=some r):∃ p l',k p l'=some r∧(Fits S l→Fits S l')∧(∀ e∈l,e∈l')∧∀ T,Fits T l'→∀ Z C a w,Inv Z T C a w→Yax a g→(∀ i,np≤i→Z.P i=none)→
   Yu T o.dst→(∀ d,o.dst=some d→d<Z.nt)→Yfu P o np T p Z C a w:=by
 unfold Ys9 at h
 split at h
 ·rename_i x hx;exact Ylx hG hx h
 ·obtain⟨b,p,l',h1,h2,hb⟩:=Yhp h
  refine⟨p,l',h1,Yam _ h2,Y1 _ h2,fun T hT Z C a w I hg hnp hgd hd=>?_⟩;exact(Yrg ht I hg hnp hgd hd (Yaq _ h2 hT) hb).at
theorem Inv.Ytb (I:Inv Z (S.ap p) C a w) (h:a.tmps.getD t undef=.bool b):Inv Z (S.ap (p.is t b)) C a w:=by
 have hr:(S.ap (p.is t b)).root=(S.ap p).root:=by rw[Ye6,Ye6];rfl
 refine⟨hr▸I.str,fun i v hv=>?_,I.df,I.ts⟩;rw[hr];rw[Yeh] at hv;simp only[Patch.is,lk] at hv
 by_cases e:i=t
 ·subst e
  rw[show Nat.beq i i=true from Nat.beq_refl i] at hv;cases hv;exact h
 ·rw[show Nat.beq i t=false from by rw[←Bool.not_eq_true,Nat.beq_eq];exact e] at hv
  refine I.tm i v ?_;rw[Yeh];exact hv
theorem Yn8 (I:Inv Z T C a w) (hgd:Yu T o.dst) (hd:∀ d,o.dst=some d→d<Z.nt) (u:Value):Inv Z (T.ap (Yra o.dst)) C (a.put o.dst u) w:=by
 have:=I.slot? (o:=o) (v:=.dead 1) (u:=u) hgd hd (.inl ⟨1,rfl⟩)
 cases hdst:o.dst with
 |none=>rw[hdst] at this;exact this
 |some d=>rw[hdst] at this;exact this
theorem Yo4 (hj:ops[j]? = some o') (ht:o'.dst=some t) (a:Act) (b:Bool) :
  (yielded ops a.tmps j == some b)=true↔a.tmps.getD t undef=.bool b:=by
 unfold yielded;rw[hj];simp only[jA,ht];rw[kU]
 cases hv:a.tmps[t]? with
 |none=>simp[undef]
 |some v=>
  cases v<;>simp
end
section
variable {a:Act}
variable {P:Program} {G:Gam}
theorem Yof {ops:Array Oper} {j:Nat} {b:Bool} {t:Nat} (hg:o.guard=some (j,b)) (h:Ybi ops.toList o=some t):∃ o',ops[j]? = some o'∧o'.dst=some t:=by
 unfold Ybi at h;rw[hg] at h;simp only[Array.getElem?_toList] at h
 split at h
 ·rename_i o' ho;exact⟨o',ho,h⟩
 ·cases h
theorem Ygt (hi:ops[i]? = some o) (hw:Region.wanted o (yielded ops a.tmps)=true)
  (h:o.wp P a w K Q):wpOp P ops Q i K a w:=by
 unfold wpOp;rw[hi];simp only[hw,if_true];exact .inl h
theorem Yns (hi:ops[i]? = some o) (hw:Region.wanted o (yielded ops a.tmps)=false)
  (h:K (a.put o.dst undef) w):wpOp P ops Q i K a w:=by
 unfold wpOp;rw[hi];simp only[hw];exact h
theorem Ych {ops:Array Oper} {j:Nat} {b:Bool} {t:Nat} (hg:o.guard=some (j,b)) (h:Ybi ops.toList o=some t) :
  Region.wanted o (yielded ops a.tmps)=true↔a.tmps.getD t undef=.bool b:=by
 obtain⟨o',h1,h2⟩:=Yof hg h;unfold Region.wanted;rw[hg];exact Yo4 h1 h2 a b
theorem Act.Yne {d:Option Nat} {t:Nat} {u:Value} (h:d≠some t):(a.put d u).tmps.getD t undef=a.tmps.getD t undef:=by
 cases d with
 |none=>rfl
 |some d=>
  simp only[Act.put,kU];rw[Array.getElem?_setIfInBounds_ne]
  intro e;exact h (by rw[e])
theorem Yk1:∀ {l:List Oper},Ypm t l=true→∀ o∈l,o.dst≠some t
 |[],h,o,ho=>by cases ho
 |x::l,h,o,ho=>by
  simp only[Ypm,jC] at h;rcases List.mem_cons.1 ho with rfl | ho
  ·intro e
   rw[e] at h;simp only[Bool.not_eq_true'] at h;have:=h.1;rw[show Nat.beq t t=true from Nat.beq_refl t] at this;cases this
  ·exact Yk1 h.2 o ho
theorem Ytq (ht:Yaf P tb) (I:Inv Z T C a w) {c:Bool} {t:Nat} {b:Bool} {x:Option Bool} {p:Patch} (hgd:Yu T o.dst) (hd:∀ d,o.dst=some d→d<Z.nt)
  (hdt:o.dst≠some t) (h:(Yht tb (some (c,t,b)) g o).run T=some (.step x p)) (hx:x≠some false) :
  (c=true→Yax a g→a.tmps.getD t undef=.bool b→Yfu P o np T p Z C a w)∧(a.tmps.getD t undef≠.bool b→Inv Z (T.ap p) C (a.put o.dst undef) w):=by
 simp only[Yht] at h;replace h:=RD.bind_some h;obtain⟨⟨b',v⟩,h1,h⟩:=h;simp only at h
 have main:∃ v',(∀ l,v'≠.tup l)∧(∀ n,v'≠.dead n)∧v=v'∧(c=true→b'=some false→x=some false)∧p=⟨match o.dst with | some d=>[(d,.gd t b v')] | none=>[],[],[]⟩:=by
  split at h
  ·cases h
  ·cases h
  ·rename_i hn1 hn2
   cases b' with
   |none=>cases h;exact⟨v,hn1,hn2,rfl,(fun _ e=>by cases e),rfl⟩
   |some b'=>cases h;exact⟨v,hn1,hn2,rfl,(fun hc e=>by subst hc;cases e;rfl),rfl⟩
 obtain⟨v',hv',hv2,rfl,hcb,rfl⟩:=main;refine⟨fun hc hg htb=>?_,fun htb=>?_⟩
 ·subst hc
  have hb':b'≠some false:=by
   intro e;exact hx (hcb rfl e)
  obtain⟨u,hu,hv⟩:=Yjn Z T C a w ht I hg _ v h1 hb';refine Done.at (.inl ⟨u,w,.inl hu,C,?_⟩)
  cases hdst:o.dst with
  |none=>exact I.Yor
  |some d=>
   rw[hdst] at hgd hd hdt;refine I.slot hgd (hd d rfl) ⟨fun _=>?_,fun hne=>?_⟩
   ·rcases hv with ⟨n,rfl⟩ | hv
    ·exact absurd rfl (hv2 n)
    ·exact .inr (hv.val hv')
   ·rw[Act.Yne hdt] at hne
    exact absurd htb hne
 ·cases hdst:o.dst with
  |none=>exact I.Yor
  |some d=>
   rw[hdst] at hgd hd hdt;refine I.slot hgd (hd d rfl) ⟨fun he=>?_,fun _=>rfl⟩;rw[Act.Yne hdt] at he;exact absurd he htb
theorem Yuv:∀ (n t:Nat) (b:Bool),(gcl n t b).run S≠some .no
 |0,t,b,h=>by cases h
 |n+1,t,b,h=>by
  simp only[gcl,RD.run] at h
  split at h
  ·split at h
   ·split at h<;>cases h
   ·cases h
   ·replace h:=RD.bind_some h;obtain⟨r,h1,h⟩:=h
    split at h<;>cases h
   ·cases h
  ·cases h
theorem Yoa (ht:Yaf P tb) (hG:GOk P G) {ops:Array Oper} {i:Nat} (hi:ops[i]? = some o) {R:Type} {k:Patch→List Rec→Option R} {r:R}
  (hgt:∀ t,Ybi ops.toList o=some t→o.dst≠some t)
  (h:Yus tb hn np G ops.toList o S k=some r):∃ p l,k p l=some r∧Fits S l∧(∀ t,Ybi ops.toList o=some t→∃ v,Rec.tm t v∈l)∧∀ T Q,Fits T l→Sound P ops Q i o np T p:=by
 unfold Yus at h
 have guard:∀ gr l,(Yi6 ops.toList o).Ybe S []=some (gr,l)→Fits S l∧(o.guard=none∧gr=.no∨∃ j b t v,o.guard=some (j,b)∧Ybi ops.toList o=some t∧Rec.tm t v∈l∧
   ∀ T l',(∀ e∈l,e∈l')→Fits T l'→∀ Z C a w,Inv Z T C a w→Yuj a t b gr):=by
  intro gr l hh;refine⟨Yam _ hh (Fits.nil S),?_⟩;have hh0:=hh;unfold Yi6 at hh
  split at hh
  ·rename_i hg
   cases hh;exact .inl ⟨hg,rfl⟩
  ·rename_i j b hg
   split at hh
   ·rename_i t hgs
    refine .inr ⟨j,b,t,?_⟩
    have hl:∃ v,Rec.tm t v∈l:=by
     simp only[gcl,RD.Ybe] at hh
     split at hh
     ·rename_i v hv
      exact⟨v,Y1 _ hh _ (jF)⟩
     ·cases hh
    obtain⟨v,hv⟩:=hl;refine⟨v,hg,hgs,hv,fun T l' hll hT Z C a w I=>?_⟩;exact Ykq I 4 t b gr (Yaq _ hh (fun e he=>hT e (hll e he)))
   ·cases hh
 have recs:∀ gr l,(Yi6 ops.toList o).Ybe S []=some (gr,l)→∀ t,Ybi ops.toList o=some t→∃ v,Rec.tm t v∈l:=by
  intro gr l hh t hs;obtain⟨_,⟨hg,_⟩ | ⟨j,b,t',v,hg,hgs,hv,_⟩⟩:=guard gr l hh
  ·unfold Ybi at hs;rw[hg] at hs;cases hs
  ·rw[hgs] at hs;cases hs;exact⟨v,hv⟩
 split at h
 ·rename_i l hl
  obtain⟨hf,hh⟩:=guard _ _ hl
  have hng:o.guard=none:=by
   rcases hh with ⟨h1,_⟩ | ⟨j,b,t,v,h1,h2,h3,h4⟩
   ·exact h1
   ·simp only[Yi6,h1,h2] at hl
    exact absurd (Yaq _ hl hf) (Yuv 4 t b)
  obtain⟨p,l',h1,h2,h3,h4⟩:=Yi2 ht hG h;refine⟨p,l',h1,h2 hf,fun t hs=>?_,fun T Q hT Z C a w K I hnp hgd hd hK=>?_⟩
  ·unfold Ybi at hs;rw[hng] at hs;cases hs
  ·refine Ygt hi (by simp[Region.wanted,hng]) ?_
   exact h4 T hT Z C a w I (Yax.nil a) hnp hgd hd Q K (fun C' u w' hi=>hK C' _ w' hi)
 ·rename_i g l hl
  obtain⟨hf,hh⟩:=guard _ _ hl;rcases hh with ⟨_,hh⟩ | ⟨j,b,t,v,h1,h2,h3,hgr⟩
  ·cases hh
  obtain⟨p,l',g1,g2,g3,g4⟩:=Yi2 ht hG h;refine⟨p,l',g1,g2 hf,fun t' hs=>?_,fun T Q hT Z C a w K I hnp hgd hd hK=>?_⟩
  ·rw[h2] at hs;cases hs;exact⟨v,g3 _ h3⟩
  ·obtain⟨q1,q2⟩:=hgr T l' g3 hT Z C a w I
   refine Ygt hi ((Ych h1 h2).2 q2) ?_;exact g4 T hT Z C a w I q1 hnp hgd hd Q K (fun C' u w' hi=>hK C' _ w' hi)
 ·rename_i l hl
  obtain⟨hf,hh⟩:=guard _ _ hl;rcases hh with ⟨_,hh⟩ | ⟨j,b,t,v,h1,h2,h3,hgr⟩
  ·cases hh
  refine⟨Yra o.dst,l,h,hf,fun t' hs=>?_,fun T Q hT Z C a w K I hnp hgd hd hK=>?_⟩
  ·rw[h2] at hs;cases hs;exact⟨v,h3⟩
  ·have q:=hgr T l (fun _ h=>h) hT Z C a w I
   refine Yns hi ?_ (hK C _ w (Yn8 I hgd hd _));rw[←Bool.not_eq_true];exact fun e=>q ((Ych h1 h2).1 e)
 ·rename_i c t' b' g l hl
  obtain⟨hf,hh⟩:=guard _ _ hl;rcases hh with ⟨_,hh⟩ | ⟨j,b,t,v,h1,h2,h3,hgr⟩
  ·cases hh
  have hdt:=hgt t h2;unfold Yt9 at h
  split at h
  ·cases h
  ·obtain⟨b2,p,l',g1,g2,g3⟩:=Yhp h
   refine⟨p,l',g1,Yam _ g2 hf,fun t'' hs=>?_,fun T Q hT Z C a w K I hnp hgd hd hK=>?_⟩
   ·rw[h2] at hs;cases hs;exact⟨v,Y1 _ g2 _ h3⟩
   ·obtain⟨rfl,rfl,q1,q2,q3,q4⟩:=hgr T l' (Y1 _ g2) hT Z C a w I
    obtain⟨s1,s2⟩:=Ytq ht I (np:=np) hgd hd hdt (Yaq _ g2 hT) g3
    by_cases hw:a.tmps.getD t' undef=.bool b'
    ·refine Ygt hi ((Ych h1 h2).2 hw) ?_
     have hc:c=true:=by
      cases c
      ·exact absurd hw (q2 rfl)
      ·rfl
     exact s1 hc (q1 hc).1 hw Q K (fun C' u w' hi=>hK C' _ w' hi)
    ·refine Yns hi ?_ (hK C _ w (s2 hw))
     rw[←Bool.not_eq_true];exact fun e=>hw ((Ych h1 h2).1 e)
 ·cases h
theorem Sound.is {ops:Array Oper} {Q:Exit→Act→World→Prop} {i:Nat} {p:Patch} {t:Nat} {ow:Ow} {e:Bool} (h:Sound P ops Q i o np T p) (hl:lk t p.tm=some (.cl ow .bool e)):Sound P ops Q i o np T (p.is t e):=by
 intro Z C a w K I hnp hgd hd hK;refine h Z C a w K I hnp hgd hd (fun C' a' w' I'=>hK C' a' w' (I'.Ytb ?_))
 have:=I'.tm t (.cl ow .bool e) (by rw[Yeh,hl])
 exact(this:Yb _ _ _ _ _ _).bool
theorem Ynn (h:Yo0 all l d p=some (t,e)):∃ ow,lk t p.tm=some (.cl ow .bool e):=by
 unfold Yo0 at h
 split at h
 ·split at h
  ·split at h
   ·rename_i hl;cases h;exact⟨_,hl⟩
   ·cases h
  ·cases h
 ·cases h
end
section
variable {a:Act}
variable {P:Program} {G:Gam}
abbrev Ac:=Nat×Rc
def Run:St→List Ac→St→Prop
 |S,[],S'=>Eqv S S'
 |S,x::A,S'=>Fits S x.2.l∧Run (S.ap x.2.p) A S'
theorem Run.eqv:∀ {A:List Ac} {S T S':St},Eqv S T→Run S A S'→Run T A S'
 |[],S,T,S',e,h=>e.symm.trans h
 |x::A,S,T,S',e,h=>⟨e.fits h.1,Run.eqv (e.ap _) h.2⟩
theorem Run.bubble:∀ {A:List Ac} {B:List Ac} {S S':St},(∀ y∈A,Apart y.2 x.2)→Run S (A++x::B) S'→Fits S x.2.l∧Run (S.ap x.2.p) (A++B) S'
 |[],B,S,S',_,h=>h
 |y::A,B,S,S',hA,h=>by
  obtain⟨h1,h2⟩:=h;obtain⟨h3,h4⟩:=Run.bubble (fun z hz=>hA z (jG _ hz)) h2;have hy:=hA y (jF);exact⟨hy.fits h3,hy.fits' h1,Run.eqv (hy.eqv S) h4⟩
structure Ynu (P:Program) (ops:Array Oper) (np:Nat) (x:Ac) (o:Oper):Prop where
 op:ops[x.1]? = some o
 so:∀ T Q,Fits T x.2.l→Sound P ops Q x.1 o np T x.2.p
 tm:Yl9 (Ybi ops.toList o) x.2.p.tm=true
 ds:Ykm o.dst x.2.p.tm=true
 gl:∀ t,Ybi ops.toList o=some t→(∃ v,Rec.tm t v∈x.2.l)∧o.dst≠some t
def Yld (ops:Array Oper) (x y:Ac):Prop:=∀ o o' t,ops[x.1]? = some o→ops[y.1]? = some o'→Ybi ops.toList o=some t→o'.dst≠some t
def GdI (ops:Array Oper) (S:St) (A:List Ac):Prop:=∀ s t b v,lk s S.tm=some (.gd t b v)→∀ y∈A,∀ o,ops[y.1]? = some o→o.dst≠some t
theorem GdI.free (h:GdI ops S A) (hx:x∈A) (ho:ops[x.1]? = some o):Yu S o.dst:=fun s t b v hv=>h s t b v hv x hx o ho
theorem Yg5 (h:Yx ks v=.gd t b u):∃ u',v=.gd t b u':=by
 have hk:=Ya0 ks v;rw[h] at hk
 cases v with
 |gd t' b' v'=>obtain⟨u',e,_⟩:=hk;cases e;exact⟨_,rfl⟩
 |pr=>obtain⟨_,_,e,_⟩:=hk;cases e
 |tup=>obtain⟨_,e,_⟩:=hk;cases e
 |cl=>cases (show _=_ from hk)
 |dead=>cases (show _=_ from hk)
 |kb=>cases (show _=_ from hk)
 |op=>cases (show _=_ from hk)
 |_=>rcases hk with ⟨e,_⟩ | e<;>cases e
theorem Yma:∀ {l:List (Nat×TV)},Yl9 gt l=true→∀ s t b v,lk s l=some (.gd t b v)→gt=some t
 |[],h,s,t,b,v,hv=>by cases hv
 |(j,y)::l,h,s,t,b,v,hv=>by
  have h2:Yl9 gt l=true:=by
   cases y<;>simp only[Yl9,jC] at h<;>first | exact h | exact h.2
  simp only[lk] at hv
  split at hv
  ·cases hv
   simp only[Yl9,jC] at h
   cases gt with
   |none=>cases h.1
   |some u=>rw[Nat.beq_eq] at h;rw[h.1]
  ·exact Yma h2 s t b v hv
theorem GdI.step (h:GdI ops S (A++x::B)) (hx:Ynu P ops np x o) (hA:∀ y∈A,Apart y.2 x.2) (hB:∀ y∈B,Yld ops x y)
  (hok:∀ y∈A,∃ o,Ynu P ops np y o):GdI ops (S.ap x.2.p) (A++B):=by
 intro s t b v hv y hy oy hoy;rw[Yeh] at hv
 split at hv
 ·rename_i v' hv'
  cases hv;have hgs:=Yma hx.tm s t b v hv';rcases List.mem_append.1 hy with hy | hy
  ·obtain⟨v2,hv2⟩:=(hx.gl t hgs).1
   have h1:=(hA y hy).ab _ hv2;simp only[Rec.off,Bool.not_eq_true'] at h1;obtain⟨o',ho'⟩:=hok y hy
   have e:o'=oy:=by have:=ho'.op;rw[hoy] at this;exact(jN this).symm
   subst e;intro hd;have h2:=ho'.ds;rw[hd] at h2;simp only[Ykm] at h2;rw[h1] at h2;cases h2
  ·exact hB y hy o oy t hx.op hoy hgs
 ·cases hS:lk s S.tm with
  |none=>rw[hS] at hv;cases hv
  |some v0=>
   rw[hS] at hv;simp only[jT,jD] at hv;obtain⟨u',rfl⟩:=Yg5 hv;refine h s t b u' hS y ?_ oy hoy;rcases List.mem_append.1 hy with hy | hy
   ·exact jW _ hy
   ·exact kB _ (jG _ hy)
def Num:Nat→List Ac→Prop
 |_,[]=>True
 |n,x::A=>x.1=n∧Num (n+1) A
def Later (ops:Array Oper):List Ac→Prop
 |[]=>True
 |x::A=>(∀ y∈A,Yld ops x y)∧Later ops A
theorem Num.mem:∀ {A:List Ac} {n:Nat},Num n A→∀ x∈A,n≤x.1∧x.1<n+A.length
 |[],n,h,x,hx=>by cases hx
 |y::A,n,h,x,hx=>by
  rcases List.mem_cons.1 hx with rfl | hx
  ·rw[h.1];simp
  ·have:=h.2.mem x hx
   simp only[jH];omega
theorem Yqi (h:Yv8 (some t) l=true):∀ o∈l,o.dst≠some t:=Yk1 h
theorem Yhm (ht:Yaf P tb) (hG:GOk P G):∀ (l:List Oper) (n:Nat) (S:St) (T:List Rc) {R:Type} {k:St→List Rc→Option R} {r:R},
  (∀ m:Nat,l[m]? = ops[n+m]?)→Yhl tb hn np G ops.toList l S T k=some r→
  ∃ A S',k S' ((A.map (·.2)).reverse++T)=some r∧Run S A S'∧Num n A∧A.length=l.length∧(∀ x∈A,∃ o,Ynu P ops np x o)∧Later ops A
 |[],n,S,T,R,k,r,hl,h=>⟨[],S,by simp only[Yhl] at h;simpa using h,.refl S,trivial,rfl,by simp,trivial⟩
 |o::l,n,S,T,R,k,r,hl,h=>by
  simp only[Yhl] at h
  have hi:ops[n]? = some o:=by have:=hl 0;simpa using this.symm
  have hl':∀ m:Nat,l[m]? = ops[n+1+m]?:=fun m=>by
   have:=hl (m+1);rw[List.getElem?_cons_succ] at this
   rw[this,show n+(m+1)=n+1+m by omega]
  split at h
  ·rename_i hgt
   have hgt':∀ t,Ybi ops.toList o=some t→∀ o'∈o::l,o'.dst≠some t:=fun t e=>by rw[e] at hgt;exact Yqi hgt
   obtain⟨p,lg,h1,h2,h3,h4⟩:=Yoa ht hG hi (fun t e=>hgt' t e o (jF)) h
   split at h1
   ·rename_i hok
    simp only[jC] at hok
    have main:∀ p:Patch,(∀ T Q,Fits T lg→Sound P ops Q n o np T p)→Yl9 (Ybi ops.toList o) p.tm=true→Ykm o.dst p.tm=true→
      Yhl tb hn np G ops.toList l (S.ap p) (⟨lg,p⟩::T) k=some r→
      ∃ A S',k S' ((A.map (·.2)).reverse++T)=some r∧Run S A S'∧Num n A∧A.length=(o::l).length∧(∀ x∈A,∃ o,Ynu P ops np x o)∧Later ops A:=by
     intro p h4 hok1 hok2 h1;obtain⟨A,S',g1,g2,g3,g4,g5,g6⟩:=Yhm ht hG l (n+1) (S.ap p) _ hl' h1
     refine⟨(n,⟨lg,p⟩)::A,S',?_,⟨h2,g2⟩,⟨rfl,g3⟩,by simp[g4],?_,?_,g6⟩
     ·simpa using g1
     ·intro x hx
      rcases List.mem_cons.1 hx with rfl | hx
      ·exact⟨o,hi,h4,hok1,hok2,fun t e=>⟨h3 t e,hgt' t e o (jF)⟩⟩
      ·exact g5 x hx
     ·intro y hy o1 o2 t e1 e2 e3
      have:o1=o:=by
       rw[show ops[((n,⟨lg,p⟩):Ac).1]? = ops[n]? from rfl,hi] at e1;exact(jN e1).symm
      subst this;have hb:=g3.mem y hy;refine hgt' t e3 o2 (jG _ ?_);have:=hl' (y.1-(n+1))
      rw[show n+1+(y.1-(n+1))=y.1 by omega,e2] at this
      exact List.mem_of_getElem? this
    split at h1
    ·exact main p h4 hok.1 hok.2 h1
    ·rename_i t e hsp
     obtain⟨ow,hsl⟩:=Ynn hsp
     have hds:∀ b,Ykm o.dst (p.is t b).tm=true:=fun b=>by
      have:=hok.2
      cases hd:o.dst with
      |none=>rfl
      |some d=>
       rw[hd] at this;simp only[Ykm,Patch.is,Yfc] at this ⊢;rw[this,Bool.or_true]
     cases e with
     |true=>exact main (p.is t true) (fun T Q hT=>(h4 T Q hT).is hsl) hok.1 (hds true) h1
     |false=>exact main (p.is t false) (fun T Q hT=>(h4 T Q hT).is hsl) hok.1 (hds false) h1
   ·cases h1
  ·cases h
end
section
variable {a:Act}
variable {P:Program} {G:Gam}
theorem Yki:∀ (l:List Edge) (s:Nat),(Yo9 acc l s).testBit i=true→
  s.testBit i=true∨∃ e∈l,Region.binds .any e=true∧(i=e.on∨∃ m,lk e.on acc=some m∧m.testBit i=true)
 |[],s,h=>.inl h
 |e::l,s,h=>by
  simp only[Yo9] at h;rcases Yki l _ h with h | ⟨e',he,hb,h⟩
  ·split at h
   ·rename_i hb
    rw[Nat.testBit_or,Nat.testBit_or,Bool.or_eq_true,Bool.or_eq_true] at h;rcases h with h | h | h
    ·exact .inl h
    ·rw[Nat.testBit_two_pow,jI] at h
     exact .inr ⟨e,jF,hb,.inl h.symm⟩
    ·split at h
     ·rename_i m hm
      exact .inr ⟨e,jF,hb,.inr ⟨m,hm,h⟩⟩
     ·simp at h
   ·exact .inl h
  ·exact .inr ⟨e',jG _ he,hb,h⟩
def Bok (ops:Array Oper) (bs:List (Nat×Nat)):Prop:=∀ j m,lk j bs=some m→∀ i,m.testBit i=true→
 ∃ o,ops[j]? = some o∧∃ e∈o.after,Region.binds .any e=true∧(i=e.on∨(e.on<j∧∃ m',lk e.on bs=some m'∧m'.testBit i=true))
theorem Ybw {α:Type} (i j:Nat) (x:α) (l:List (Nat×α)):lk i ((j,x)::l)=if i=j then some x else lk i l:=by
 by_cases e:i=j
 ·subst e;simp[lk]
 ·rw[jM e]
  simp only[lk]
  rw[show Nat.beq i j=false from by rw[←Bool.not_eq_true,Nat.beq_eq];exact e]
theorem Ypa:∀ (l:List Oper) (n:Nat) (acc:List (Nat×Nat)),(∀ m:Nat,l[m]? = ops[n+m]?)→(∀ j m,lk j acc=some m→j<n)→Bok ops acc→Bok ops (Ysy n l acc)
 |[],n,acc,hl,hn,h=>h
 |o::l,n,acc,hl,hn,h=>by
  have hi:ops[n]? = some o:=by have:=hl 0;simpa using this.symm
  refine Ypa l (n+1) _ (fun m=>?_) (fun j m hj=>?_) ?_
  ·have:=hl (m+1)
   rw[List.getElem?_cons_succ] at this
   rw[this,show n+(m+1)=n+1+m by omega]
  ·rw[Ybw] at hj
   split at hj
   ·omega
   ·have:=hn j m hj;omega
  ·intro j m hj i hi'
   rw[Ybw] at hj
   split at hj
   ·rename_i e;subst e
    cases hj;rcases Yki _ _ hi' with h0 | ⟨e,he,hb,h0⟩
    ·simp at h0
    ·refine⟨o,hi,e,by simpa using he,hb,?_⟩
     rcases h0 with h0 | ⟨m',h1,h2⟩
     ·exact .inl h0
     ·have:=hn _ _ h1
      exact .inr ⟨this,m',by rw[Ybw,jM (by omega)];exact h1,h2⟩
   ·obtain⟨o',h1,e,he,hb,h2⟩:=h j m hj i hi'
    refine⟨o',h1,e,he,hb,?_⟩;rcases h2 with h2 | ⟨h3,m',h4,h5⟩
    ·exact .inl h2
    ·have:=hn _ _ h4
     exact .inr ⟨h3,m',by rw[Ybw,jM (by omega)];exact h4,h5⟩
def Closed (ops:Array Oper) (listed:Array Bool):Prop:=∀ (j:Nat) o,ops[j]? = some o→listed.getD j false=true→∀ e∈o.after,Region.binds .any e=true→listed.getD e.on false=true
theorem Yik (hb:Bok ops bs) (hc:Closed ops listed):∀ (n j:Nat),j<n→∀ o,ops[j]? = some o→(∀ e∈o.after,Region.binds .any e=true→listed.getD e.on false=true)→
  ∀ m,lk j bs=some m→∀ i,m.testBit i=true→listed.getD i false=true
 |0,j,hj,o,ho,he,m,hm,i,hi=>by omega
 |n+1,j,hj,o,ho,he,m,hm,i,hi=>by
  obtain⟨o',h1,e,h2,h3,h4⟩:=hb j m hm i hi
  have:o'=o:=by rw[ho] at h1;exact(jN h1).symm
  subst this;have hl:=he e h2 h3;rcases h4 with rfl | ⟨h5,m',h6,h7⟩
  ·exact hl
  ·obtain⟨o2,g1,_⟩:=hb _ _ h6 _ h7
   exact Yik hb hc n e.on (by omega) o2 g1 (hc e.on o2 g1 hl) m' h6 i h7
def Ord (bs:List (Nat×Nat)):List Ac→Prop
 |[]=>True
 |x::A=>(∀ y∈A,Apart x.2 y.2∨∃ m,lk y.1 bs=some m∧m.testBit x.1=true)∧Ord bs A
theorem Ord.append:∀ {A B:List Ac},Ord bs A→Ord bs B→(∀ x∈A,∀ y∈B,Apart x.2 y.2∨∃ m,lk y.1 bs=some m∧m.testBit x.1=true)→Ord bs (A++B)
 |[],B,h1,h2,h3=>h2
 |x::A,B,h1,h2,h3=>by
  refine⟨fun y hy=>?_,Ord.append h1.2 h2 (fun x hx=>h3 x (jG _ hx))⟩;rcases List.mem_append.1 hy with hy | hy
  ·exact h1.1 y hy
  ·exact h3 x jF y hy
theorem Num.append:∀ {A B:List Ac} {n:Nat},Num n (A++B)↔Num n A∧Num (n+A.length) B
 |[],B,n=>by simp[Num]
 |x::A,B,n=>by
  simp only[jQ,Num,jH,Num.append (A:=A)]
  rw[show n+1+A.length=n+(A.length+1) by omega,and_assoc]
theorem Yps {α:Type} {p:List α→Prop} (h0:p []) (h1:∀ l x,p l→p (l++[x])) (l:List α):p l:=by
 have:∀ l:List α,p l.reverse:=by
  intro l
  induction l with
  |nil=>exact h0
  |cons x l ih=>rw[List.reverse_cons];exact h1 _ _ ih
 have h:=this l.reverse
 rwa [List.reverse_reverse] at h
theorem Ytn {bj:Nat} {t:Rc}:∀ (A:List Ac) (n:Nat),Num n A→Yr9 bj t (n+A.length) (A.map (·.2)).reverse=true→∀ x∈A,Apart x.2 t∨bj.testBit x.1=true:=by
 intro A
 refine Yps (p:=fun A=>∀ n:Nat,Num n A→Yr9 bj t (n+A.length) (A.map (·.2)).reverse=true→∀ x∈A,Apart x.2 t∨bj.testBit x.1=true) ?_ ?_ A
 ·intro n _ _ x hx;cases hx
 ·intro A y ih
  intro n hN h x hx;rw[List.map_append,List.reverse_append] at h
  simp only[jS,qB,List.reverse_cons,List.reverse_nil,jO,jQ,Yr9,jC,Bool.or_eq_true,
   jP,jH,kD] at h
  obtain⟨h1,h2⟩:=Num.append.1 hN
  rw[show n+(A.length+(0+1))-1=n+A.length by omega] at h
  rcases List.mem_append.1 hx with hx | hx
  ·exact ih n h1 h.2 x hx
  ·rw[List.mem_singleton] at hx;subst hx
   rcases h.1 with h | h
   ·exact .inl (Yq4 h)
   ·rw[h2.1];exact .inr h
theorem Ysa {bs:List (Nat×Nat)}:∀ (A:List Ac) (n:Nat),Num n A→Ynb bs (n+A.length) (A.map (·.2)).reverse=true→Ord bs A:=by
 intro A
 refine Yps (p:=fun A=>∀ n:Nat,Num n A→Ynb bs (n+A.length) (A.map (·.2)).reverse=true→Ord bs A) ?_ ?_ A
 ·intro n _ _;trivial
 ·intro A y ih n hN h
  rw[List.map_append,List.reverse_append] at h
  simp only[jS,qB,List.reverse_cons,List.reverse_nil,jO,jQ,Ynb,jC,
   jP,jH,kD] at h
  obtain⟨h1,h2⟩:=Num.append.1 hN
  rw[show n+(A.length+(0+1))-1=n+A.length by omega] at h
  refine Ord.append (ih n h1 h.2) ⟨by simp,trivial⟩ (fun x hx z hz=>?_)
  rw[List.mem_singleton] at hz;subst hz;rcases Ytn A n h1 h.1 x hx with h3 | h3
  ·exact .inl h3
  ·rw[h2.1]
   cases hm:lk (n+A.length) bs with
   |none=>rw[hm] at h3;simp at h3
   |some m=>rw[hm] at h3;exact .inr ⟨m,rfl,h3⟩
theorem Ykn:∀ {l:List Edge},Yex.edges n l=true→∀ e∈l,Region.binds .any e=true→e.on<n
 |[],h,e,he,hb=>by cases he
 |x::l,h,e,he,hb=>by
  simp only[Yex.edges,jC] at h;rcases List.mem_cons.1 he with rfl | he
  ·have:=h.1;rw[hb] at this;simpa [Nat.blt_eq] using this
  ·exact Ykn h.2 e he hb
theorem Yhk:∀ {l:List Oper} {n:Nat},Yex n l=true→(∀ m:Nat,l[m]? = ops[n+m]?)→∀ j o,n≤j→ops[j]? = some o→∀ e∈o.after,Region.binds .any e=true→e.on<j
 |[],n,h,hl,j,o,hj,ho,e,he,hb=>by
  have:=hl (j-n)
  rw[show n+(j-n)=j by omega,ho] at this
  cases this
 |x::l,n,h,hl,j,o,hj,ho,e,he,hb=>by
  simp only[Yex,jC] at h
  by_cases e1:j=n
  ·subst e1
   have:=hl 0;simp only[kF,List.getElem?_cons_zero] at this;rw[ho] at this;cases this
   exact Ykn h.1 e (by simpa using he) hb
  ·refine Yhk h.2 (fun m=>?_) j o (by omega) ho e he hb
   have:=hl (m+1);rw[List.getElem?_cons_succ] at this
   rw[this,show n+(m+1)=n+1+m by omega]
end
section
variable {a:Act}
variable {P:Program} {G:Gam}
theorem Yfi (n:Nat) (s:Src) (i:Nat):s.cell {w with drawn:=n } i=s.cell w i:=by cases s<;>rfl
theorem Yk0 (n:Nat):∀ (p:Path) (v:TV) (s:Src),nav {w with drawn:=n } v s p=nav w v s p:=by
 intro p
 induction p with
 |nil=>intro v s;rw[Yf,Yf]
 |cons x p ih=>
  intro v s
  cases x<;>cases v<;>first | rfl | (simp only[nav,ih];done) | (rename_i o t x;cases t<;>first | rfl | simp only[nav,ih,Yfi])
theorem Gs.drawn (M:Yd) (ρ:Yc) (L:Nat→Src) (n:Nat):Gs w {w with drawn:=n } M M ρ ρ L L Dd.none where
 size:=jB _
 st:=fun b h _=>⟨rfl,h⟩
 rl:=fun r q R b off _ h1 h2=>⟨R,h1,by rw[Yk0];exact h2⟩
 rs:=fun r q R s _ h1 h2 o e xs h3=>⟨R,h1,by rw[Yk0];exact h2,Yfi n s 0,o,xs,h3,rfl⟩
theorem Yz.never:∀ v:TV,Yz Dd.none v:=by
 intro v
 induction v with
 |pr a b iha ihb=>exact⟨iha,ihb⟩
 |clo f c ih=>exact ih
 |loc=>exact fun h=>h
 |seg=>exact fun h=>h
 |sub=>exact fun h=>h
 |_=>trivial
theorem Inv.drawn (I:Inv Z S C a w) (n:Nat):Inv Z S C a {w with drawn:=n }:=by
 have g:=Gs.drawn (w:=w) (Mt Z C S.root noB) S.root C.L n;refine⟨?_,fun i v hv=>?_,I.df,I.ts⟩
 ·refine {I.str with
   rep:=fun r R hr=>(I.str.rep r R hr).go ⟨jB _,fun _ _=>rfl,fun b h _=>⟨rfl,h⟩⟩ (fun i _=>Yfi n _ i) (fun v u h=>Yi.go g (Yz.never v) h)
   mem:=fun r R hr hk=>I.str.mem r R hr hk }
 ·exact(I.tm i v hv).go g (Kd.refl (fun v=>Yz.never v) v) (fun _ _ _ _=>rfl)
theorem Yk9 (hnp:∀ i,np≤i→Z.P i=none) (hd:∀ (i:Nat) o d,ops[i]? = some o→o.dst=some d→d<Z.nt)
  (hQ:∀ C a w,Inv Z S' C a w→Q .normal a w):∀ (A:List Ac) (S:St) (C:Cx) (a:Act) (w:World),Run S A S'→(∀ x∈A,∃ o,Ynu P ops np x o)→Later ops A→GdI ops S A→Inv Z S C a w→
  wpOps P ops Q (A.map (·.1)) a w
 |[],S,C,a,w,hr,ho,hl,hg,I=>hQ C a w ((show Eqv S S' from hr).inv I)
 |x::A,S,C,a,w,hr,ho,hl,hg,I=>by
  rw[jS,wpOps_cons];obtain⟨o,hx⟩:=ho x jF;refine hx.so S Q hr.1 Z C a w _ I hnp (hg.free jF hx.op) (fun d e=>hd x.1 o d hx.op e) (fun C' a' w' I'=>?_)
  exact Yk9 hnp hd hQ A _ C' a' w' hr.2 (fun y hy=>ho y (jG _ hy)) hl.2 (GdI.step (A:=[]) hg hx (by simp) hl.1 (by simp)) I'
theorem Later.drop:∀ {A:List Ac} {x:Ac} {B:List Ac},Later ops (A++x::B)→Later ops (A++B)∧∀ y∈B,Yld ops x y
 |[],x,B,h=>⟨h.2,h.1⟩
 |z::A,x,B,h=>by
  obtain⟨h1,h2⟩:=Later.drop h.2;refine⟨⟨fun y hy=>h.1 y ?_,h1⟩,h2⟩;rcases List.mem_append.1 hy with hy | hy
  ·exact jW _ hy
  ·exact kB _ (jG _ hy)
theorem Ord.drop:∀ {A:List Ac} {x:Ac} {B:List Ac},Ord bs (A++x::B)→Ord bs (A++B)∧∀ y∈A,Apart y.2 x.2∨∃ m,lk x.1 bs=some m∧m.testBit y.1=true
 |[],x,B,h=>⟨h.2,by simp⟩
 |z::A,x,B,h=>by
  obtain⟨h1,h2⟩:=Ord.drop h.2;refine⟨⟨fun y hy=>h.1 y ?_,h1⟩,fun y hy=>?_⟩
  ·rcases List.mem_append.1 hy with hy | hy
   ·exact jW _ hy
   ·exact kB _ (jG _ hy)
  ·rcases List.mem_cons.1 hy with rfl | hy
   ·exact h.1 x (by simp)
   ·exact h2 y hy
def Yny:List Ac→Prop
 |[]=>True
 |x::A=>(∀ y∈A,x.1<y.1)∧Yny A
theorem Num.rise:∀ {A:List Ac} {n:Nat},Num n A→Yny A
 |[],n,h=>trivial
 |x::A,n,h=>⟨fun y hy=>by have:=h.2.mem y hy;have:=h.1;omega,h.2.rise⟩
theorem Yny.drop:∀ {A:List Ac} {x:Ac} {B:List Ac},Yny (A++x::B)→Yny (A++B)∧(∀ y∈A,y.1≠x.1)∧(∀ y∈B,y.1≠x.1)
 |[],x,B,h=>⟨h.2,by simp,fun y hy=>by have:=h.1 y hy;omega⟩
 |z::A,x,B,h=>by
  obtain⟨h1,h2,h3⟩:=Yny.drop h.2;refine⟨⟨fun y hy=>h.1 y ?_,h1⟩,fun y hy=>?_,h3⟩
  ·rcases List.mem_append.1 hy with hy | hy
   ·exact jW _ hy
   ·exact kB _ (jG _ hy)
  ·rcases List.mem_cons.1 hy with rfl | hy
   ·have:=h.1 x (by simp);omega
   ·exact h2 y hy
theorem Ykg (hnp:∀ i,np≤i→Z.P i=none) (hd:∀ (i:Nat) o d,ops[i]? = some o→o.dst=some d→d<Z.nt)
  (hQ:∀ C a w,Inv Z S' C a w→Q .normal a w) (hb:Bok ops bs) (he:∀ (j:Nat) o,ops[j]? = some o→∀ e∈o.after,Region.binds .any e=true→e.on<j) :
  ∀ (n:Nat) (A:List Ac) (listed:Array Bool) (S:St) (C:Cx) (a:Act) (w:World),A.length=n→listed.size=ops.size→(∀ i,i<ops.size→(listed.getD i true=false↔∃ x∈A,x.1=i))→
   Closed ops listed→Yny A→Ord bs A→Run S A S'→(∀ x∈A,∃ o,Ynu P ops np x o)→Later ops A→GdI ops S A→Inv Z S C a w→wpAny P .any ops Q n listed a w
 |0,A,listed,S,C,a,w,hA,hs,hl,hc,hri,hor,hr,ho,hla,hg,I=>by
  have e:=kL hA;subst e;refine⟨?_,hQ C a w ((show Eqv S S' from hr).inv I)⟩
  cases hR:Region.ready .any ops listed with
  |nil=>rfl
  |cons i l=>
   have hi:i∈Region.ready .any ops listed:=by rw[hR];exact jF
   obtain⟨h1,o,h2,_⟩:=mem_ready.1 hi;obtain⟨x,hx,_⟩:=(hl i (Array.getElem?_eq_some_iff.1 h2).1).1 h1
   cases hx
 |n+1,A,listed,S,C,a,w,hA,hs,hl,hc,hri,hor,hr,ho,hla,hg,I=>by
  have inA:∀ i,i<ops.size→listed.getD i false=false→∃ x∈A,x.1=i:=by
   intro i hi h0;refine(hl i hi).1 ?_;simp[hs,hi] at h0 ⊢;exact h0
  refine⟨fun hR=>?_,fun i hi=>?_⟩
  ·cases A with
   |nil=>cases hA
   |cons x A=>
    exfalso;obtain⟨o,hx⟩:=ho x jF;have hlt:=(Array.getElem?_eq_some_iff.1 hx.op).1
    have:x.1∈Region.ready .any ops listed:=by
     refine mem_ready.2 ⟨(hl x.1 hlt).2 ⟨x,jF,rfl⟩,o,hx.op,fun e hee hbb=>?_⟩;have h1:=he x.1 o hx.op e hee hbb
     cases hv:listed.getD e.on false with
     |true=>rfl
     |false=>
      obtain⟨y,hy,hy2⟩:=inA e.on (by omega) hv
      rcases List.mem_cons.1 hy with rfl | hy
      ·omega
      ·have:=hri.1 y hy;omega
    rw[hR] at this;cases this
  ·obtain⟨h1,o,h2,h3⟩:=mem_ready.1 hi
   have hlt:=(Array.getElem?_eq_some_iff.1 h2).1;obtain⟨x,hx,rfl⟩:=(hl i hlt).1 h1;obtain⟨pre,post,rfl⟩:=List.append_of_mem hx;obtain⟨or1,or2⟩:=hor.drop;obtain⟨la1,la2⟩:=hla.drop;obtain⟨ri1,ri2,ri3⟩:=hri.drop
   have hpre:∀ y∈pre,Apart y.2 x.2:=by
    intro y hy;rcases or2 y hy with h | ⟨m,hm,hbit⟩
    ·exact h
    ·exfalso
     have:=Yik hb hc (x.1+1) x.1 (by omega) o h2 h3 m hm y.1 hbit
     obtain⟨oy,hoy⟩:=ho y (jW _ hy);have hyl:=(hl y.1 (Array.getElem?_eq_some_iff.1 hoy.op).1).2 ⟨y,jW _ hy,rfl⟩;have hyt:=(Array.getElem?_eq_some_iff.1 hoy.op).1;simp[hs,hyt] at this hyl;rw[this] at hyl;cases hyl
   obtain⟨f1,f2⟩:=hr.bubble hpre;obtain⟨o',hx'⟩:=ho x hx
   have:o'=o:=by have:=hx'.op;rw[h2] at this;exact(jN this).symm
   subst this;refine hx'.so S Q f1 Z C a w _ I hnp (hg.free hx h2) (fun d e=>hd x.1 o' d h2 e) (fun C' a' w' I'=>?_)
   have hsub:∀ y∈pre++post,y∈pre++x::post:=by
    intro y hy;rcases List.mem_append.1 hy with hy | hy
    ·exact jW _ hy
    ·exact kB _ (jG _ hy)
   refine Ykg hnp hd hQ hb he n (pre++post) _ _ C' a' w' ?_ (by simp[hs]) (fun j hj=>?_) ?_ ri1 or1 f2 (fun y hy=>ho y (hsub y hy)) la1
    (GdI.step hg hx' hpre la2 (fun y hy=>ho y (jW _ hy))) I'
   ·simp at hA ⊢;omega
   ·by_cases e:x.1=j
    ·subst e
     constructor
     ·intro hh;simp[hs,hj] at hh
     ·rintro⟨y,hy,hy2⟩
      rcases List.mem_append.1 hy with hy | hy
      ·exact absurd hy2 (ri2 y hy)
      ·exact absurd hy2 (ri3 y hy)
    ·rw[getD_set_ne true e,hl j hj]
     constructor
     ·rintro⟨y,hy,rfl⟩
      rcases List.mem_append.1 hy with hy | hy
      ·exact⟨y,jW _ hy,rfl⟩
      ·rcases List.mem_cons.1 hy with rfl | hy
       ·exact absurd rfl e
       ·exact⟨y,kB _ hy,rfl⟩
     ·rintro⟨y,hy,rfl⟩;exact⟨y,hsub y hy,rfl⟩
   ·intro j oj hj hjl e hee hbb
    by_cases e1:x.1=j
    ·subst e1
     rw[h2] at hj;cases hj;exact getD_set_true (h3 e hee hbb)
    ·rw[getD_set_ne false e1] at hjl
     exact getD_set_true (hc j oj hj hjl e hee hbb)
end
section
variable {a:Act}
variable {P:Program} {G:Gam}
def Ya8 (S:St):Prop:=∀ s t b v,lk s S.tm≠some (.gd t b v)
theorem Yl8:∀ (l:List (Nat×TV)) (i:Nat) (v:TV),lk i (Yjj l)=some v→(lk i l=some v∧∀ t b u,v≠.gd t b u)∨v=.dead 1
 |[],i,v,h=>by cases h
 |(j,y)::l,i,v,h=>by
  have ih:=Yl8 l i v
  have key:∀ y',(∀ t b u,y'≠.gd t b u)→lk i ((j,y')::Yjj l)=some v→(y'=y∨y'=.dead 1)→(lk i ((j,y)::l)=some v∧∀ t b u,v≠.gd t b u)∨v=.dead 1:=by
   intro y' hy' hh he;rw[Ybw] at hh ⊢
   split at hh
   ·cases hh
    rcases he with rfl | rfl
    ·rename_i e;rw[jL e];exact .inl ⟨rfl,hy'⟩
    ·exact .inr rfl
   ·rename_i e;rw[jM e];exact ih hh
  cases y with
  |gd t b u=>exact key (.dead 1) (fun _ _ _ e=>by cases e) h (.inr rfl)
  |_=>exact key _ (fun _ _ _ e=>by cases e) h (.inl rfl)
theorem Inv.Yjj (I:Inv Z S C a w):Inv Z {S with tm:=Yjj S.tm } C a w:=by
 refine⟨I.str,fun i v hv=>?_,I.df,I.ts⟩;rcases Yl8 _ _ _ hv with ⟨h,_⟩ | rfl
 ·exact I.tm i v h
 ·trivial
theorem Yf3:∀ {l:List Oper},guarded l=false→∀ o∈l,o.guard=none
 |[],h,o,ho=>by cases ho
 |x::l,h,o,ho=>by
  simp only[guarded,Bool.or_eq_false_iff] at h;rcases List.mem_cons.1 ho with rfl | ho
  ·cases hg:o.guard with
   |none=>rfl
   |some y=>rw[hg] at h;cases h.1
  ·exact Yf3 h.2 o ho
theorem Run.Yjj:∀ {A:List Ac} {S S':St},Run S A S'→Ya8 S→(∀ x∈A,∃ o,Ynu P ops np x o∧o.guard=none)→Ya8 S'
 |[],S,S',h,hS,hA=>fun s t b v hv=>hS s t b v (((show Eqv S S' from h).tm s).trans hv)
 |x::A,S,S',h,hS,hA=>by
  refine Run.Yjj h.2 (fun s t b v hv=>?_) (fun y hy=>hA y (jG _ hy));obtain⟨o,hx,hg⟩:=hA x jF;rw[Yeh] at hv
  split at hv
  ·rename_i v' hv'
   cases hv;have:=Yma hx.tm s t b v hv';unfold Ybi at this;rw[hg] at this;cases this
  ·cases hs:lk s S.tm with
   |none=>rw[hs] at hv;cases hv
   |some v0=>
    rw[hs] at hv;simp only[jT,jD] at hv;obtain⟨u',rfl⟩:=Yg5 hv;exact hS s t b u' hs
theorem Yn9 (I:Inv Z S C a w):Inv Z (Yfk l S) C a w:=by
 unfold Yfk
 split
 ·exact I.Yjj
 ·exact I
theorem Yp4 (h:guarded l=true):Ya8 (Yfk l S):=by
 unfold Yfk;rw[h];intro s t b v hv;rcases Yl8 _ _ _ hv with ⟨_,h⟩ | h
 ·exact h t b v rfl
 ·cases h
theorem Yiq:∀ {l:List Oper},Ylr nt l=true→∀ o∈l,∀ d,o.dst=some d→d<nt
 |[],h,o,ho,d,hd=>by cases ho
 |x::l,h,o,ho,d,hd=>by
  simp only[Ylr,jC] at h;rcases List.mem_cons.1 ho with rfl | ho
  ·have:=h.1;rw[hd] at this;simpa [Nat.blt_eq] using this
  ·exact Yiq h.2 o ho d hd
theorem Num.range:∀ {A:List Ac} {n:Nat},Num n A→A.map (·.1)=List.range' n A.length
 |[],n,h=>rfl
 |x::A,n,h=>by
  rw[jS,jH,List.range'_succ,h.1,h.2.range]
theorem Num.ex:∀ {A:List Ac} {n:Nat},Num n A→∀ i,n≤i→i<n+A.length→∃ x∈A,x.1=i
 |[],n,h,i,h1,h2=>by simp at h2;omega
 |x::A,n,h,i,h1,h2=>by
  simp only[jH] at h2
  by_cases e:i=n
  ·exact⟨x,jF,by rw[h.1,e]⟩
  ·obtain⟨y,hy,hy2⟩:=h.2.ex i (by omega) (by omega)
   exact⟨y,jG _ hy,hy2⟩
theorem Ymv (ht:Yaf P tb) (hG:GOk P G) (hm:P.follows .mixedOrders=true) {draw:Bool} {R:Type} {k:St→Option R} {r:R} (hS:Ya8 S)
  (h:Yrj tb hn nt np G draw ops S k=some r):∃ S',k S'=some r∧Ya8 S'∧∀ (Z:W0) (C:Cx) (a:Act) (w:World) (id:Nat) (Q:Exit→Act→World→Prop),Z.nt=nt→(∀ i,np≤i→Z.P i=none)→
   Inv Z S C a w→(∀ C a w,Inv Z S' C a w→Q .normal a w)→(Code.region id ops draw).wp P Q a w:=by
 unfold Yrj at h
 split at h
 ·cases h
 ·rename_i hdst
  have hl:∀ m:Nat,ops.toList[m]? = ops[0+m]?:=fun m=>by simp
  obtain⟨A,S',h1,h2,h3,h4,h5,h6⟩:=Yhm ht hG ops.toList 0 S [] hl h
  split at h1
  ·rename_i hord
   rw[qC] at hord;have hgd0:GdI ops S A:=fun s t b v hv=>absurd hv (hS s t b v)
   have hds:∀ (i:Nat) o d,ops[i]? = some o→o.dst=some d→d<nt:=fun i o d ho hd=>
    Yiq hdst o (by simpa using Array.mem_of_getElem? ho) d hd
   refine⟨_,h1,?_,fun Z C a w id Q hnt hnp I hQ=>?_⟩
   ·cases hg:guarded ops.toList with
    |true=>exact Yp4 hg
    |false=>
     rw[show Yfk ops.toList S'=S' by unfold Yfk;rw[hg]]
     refine Run.Yjj (P:=P) (np:=np) (ops:=ops) h2 hS (fun x hx=>?_);obtain⟨o,ho⟩:=h5 x hx
     exact⟨o,ho,Yf3 hg o (by simpa using Array.mem_of_getElem? ho.op)⟩
   ·subst hnt
    have hQ':∀ C a w,Inv Z S' C a w→Q .normal a w:=fun C a w I=>hQ C a w (Yn9 I)
    have hlen:A.length=ops.size:=by rw[h4];simp
    cases draw with
    |false=>
     refine wp_region ?_;have:=Yk9 hnp hds hQ' A S C a w h2 h5 h6 hgd0 I;rw[h3.range,hlen] at this
     rw[List.range_eq_range'];exact this
    |true=>
     simp only[jC] at hord;refine wp_region_any hm ?_;have hN:Num 0 A:=h3
     refine Ykg hnp hds hQ' (bs:=Ysy 0 ops.toList []) ?_ ?_ ops.size A _ S C a _ hlen (by simp) (fun i hi=>?_) ?_ h3.rise ?_ h2 h5 h6 hgd0 (I.drawn _)
     ·exact Ypa ops.toList 0 [] hl (fun j m hj=>by cases hj) (fun j m hj=>by cases hj)
     ·exact fun j o ho e he hb=>Yhk hord.1 hl j o (kE _) ho e he hb
     ·constructor
      ·intro _;exact h3.ex i (kE _) (by omega)
      ·intro _;simp[hi]
     ·intro j o ho hj;exfalso
      simp only[kU] at hj
      cases hh:(Array.replicate ops.size false)[j]? with
      |none=>rw[hh] at hj;cases hj
      |some b=>
       rw[hh] at hj;rw[Array.getElem?_replicate] at hh
       split at hh<;>cases hh
       cases hj
     ·refine Ysa A 0 h3 ?_
      rw[show 0+A.length=ops.toList.length by rw[h4,jJ]]
      exact hord.2
  ·cases h1
end
section
variable {a:Act}
def Yr8 (b:List Nat):Dd:=⟨fun r _=>Yay r b=false,fun r _=>Yay r b=false⟩
theorem Yd0 (b:List Nat):∀ v:TV,Kd (Yz (Yr8 b)) v (v.only b):=by
 have key:∀ v v':TV,∀ r,(v'=match Yay r b with | true=>v | false=>.dead 1)→(Yay r b=true→Yz (Yr8 b) v)→(v'=v∧Yz (Yr8 b) v)∨v'=.dead 1:=by
  intro v v' r e h
  cases hr:Yay r b with
  |true=>rw[hr] at e;exact .inl ⟨e,h hr⟩
  |false=>rw[hr] at e;exact .inr e
 intro v
 induction v with
 |pr a b iha ihb=>exact⟨_,_,rfl,iha,ihb⟩
 |tup l ih=>exact⟨_,rfl,ih⟩
 |gd t w v ih=>exact⟨_,rfl,ih⟩
 |cl o t x=>rfl
 |dead n=>rfl
 |rw o e xs i v=>rfl
 |kb n=>rfl
 |op n=>rfl
 |nl=>exact .inl ⟨rfl,trivial⟩
 |pt t x=>exact .inl ⟨rfl,trivial⟩
 |loc r q=>exact key (.loc r q) _ r rfl (fun h e=>by rw[show Yay r b=false from e] at h;cases h)
 |seg r q=>exact key (.seg r q) _ r rfl (fun h e=>by rw[show Yay r b=false from e] at h;cases h)
 |sub r q lo n=>exact key (.sub r q lo n) _ r rfl (fun h e=>by rw[show Yay r b=false from e] at h;cases h)
 |clo f c ih=>
  have h0:(TV.clo f c).only b=match (c.only b).live with | true=>.clo f c | false=>.dead 1:=rfl
  rw[h0]
  have al:∀ c:TV,(c.only b).live=true→Yz (Yr8 b) c:=by
   intro c
   induction c with
   |pr x y ihx ihy=>intro h;simp only[TV.only,TV.live,jC] at h;exact⟨ihx h.1,ihy h.2⟩
   |loc r q=>intro h e;have e:Yay r b=false:=e;simp only[TV.only,e] at h;cases h
   |seg r q=>intro h e;have e:Yay r b=false:=e;simp only[TV.only,e] at h;cases h
   |sub r q lo n=>intro h e;have e:Yay r b=false:=e;simp only[TV.only,e] at h;cases h
   |clo f c ih=>
    intro h
    cases hc:(c.only b).live with
    |true=>exact ih hc
    |false=>simp only[TV.only,hc] at h;cases h
   |_=>intro _;trivial
  cases hc:(c.only b).live with
  |true=>exact .inl ⟨rfl,al c hc⟩
  |false=>exact .inr rfl
theorem Yez:∀ (l:List Nat) {i:Nat} {v:TV},lk i (Yfm S b l)=some v→∃ v0,lk i S.tm=some v0∧v=v0.only b
 |[],i,v,h=>by cases h
 |j::l,i,v,h=>by
  simp only[Yfm] at h
  split at h
  ·rename_i v0 hv0
   rw[Ybw] at h
   split at h
   ·rename_i e;subst e;cases h;exact⟨v0,hv0,rfl⟩
   ·exact Yez l h
  ·exact Yez l h
theorem Yg3:∀ (l:List Nat) (r:Nat),(Yay r l=true→lk r (Yb6 S b l)=(S.root r).map fun R=>some {R with tv:=R.tv.only b })∧(Yay r l=false→lk r (Yb6 S b l)=none)
 |[],r=>⟨(fun h=>by cases h),fun _=>rfl⟩
 |j::l,r=>by
  have ih:=Yg3 (b:=b) l r
  by_cases e:r=j
  ·subst e
   have hb:Yay r (r::l)=true:=by simp[Yay]
   refine⟨fun _=>?_,fun h=>by rw[hb] at h;cases h⟩
   simp only[Yb6]
   cases hR:S.root r with
   |some R=>simp only;rw[Ybw,jL rfl];rfl
   |none=>
    simp only
    cases hl:Yay r l with
    |true=>rw[ih.1 hl,hR]
    |false=>rw[ih.2 hl];rfl
  ·have hb:Yay r (j::l)=Yay r l:=by
    simp only[Yay];rw[show Nat.beq r j=false from by rw[←Bool.not_eq_true,Nat.beq_eq];exact e,Bool.false_or]
   rw[hb]
   have hk:lk r (Yb6 S b (j::l))=lk r (Yb6 S b l):=by
    simp only[Yb6]
    split
    ·rw[Ybw,jM e]
    ·rfl
   rw[hk];exact ih
def Root.only (b:List Nat) (R:Root):Root:={R with tv:=R.tv.only b }
theorem Yg4 (A b:List Nat) (r:Nat):(S.keep A b).root r=match Yay r b with | true=>(S.root r).map (Root.only b) | false=>none:=by
 unfold St.keep
 show(match lk r (Yb6 S b b) with | some (some R)=>some R | _=>none)=_
 cases hb:Yay r b with
 |true=>
  rw[(Yg3 b r).1 hb]
  cases S.root r<;>rfl
 |false=>rw[(Yg3 b r).2 hb]
theorem Y5 (h:(S.keep A b).root r=some R'):∃ R,S.root r=some R∧R'=Root.only b R∧Yay r b=true:=by
 rw[Yg4] at h
 split at h
 ·rename_i hb
  cases hR:S.root r with
  |none=>rw[hR] at h;cases h
  |some R=>rw[hR] at h;cases h;exact⟨R,rfl,rfl,hb⟩
 ·cases h
theorem Yo8 (Z:W0) (C:Cx) (A b:List Nat) (G:Yd):Ye (Mt Z C (S.keep A b).root G) (Mt Z C S.root G):=by
 intro x hx;rcases hx with ⟨r,R',hr,ht⟩ | hx
 ·obtain⟨R,h1,rfl,_⟩:=Y5 hr
  exact .inl ⟨r,R,h1,ht⟩
 ·exact .inr hx
theorem Gs.keep (Z:W0) (C:Cx) (A b:List Nat):Gs w w (Mt Z C S.root noB) (Mt Z C (S.keep A b).root noB) S.root (S.keep A b).root C.L C.L (Yr8 b) where
 size:=jB _
 st:=fun x hx _=>⟨rfl,fun h=>hx (Yo8 Z C A b noB x h)⟩
 rl:=fun r q R bb off hd hr hn=>by
  have hb:Yay r b=true:=by cases h:Yay r b with | true=>rfl | false=>exact absurd h hd
  exact⟨Root.only b R,by rw[Yg4,hb,hr];rfl,Kd.nav w q (Yd0 b R.tv) hn⟩
 rs:=fun r q R s hd hr hn o e xs hg=>by
  have hb:Yay r b=true:=by cases h:Yay r b with | true=>rfl | false=>exact absurd h hd
  exact⟨Root.only b R,by rw[Yg4,hb,hr];rfl,Kd.nav w q (Yd0 b R.tv) hn,rfl,o,xs,Kd.gr q (Yd0 b R.tv) hg,rfl⟩
theorem Yqk (b:List Nat) (v:TV):(v.only b).size=v.size:=(Yd0 b v).size
theorem Inv.keep (I:Inv Z S C a w) (A b:List Nat):Inv Z (S.keep A b) C a w:=by
 have g:=Gs.keep (w:=w) (S:=S) Z C A b;refine⟨?_,fun i v hv=>?_,I.df,I.ts⟩
 ·have st:=I.str
  refine {st with rep:=?_,reg:=?_,mem:=?_,bnd:=?_,dis:=?_,gdis:=?_,plc:=?_ }
  ·intro r R' hr
   obtain⟨R,h1,rfl,h2⟩:=Y5 hr;have h3:=(st.rep r R h1).kd (Lf':=Yi w (Mt Z C (S.keep A b).root noB) C.L (S.keep A b).root) (fun _ _ h=>h.Yi9) (fun v u hv h=>Yi.go g hv h) (Yd0 b R.tv);exact h3.mono (Yo8 Z C A b noB)
  ·intro r R' hr hk
   obtain⟨R,h1,rfl,h2⟩:=Y5 hr;exact st.reg r R h1 hk
  ·intro r R' hr hk
   obtain⟨R,h1,rfl,h2⟩:=Y5 hr;obtain⟨bb,off,g1,g2,g3,g4,g5,g6⟩:=st.mem r R h1 hk;have e:(Root.only b R).tv.size=R.tv.size:=Yqk b R.tv;rw[e];exact⟨bb,off,g1,g2,g3,g4,g5,g6⟩
  ·intro r R' x hr hF
   obtain⟨R,h1,rfl,h2⟩:=Y5 hr;exact st.bnd r R x h1 hF
  ·intro r r' R1 R2 hne hr hr'
   obtain⟨Ra,h1,rfl,_⟩:=Y5 hr;obtain⟨Rb,h2,rfl,_⟩:=Y5 hr';exact st.dis r r' Ra Rb hne h1 h2
  ·intro r R' hr
   obtain⟨R,h1,rfl,h2⟩:=Y5 hr;exact st.gdis r R h1
  ·intro r R' hr
   obtain⟨R,h1,rfl,h2⟩:=Y5 hr;exact st.plc r R h1
 ·obtain⟨v0,h1,rfl⟩:=Yez A hv
  exact(I.tm i v0 h1).go g (Yd0 b v0) (fun _ _ _ _=>rfl)
theorem Ytm {b:List Nat} {v u:TV} {t:Nat} {x:Bool} (h:v.only b=.gd t x u):∃ u',v=.gd t x u':=by
 have hk:=Yd0 b v;rw[h] at hk
 cases v with
 |gd t' b' v'=>obtain⟨u',e,_⟩:=hk;cases e;exact⟨_,rfl⟩
 |pr=>obtain⟨_,_,e,_⟩:=hk;cases e
 |tup=>obtain⟨_,e,_⟩:=hk;cases e
 |cl=>cases (show _=_ from hk)
 |dead=>cases (show _=_ from hk)
 |kb=>cases (show _=_ from hk)
 |op=>cases (show _=_ from hk)
 |_=>rcases hk with ⟨e,_⟩ | e<;>cases e
theorem Ya8.keep (h:Ya8 S) (A b:List Nat):Ya8 (S.keep A b):=by
 intro s t x v hv;obtain⟨v0,h1,h2⟩:=Yez A hv;obtain⟨u',rfl⟩:=Ytm h2.symm;exact h s t x u' h1
end
section
variable {a:Act}
def PT.closed (b:List Nat):PT→Bool
 |.pr x y=>x.closed b&&y.closed b
 |.loc r _ | .seg r _ | .sub r _=>Yay r b
 |.clo _ c=>c.closed b
 |.tup l=>l.closed b
 |_=>true
def Ygr (b:List Nat):List (Nat×PT)→Bool
 |[]=>true
 |(_,p)::l=>p.closed b&&Ygr b l
def Ygl (b:List Nat):List (Nat×Kind×PT)→Bool
 |[]=>true
 |(_,_,p)::l=>p.closed b&&Ygl b l
def SP.tk (s:SP):List Nat:=s.tm.map (·.1)
def SP.rk (s:SP):List Nat:=s.rt.map (·.1)
def SP.closed (s:SP):Bool:=Ygr s.rk s.tm&&Ygl s.rk s.rt
theorem PS.Yfd:∀ {p:List PS} {q:Path} {x:PS.Els p},PS.rd p q=some x→PS.mk p x=q
 |[],[],x,h=>rfl
 |[],_::_,x,h=>by cases h
 |.el::p,[],x,h=>by cases h
 |.f1::p,[],x,h=>by cases h
 |.f2::p,[],x,h=>by cases h
 |.el::p,.el i::q,x,h=>by
  simp only[PS.rd] at h
  split at h
  ·rename_i y hy;cases h;simp only[PS.mk,PS.Yfd hy]
  ·cases h
 |.el::p,.f1::q,x,h=>by cases h
 |.el::p,.f2::q,x,h=>by cases h
 |.f1::p,.f1::q,x,h=>by simp only[PS.mk];rw[PS.Yfd (show PS.rd p q=some x from h)]
 |.f1::p,.el _::q,x,h=>by cases h
 |.f1::p,.f2::q,x,h=>by cases h
 |.f2::p,.f2::q,x,h=>by simp only[PS.mk];rw[PS.Yfd (show PS.rd p q=some x from h)]
 |.f2::p,.el _::q,x,h=>by cases h
 |.f2::p,.f1::q,x,h=>by cases h
theorem PT.Yfd:∀ {p:PT} {v:TV} {x:p.El},p.rd v=some x→p.mk x=v:=by
 intro p
 induction p with
 |cl o t=>
  intro v x h
  cases v<;>try cases h
  simp only[PT.rd] at h
  split at h
  ·rename_i h1 h2 _ _;subst h1;subst h2;cases h;rfl
  ·cases h
 |pr a b iha ihb=>
  intro v x h
  cases v<;>try cases h
  simp only[PT.rd] at h
  split at h
  ·rename_i h1 h2;cases h;simp only[PT.mk,iha h1,ihb h2]
  ·cases h
 |nl=>intro v x h;cases v<;>first | rfl | cases h
 |loc r p=>
  intro v x h
  cases v<;>try cases h
  simp only[PT.rd] at h
  split at h
  ·rename_i e;rw[Nat.beq_eq] at e;subst e;simp only[PT.mk,PS.Yfd h]
  ·cases h
 |seg r p=>
  intro v x h
  cases v<;>try cases h
  simp only[PT.rd] at h
  split at h
  ·rename_i e;rw[Nat.beq_eq] at e;subst e;simp only[PT.mk,PS.Yfd h]
  ·cases h
 |sub r p=>
  intro v x h
  cases v<;>try cases h
  simp only[PT.rd] at h
  split at h
  ·rename_i e;rw[Nat.beq_eq] at e;subst e
   split at h
   ·rename_i hy;cases h;simp only[PT.mk,PS.Yfd hy]
   ·cases h
  ·cases h
 |pt t=>
  intro v x h
  cases v<;>try cases h
  simp only[PT.rd] at h
  split at h
  ·rename_i h1 _;subst h1;cases h;rfl
  ·cases h
 |op a ih=>
  intro v x h
  cases v<;>try cases h
  simp only[PT.mk];rw[ih h]
 |clo f c ih=>
  intro v x h
  cases v<;>try cases h
  simp only[PT.rd] at h
  split at h
  ·rename_i e;rw[Nat.beq_eq] at e;subst e;simp only[PT.mk,ih h]
  ·cases h
 |tup l ih=>
  intro v x h
  cases v<;>try cases h
  simp only[PT.mk];rw[ih h]
 |kb b=>
  intro v x h
  cases v<;>try cases h
  simp only[PT.rd] at h;rename_i c
  cases b<;>cases c<;>first | rfl | cases h
theorem PT.Ytk:∀ (p:PT) (x:p.El),(p.mk x).live=true:=by
 intro p
 induction p with
 |pr a b iha ihb=>intro x;simp only[PT.mk,TV.live,iha,ihb];rfl
 |_=>intro x;rfl
theorem PT.only {b:List Nat}:∀ (p:PT) (x:p.El),p.closed b=true→(p.mk x).only b=p.mk x:=by
 intro p
 induction p with
 |pr a c iha ihb=>intro x h;simp only[PT.closed,jC] at h;simp only[PT.mk,TV.only,iha _ h.1,ihb _ h.2]
 |loc r p=>intro x h;simp only[PT.closed] at h;simp only[PT.mk,TV.only,h]
 |seg r p=>intro x h;simp only[PT.closed] at h;simp only[PT.mk,TV.only,h]
 |sub r p=>intro x h;simp only[PT.closed] at h;simp only[PT.mk,TV.only,h]
 |clo f c ih=>intro x h;simp only[PT.closed] at h;simp only[PT.mk,TV.only,ih _ h,PT.Ytk]
 |tup l ih=>intro x h;simp only[PT.closed] at h;simp only[PT.mk,TV.only,ih _ h]
 |_=>intro x h;rfl
theorem Ylb {b:List Nat}:∀ {l:List (Nat×PT)} {x:Ynr l},Ygr b l=true→Yt5 S l=some x→Yt4 l x=Yfm S b (l.map (·.1))
 |[],x,hc,h=>rfl
 |(i,p)::l,x,hc,h=>by
  simp only[Ygr,jC] at hc;simp only[Yt5] at h
  split at h
  ·rename_i v hv
   split at h
   ·rename_i y hy
    split at h
    ·rename_i z hz
     cases h;simp only[Yt4,jS,Yfm,hv];rw[Ylb hc.2 hz,←PT.Yfd hy,PT.only p y hc.1]
    ·cases h
   ·cases h
  ·cases h
theorem Yk8 {b:List Nat}:∀ {l:List (Nat×Kind×PT)} {x:Ynj l},Ygl b l=true→Yt0 S l=some x→Ytz l x=Yb6 S b (l.map (·.1))
 |[],x,hc,h=>rfl
 |(i,k,p)::l,x,hc,h=>by
  simp only[Ygl,jC] at hc;simp only[Yt0] at h
  split at h
  ·rename_i R hR
   split at h
   ·rename_i e y e1 hy
    split at h
    ·rename_i z hz
     cases h;simp only[Ytz,jS,Yb6,hR];rw[Yk8 hc.2 hz];obtain⟨k',tv⟩:=R;simp only at e hy ⊢;subst e;rw[←PT.Yfd hy,PT.only p y hc.1]
    ·cases h
   ·cases h
  ·cases h
theorem SP.Ypr {sp:SP} (hc:sp.closed=true) {x:sp.El} (h:sp.rd S=some x):sp.mk' x=S.keep sp.tk sp.rk:=by
 simp only[SP.closed,jC] at hc;unfold SP.rd at h
 split at h
 ·rename_i y hy
  split at h
  ·rename_i z hz
   cases h;simp only[SP.mk',St.keep];rw[Ylb hc.1 hy,Yk8 hc.2 hz];rfl
  ·cases h
 ·cases h
end
section
variable {a:Act}
variable {P:Program} {G:Gam} {L:Lam}
def Ex.exit:Ex→Exit
 |.nm=>.normal
 |.ex i=>.exit i
 |.rt=>.ret
def Ya2 (P:Program) (nt np:Nat) (c:Code) (f:St→∀ R:Type,(Ex→St→Option R)→Option R):Prop:=
 ∀ (S:St) (R:Type) (k:Ex→St→Option R) (r:R),Ya8 S→f S R k=some r→∃ e S',k e S'=some r∧Ya8 S'∧
  ∀ (Z:W0) (C:Cx) (a:Act) (w:World) (Q:Exit→Act→World→Prop),Z.nt=nt→(∀ i,np≤i→Z.P i=none)→Inv Z S C a w→
   (∀ C a w,Inv Z S' C a w→Q e.exit a w)→c.wp P Q a w
def Hok (P:Program) (nt np:Nat) (L:Lam):Hi→Code→Prop
 |.fr l,c=>∀ f,L l=some f→Ya2 P nt np c f
 |.no,_=>True
 |.two x y,.seq a b=>Hok P nt np L x a∧Hok P nt np L y b
 |.two x y,.cond _ a b=>Hok P nt np L x a∧Hok P nt np L y b
 |.two _ _,_=>True
 |.one x,.block _ a=>Hok P nt np L x a
 |.one _,_=>True
theorem Inv.is (I:Inv Z S C a w) (h:a.tmps.getD u undef=.bool b):Inv Z (S.is u b) C a w:=by
 refine⟨I.str,fun i v hv=>?_,I.df,I.ts⟩;simp only[St.is,Ybw] at hv
 split at hv
 ·rename_i e;subst e;cases hv;exact h
 ·exact I.tm i v hv
theorem Ya8.is (h:Ya8 S) (u:Nat) (b:Bool):Ya8 (S.is u b):=by
 intro s t x v hv;simp only[St.is,Ybw] at hv
 split at hv
 ·cases hv
 ·exact h s t x v hv
theorem Hok.l (hc:c=.seq x y∨∃ d,c=.cond d x y) (hh:Hok P nt np L h c) (hf:∀ l,h≠.fr l):Hok P nt np L h.l x∧Hok P nt np L h.r y:=by
 cases h with
 |no=>exact⟨trivial,trivial⟩
 |fr l=>exact absurd rfl (hf l)
 |one i=>exact⟨trivial,trivial⟩
 |two p q=>rcases hc with rfl | ⟨d,rfl⟩<;>exact hh
theorem Ycq (ht:Yaf P tb) (hG:GOk P G) (hm:P.follows .mixedOrders=true):∀ (c:Code) (h:Hi),Hok P nt np L h c→Ya2 P nt np c fun S R k=>ev tb hn nt np G L c h S k:=by
 intro c
 induction c with
 |skip=>
  intro h hh S R k r hS he
  cases h with
  |fr l=>
   simp only[ev] at he
   split at he
   ·rename_i f hf;exact hh f hf S R k r hS he
   ·cases he
  |_=>
   simp only[ev] at he
   exact⟨.nm,S,he,hS,fun Z C a w Q hnt hnp I hQ=>wp_skip (hQ C a w I)⟩
 |region id ops draw=>
  intro h hh S R k r hS he
  cases h with
  |fr l=>
   simp only[ev] at he
   split at he
   ·rename_i f hf;exact hh f hf S R k r hS he
   ·cases he
  |_=>
   simp only[ev] at he;obtain⟨S',h1,h2,h3⟩:=Ymv ht hG hm hS he
   exact⟨.nm,S',h1,h2,fun Z C a w Q hnt hnp I hQ=>h3 Z C a w id Q hnt hnp I hQ⟩
 |seq x y ihx ihy=>
  intro h hh S R k r hS he
  have main:(∀ l,h≠.fr l)→(ev tb hn nt np G L x h.l S fun e S'=>match e with | .nm=>ev tb hn nt np G L y h.r S' k | e=>k e S')=some r→∃ e S',k e S'=some r∧Ya8 S'∧∀ (Z:W0) (C:Cx) (a:Act) (w:World) (Q:Exit→Act→World→Prop),Z.nt=nt→(∀ i,np≤i→Z.P i=none)→Inv Z S C a w→(∀ C a w,Inv Z S' C a w→Q e.exit a w)→(Code.seq x y).wp P Q a w:=fun hne he=>by
   obtain⟨hx,hy⟩:=hh.l (.inl rfl) hne;obtain⟨e,S1,h1,h2,h3⟩:=ihx _ hx S R _ r hS he
   cases e with
   |nm=>
    obtain⟨e2,S2,g1,g2,g3⟩:=ihy _ hy S1 R _ r h2 h1
    exact⟨e2,S2,g1,g2,fun Z C a w Q hnt hnp I hQ=>wp_seq (h3 Z C a w _ hnt hnp I (fun C a w I'=>g3 Z C a w Q hnt hnp I' hQ))⟩
   |ex i=>exact⟨.ex i,S1,h1,h2,fun Z C a w Q hnt hnp I hQ=>wp_seq (h3 Z C a w _ hnt hnp I (fun C a w I'=>hQ C a w I'))⟩
   |rt=>exact⟨.rt,S1,h1,h2,fun Z C a w Q hnt hnp I hQ=>wp_seq (h3 Z C a w _ hnt hnp I (fun C a w I'=>hQ C a w I'))⟩
  cases h with
  |fr l=>
   simp only[ev] at he
   split at he
   ·rename_i f hf;exact hh f hf S R k r hS he
   ·cases he
  |no=>exact main (fun l e=>by cases e) he
  |two p q=>exact main (fun l e=>by cases e) he
  |one p=>exact main (fun l e=>by cases e) he
 |cond d x y ihx ihy=>
  intro h hh S R k r hS he
  have main:(∀ l,h≠.fr l)→(match (generalizing:=false) (opv [] d).run S with
    |some (.cl _ .bool t)=>match (generalizing:=false) d with
     |.tmp u=>cond t (ev tb hn nt np G L x h.l (S.is u true) k) (ev tb hn nt np G L y h.r (S.is u false) k)
     |_=>none
    |_=>none)=some r→∃ e S',k e S'=some r∧Ya8 S'∧∀ (Z:W0) (C:Cx) (a:Act) (w:World) (Q:Exit→Act→World→Prop),Z.nt=nt→(∀ i,np≤i→Z.P i=none)→Inv Z S C a w→(∀ C a w,Inv Z S' C a w→Q e.exit a w)→(Code.cond d x y).wp P Q a w:=fun hne he=>by
   obtain⟨hx,hy⟩:=hh.l (.inr ⟨d,rfl⟩) hne
   split at he
   ·rename_i ow t hop
    obtain⟨u,rfl⟩:∃ u,d=.tmp u:=by cases d<;>first | exact⟨_,rfl⟩ | cases he
    ·have key:∀ {Z C a w},Inv Z S C a w→a.eval (.tmp u)=.bool t:=fun I=>(Yg I (Yax.nil _) hop:Yb _ _ _ _ _ _).bool
     cases t with
     |true=>
      obtain⟨e,S1,h1,h2,h3⟩:=ihx _ hx (S.is u true) R k r (hS.is u true) he
      exact⟨e,S1,h1,h2,fun Z C a w Q hnt hnp I hQ=>wp_cond_true (key I) (h3 Z C a w Q hnt hnp (I.is (key I)) hQ)⟩
     |false=>
      obtain⟨e,S1,h1,h2,h3⟩:=ihy _ hy (S.is u false) R k r (hS.is u false) he;exact⟨e,S1,h1,h2,fun Z C a w Q hnt hnp I hQ=>wp_cond_false (key I) (h3 Z C a w Q hnt hnp (I.is (key I)) hQ)⟩
   ·cases he
  cases h with
  |fr l=>
   simp only[ev] at he
   split at he
   ·rename_i f hf;exact hh f hf S R k r hS he
   ·cases he
  |no=>exact main (fun l e=>by cases e) he
  |two p q=>exact main (fun l e=>by cases e) he
  |one p=>exact main (fun l e=>by cases e) he
 |block id x ihx=>
  intro h hh S R k r hS he
  have main:Hok P nt np L h.i x→(ev tb hn nt np G L x h.i S fun e S'=>match e with
    |.ex j=>match Nat.beq j id with | true=>k .nm S' | false=>k (.ex j) S'
    |e=>k e S')=some r→∃ e S',k e S'=some r∧Ya8 S'∧∀ (Z:W0) (C:Cx) (a:Act) (w:World) (Q:Exit→Act→World→Prop),Z.nt=nt→(∀ i,np≤i→Z.P i=none)→Inv Z S C a w→(∀ C a w,Inv Z S' C a w→Q e.exit a w)→(Code.block id x).wp P Q a w:=fun hx he=>by
   obtain⟨e,S1,h1,h2,h3⟩:=ihx _ hx S R _ r hS he
   cases e with
   |nm=>exact⟨.nm,S1,h1,h2,fun Z C a w Q hnt hnp I hQ=>wp_block (h3 Z C a w _ hnt hnp I (fun C a w I'=>hQ C a w I'))⟩
   |rt=>exact⟨.rt,S1,h1,h2,fun Z C a w Q hnt hnp I hQ=>wp_block (h3 Z C a w _ hnt hnp I (fun C a w I'=>hQ C a w I'))⟩
   |ex j=>
    simp only at h1
    split at h1
    ·rename_i e
     rw[Nat.beq_eq] at e;refine⟨.nm,S1,h1,h2,fun Z C a w Q hnt hnp I hQ=>wp_block (h3 Z C a w _ hnt hnp I (fun C a w I'=>?_))⟩;simp only[Ex.exit,Exit.inBlock,e,if_true];exact hQ C a w I'
    ·rename_i e
     refine⟨.ex j,S1,h1,h2,fun Z C a w Q hnt hnp I hQ=>wp_block (h3 Z C a w _ hnt hnp I (fun C a w I'=>?_))⟩
     have hne:¬ j=id:=by
      intro hh;rw[←Nat.beq_eq,e] at hh;cases hh
     simp only[Ex.exit,Exit.inBlock,hne,if_false];exact hQ C a w I'
  cases h with
  |fr l=>
   simp only[ev] at he
   split at he
   ·rename_i f hf;exact hh f hf S R k r hS he
   ·cases he
  |no=>exact main trivial he
  |two p q=>exact main trivial he
  |one p=>exact main hh he
 |exit id=>
  intro h hh S R k r hS he
  cases h with
  |fr l=>
   simp only[ev] at he
   split at he
   ·rename_i f hf;exact hh f hf S R k r hS he
   ·cases he
  |_=>
   simp only[ev] at he
   exact⟨.ex id,S,he,hS,fun Z C a w Q hnt hnp I hQ=>wp_exit (hQ C a w I)⟩
 |ret=>
  intro h hh S R k r hS he
  cases h with
  |fr l=>
   simp only[ev] at he
   split at he
   ·rename_i f hf;exact hh f hf S R k r hS he
   ·cases he
  |_=>
   simp only[ev] at he
   exact⟨.rt,S,he,hS,fun Z C a w Q hnt hnp I hQ=>wp_ret (hQ C a w I)⟩
 |_=>
  intro h hh S R k r hS he
  cases h with
  |fr l=>
   simp only[ev] at he
   split at he
   ·rename_i f hf;exact hh f hf S R k r hS he
   ·cases he
  |_=>simp only[ev] at he;cases he
theorem Yrx (p:Nat→Prop):∀ n,p n→∃ m,p m∧∀ i,p i→m≤i:=by
 intro n
 induction n using Nat.strongRecOn with
 |_ n ih=>
  intro h
  by_cases hh:∃ m,m<n∧p m
  ·obtain⟨m,h1,h2⟩:=hh;exact ih m h1 h2
  ·exact⟨n,h,fun i hi=>by
    rcases kG i n with hlt | hge
    ·exact absurd ⟨i,hlt,hi⟩ hh
    ·exact hge⟩
open Classical in
noncomputable def least (p:Nat→Prop):Nat:=if h:∃ m,p m∧∀ i,p i→m≤i then h.choose else 0
theorem Ym6 (h:p n):p (least p)∧∀ i,p i→least p≤i:=by
 have hh:=Yrx p n h;unfold least;rw[dif_pos hh];exact hh.choose_spec
theorem Yqw (J:Nat→Act→World→Prop) (h0:∃ n,J n a w) (hz:∀ a w,¬ J 0 a w)
  (round:∀ n a w,J (n+1) a w→c.wp P (Exit.then (J n) Q) a w):(Code.loop c).wp P Q a w:=by
 refine wp_loop (fun a w=>∃ n,J n a w) (fun a w=>least fun n=>J n a w) h0 (fun a w ⟨n,hn⟩=>?_);obtain⟨h1,h2⟩:=Ym6 (p:=fun n=>J n a w) hn;generalize least (fun n=>J n a w)=m at h1 h2
 cases m with
 |zero=>exact absurd h1 (hz a w)
 |succ m=>
  refine wp_mono (round m a w h1) (fun e a' w' hq=>?_)
  cases e with
  |normal=>
   have:=(Ym6 (p:=fun n=>J n a' w') hq).2 m hq
   exact⟨⟨m,hq⟩,Nat.lt_succ_of_le this⟩
  |_=>exact hq
theorem Yom {σ ρ:Type} {f:σ→Option (σ⊕ρ)} {s:σ} {r:ρ} (h:Yan f s=some r):∃ n,iter f n s=some r:=by
 unfold Yan at h
 split at h
 ·rename_i hh;cases h;exact hh.choose_spec
 ·cases h
def Yfp (sp:SP) (F:sp.El→∀ R:Type,(Ex→St→Option R)→Option R):St→∀ R:Type,(Ex→St→Option R)→Option R:=
 fun S R k=>match sp.rd S with
  |some x=>F x R k
  |none=>none
theorem Yoo {body:Code} {sp:SP} (hc:sp.closed=true) {F:sp.El→∀ R:Type,(Ex→St→Option R)→Option R}
  {A b:List Nat} {X:List (Nat×KL)} {Rl:KL} {E:St→∀ R:Type,(Ex→St→Option R)→Option R} (hE:Ya2 P nt np body E)
  (h:∀ x:sp.El,∃ (σ ρ:Type) (B:σ→Option (σ⊕ρ)) (H:σ→St) (wit:ρ→Ex×St) (s0:σ),H s0=sp.mk' x∧
   (∀ s,E (H s) _ (kLp (A,b) X Rl)=(B s).map fun o=>sel o (fun s'=>.inl (H s')) (fun y=>.inr (wit y)))∧
   ∀ R k,F x R k=(Yan B s0).bind fun t=>k (wit t).1 (wit t).2):Ya2 P nt np (.loop body) (Yfp sp F):=by
 intro S R k r hS he;unfold Yfp at he
 split at he
 ·rename_i x hx
  obtain⟨σ,ρ,B,H,wit,s0,e0,heq,hF⟩:=h x;rw[hF] at he
  cases hl:Yan B s0 with
  |none=>rw[hl] at he;cases he
  |some t=>
   rw[hl] at he;obtain⟨n,hn⟩:=Yom hl
   have rd:∀ s o,B s=some o→Ya8 (H s)→(∀ s',o=.inl s'→Ya8 (H s')∧∀ (Z:W0) (C:Cx) (a:Act) (w:World) (Q:Exit→Act→World→Prop),Z.nt=nt→(∀ i,np≤i→Z.P i=none)→Inv Z (H s) C a w→
      (∀ C a w,Inv Z (H s') C a w→Q .normal a w)→body.wp P Q a w)∧
     (∀ y,o=.inr y→(wit y).1≠.nm∧Ya8 (wit y).2∧∀ (Z:W0) (C:Cx) (a:Act) (w:World) (Q:Exit→Act→World→Prop),Z.nt=nt→(∀ i,np≤i→Z.P i=none)→Inv Z (H s) C a w→
      (∀ C a w,Inv Z (wit y).2 C a w→Q (wit y).1.exit a w)→body.wp P Q a w):=by
    intro s o hB hN;have h1:=heq s;rw[hB] at h1;obtain⟨e,S1,g1,g2,g3⟩:=hE (H s) _ _ _ hN h1;refine⟨fun s' ho=>?_,fun y ho=>?_⟩
    ·subst ho
     simp only[sel] at g1
     cases e with
     |nm=>
      simp only[kLp,jD,Sum.inl.injEq] at g1;rw[←g1]
      exact⟨g2.keep A b,fun Z C a w Q hnt hnp I hQ=>g3 Z C a w Q hnt hnp I (fun C a w I'=>hQ C a w (I'.keep A b))⟩
     |ex i=>simp only[kLp] at g1;split at g1<;>cases g1
     |rt=>simp only[kLp] at g1;cases g1
    ·subst ho
     simp only[sel] at g1
     cases e with
     |nm=>simp only[kLp] at g1;cases g1
     |ex i=>
      simp only[kLp] at g1
      split at g1
      ·rename_i l hl'
       simp only[jD,Sum.inr.injEq] at g1;rw[←g1]
       exact⟨by simp,g2.keep _ _,fun Z C a w Q hnt hnp I hQ=>g3 Z C a w Q hnt hnp I (fun C a w I'=>hQ C a w (I'.keep _ _))⟩
      ·cases g1
     |rt=>
      simp only[kLp,jD,Sum.inr.injEq] at g1;rw[←g1]
      exact⟨by simp,g2.keep _ _,fun Z C a w Q hnt hnp I hQ=>g3 Z C a w Q hnt hnp I (fun C a w I'=>hQ C a w (I'.keep _ _))⟩
   have hkeep:=SP.Ypr hc hx
   have hN0:Ya8 (H s0):=by rw[e0,hkeep];exact hS.keep _ _
   have last:∀ n s,iter B n s=some t→Ya8 (H s)→(wit t).1≠.nm∧Ya8 (wit t).2:=by
    intro n
    induction n with
    |zero=>intro s h1;cases h1
    |succ n ih=>
     intro s h1 hN;simp only[iter] at h1
     cases hB:B s with
     |none=>rw[hB] at h1;cases h1
     |some o=>
      rw[hB] at h1;obtain⟨r1,r2⟩:=rd s o hB hN
      cases o with
      |inl s'=>exact ih s' h1 (r1 s' rfl).1
      |inr y=>cases h1;exact⟨(r2 t rfl).1,(r2 t rfl).2.1⟩
   obtain⟨l1,l2⟩:=last n s0 hn hN0;refine⟨(wit t).1,(wit t).2,he,l2,fun Z C a w Q hnt hnp I hQ=>?_⟩
   refine Yqw (fun n a w=>∃ s C,iter B n s=some t∧Ya8 (H s)∧Inv Z (H s) C a w) ⟨n,s0,C,hn,hN0,?_⟩ (fun a w ⟨s,C,h1,_⟩=>by cases h1) (fun n a w ⟨s,C,h1,hN,I⟩=>?_)
   ·rw[e0,hkeep];exact I.keep _ _
   ·simp only[iter] at h1
    cases hB:B s with
    |none=>rw[hB] at h1;cases h1
    |some o=>
     rw[hB] at h1;obtain⟨r1,r2⟩:=rd s o hB hN
     cases o with
     |inl s'=>
      obtain⟨q1,q2⟩:=r1 s' rfl
      exact q2 Z C a w _ hnt hnp I (fun C' a' w' I'=>⟨s',C',h1,q1,I'⟩)
     |inr y=>
      cases h1;obtain⟨q0,q1,q2⟩:=r2 t rfl;refine q2 Z C a w _ hnt hnp I (fun C' a' w' I'=>?_);have:=hQ C' a' w' I'
      cases he':(wit t).1 with
      |nm=>exact absurd he' q0
      |ex i=>rw[he'] at this;exact this
      |rt=>rw[he'] at this;exact this
 ·cases he
end
section
variable {a:Act} {K:Yp} {G:Yd}
variable {P:Program}
def Ysk (a:Act):ResultVar→Sem Value
 |.tmp t=>pure (a.tmps.getD t undef)
 |.cell i t=>do loadVar t (← asAddr (a.tmps.getD i undef))
theorem Yoy (ht:Yaf P tb) (I:Inv Z S C a w) (h:(Yva tb r).run S=some v) :
  ∃ u,(Ysk a r).run P w=.ok u w∧VOk w (Mt Z C S.root noB) C.L S.root v u:=by
 cases r with
 |tmp i=>exact⟨_,rfl,Yg I (Yax.nil a) (x:=.tmp i) h⟩
 |cell i t=>
  simp only[Yva] at h;replace h:=RD.bind_some h;obtain⟨v0,h1,h⟩:=h
  cases v0 with
  |loc r p=>
   simp only at h;replace h:=RD.bind_some h;obtain⟨⟨b,v1⟩,h2,h⟩:=h;have hx:=Yg I (Yax.nil a) h1;obtain⟨R,bb,off,_,_,hu⟩:=(hx:Yb _ _ _ _ _ _).leaf rfl
   have hb:b=none:=by
    simp only[pv] at h2;replace h2:=RD.bind_some h2;obtain⟨_,_,h2⟩:=h2;replace h2:=RD.bind_some h2;obtain⟨_,_,h2⟩:=h2
    have old:∀ {r p ty},(Ykw r p ty).run S=some (b,v1)→b=none:=by
     intro r p ty h2;unfold Ykw at h2;replace h2:=RD.bind_some h2;obtain⟨_,_,h2⟩:=h2
     split at h2<;>cases h2
     rfl
    split at h2
    ·split at h2
     ·simp only[RD.run] at h2
      split at h2
      ·split at h2
       ·cases h2;rfl
       ·exact old h2
      ·cases h2
     ·exact old h2
    ·split at h2<;>cases h2
     rfl
    ·cases h2
   obtain⟨u,h3,h4⟩:=Yjn Z S C a w ht I (Yax.nil a) b v1 h2 (by rw[hb];simp)
   have hv:v1=v∧∀ n,v1≠.dead n:=by
    simp only at h
    split at h
    ·cases h
    ·rename_i hd;cases h;exact⟨rfl,hd⟩
   obtain⟨rfl,hd⟩:=hv;refine⟨u,?_,h4.resolve_left (fun⟨n,e⟩=>hd n e)⟩;have hu':a.tmps.getD i undef=.pointer (some ⟨bb,off,none⟩):=hu;have he:a.eval (.tmp i)=a.tmps.getD i undef:=rfl;simp only[execOp,Instr.loadAt,he,hu',Instr.sureAddr] at h3;simp only[Ysk,hu',asAddr];simp only[Sem.run_bind,Sem.run_pure,Result.andThen,pure_bind] at h3 ⊢
   cases hl:(loadVar t ⟨bb,off,none⟩).run P w with
   |ok x w2=>rw[hl] at h3;simp only[Result.andThen] at h3;cases h3;rfl
   |halt x w2=>rw[hl] at h3;cases h3
  |_=>cases h
def Ynx (w:World) (M:Yd) (Lf:TV→Value→Prop):TV→Value→Yd→Prop
 |.op tv,u,F=>∃ b off F',u=.pointer (some ⟨b,off,none⟩)∧F b∧¬ F' b∧Ye F' F∧Room w b off tv.size∧Ya w M Lf tv (.mem b off) F'
 |c,u,F=>Ya w M Lf c (.reg u.cells.toList 0) F∧u.cells.size=c.size∧(c.isAgg=true↔∃ cs,u=.agg cs)
theorem Ynx.mono (h:Ynx w M Lf c u F) (hm:Ye M' M):Ynx w M' Lf c u F:=by
 cases c with
 |op tv=>obtain⟨b,off,F',h1,h2,h3,h4,h5,h6⟩:=h;exact⟨b,off,F',h1,h2,h3,h4,h5,h6.mono hm⟩
 |_=>exact⟨(Ya.mono h.1 hm:_),h.2⟩
theorem Ynx.shut (hs:c.shut=true) (hm:Ye M' M) (h:Ynx w M (Yi w M L ρ) c u F):Ygv w M' L' ρ' c u F:=by
 cases c with
 |op tv=>obtain⟨b,off,F',h1,h2,h3,h4,h5,h6⟩:=h;exact⟨b,off,F',h1,h2,h3,h4,h5,Ya.shut hm (fun v u hv hl=>Yi.shut hm hv hl) hs h6⟩
 |_=>exact⟨Ya.shut hm (fun v u hv hl=>Yi.shut hm hv hl) hs h.1,h.2⟩
theorem Ym7:(⟨(r,x)::rt,ks⟩:Yp).roots S=((⟨rt,ks⟩:Yp).roots S).set r x:=by
 funext i
 unfold Yp.roots Yc.set
 by_cases e:i=r
 ·subst e;rw[Yl,jL rfl]
 ·rw[Yv e,jM e]
theorem Y0.whole (T:Y0 Z S C w K G C1 D) (hR:K.roots S r=some R) (hk:R.k=.mem) (hp:Z.P r=none) :
  ∃ D2,Y0 Z S C w ⟨(r,none)::K.rt,(r,none)::K.ks⟩ (fun b=>G b∨Tot C1 r R b) C1 D2∧
   Ye (Mt Z C1 ((⟨(r,none)::K.rt,(r,none)::K.ks⟩:Yp).roots S) fun b=>G b∨Tot C1 r R b) (Mt Z C1 (K.roots S) G):=by
 have hk':(⟨(r,none)::K.rt,(r,none)::K.ks⟩:Yp).roots S=(K.roots S).set r none:=Ym7;have st:=T.str
 have hsub:∀ i R',(K.roots S).set r none i=some R'→K.roots S i=some R'∧i≠r:=fun i R' h=>by
  by_cases e:i=r
  ·subst e;rw[Yc.Yo] at h;cases h
  ·rw[Yc.Yn _ _ e] at h;exact⟨h,e⟩
 have hm:Ye (Mt Z C1 ((K.roots S).set r none) fun b=>G b∨Tot C1 r R b) (Mt Z C1 (K.roots S) G):=by
  rintro b (⟨i,R',h1,h2⟩ | (h | h) | h)
  ·exact .inl ⟨i,R',(hsub i R' h1).1,h2⟩
  ·exact .inr (.inl h)
  ·exact .inl ⟨r,R,hR,h⟩
  ·exact .inr (.inr h)
 have htb:∀ b,Tot C1 r R b→b<w.heap.size∧(∀ i,¬ Z.K b i)∧¬ Z.X b∧(Z.M b∨Z.w.heap.size≤b):=by
  rintro b (h | ⟨_,off,h⟩)
  ·exact st.bnd r R b hR h
  ·obtain⟨b',off',e,h1,h2,h3,h4,h5,h6⟩:=st.mem r R hR hk
   rw[h] at e;cases e;exact⟨h2,(st.plc r R hR).2 hk hp b off h,h5,h6⟩
 have W:Str Z (Yi w (Mt Z C S.root noB) C.L S.root) C1 (fun b=>G b∨Tot C1 r R b) ((K.roots S).set r none) w:=by
  refine {st with rep:=?_,reg:=?_,mem:=?_,bnd:=?_,gbnd:=?_,dis:=?_,gdis:=?_,plc:=?_ }
  ·exact fun i R' h=>(st.rep i R' (hsub i R' h).1).mono hm
  ·exact fun i R' h=>st.reg i R' (hsub i R' h).1
  ·exact fun i R' h=>st.mem i R' (hsub i R' h).1
  ·exact fun i R' b h=>st.bnd i R' b (hsub i R' h).1
  ·exact fun b h=>h.elim (st.gbnd b) (htb b)
  ·exact fun i j R1 R2 hne h1 h2=>st.dis i j R1 R2 hne (hsub i R1 h1).1 (hsub j R2 h2).1
  ·intro i R' h b hb hg
   obtain⟨h1,h2⟩:=hsub i R' h;rcases hg with hg | hg
   ·exact st.gdis i R' h1 b hb hg
   ·exact st.dis i r R' R h2 h1 hR b hb hg
  ·exact fun i R' h=>st.plc i R' (hsub i R' h).1
 have Wg:=st.Yci hm ⟨fun i _=>i=r,fun i _=>i=r⟩
  (fun i R' q h1 h2=>by rw[Yc.Yn _ _ h2];exact h1) (fun i R' q h1 h2=>by rw[Yc.Yn _ _ h2];exact h1)
 refine⟨_,⟨by rw[hk'];exact W,by rw[hk'];exact T.gs.trans Wg,T.L,?_,?_,?_,?_⟩,by rw[hk'];exact hm⟩
 ·intro i R' h
  rw[hk'] at h;exact T.lay i R' (hsub i R' h).1
 ·rintro i q (h | h)
  ·exact Yby.1 i q (T.cl i q h)
  ·exact⟨_,jF,h.symm,rfl⟩
 ·rintro i q (h | h)
  ·exact Yby.2 i q (T.cs i q h)
  ·exact⟨_,jF,h.symm,rfl⟩
 ·intro i R' q o' e' xs' h hg
  rw[hk'] at h;exact T.ty i R' q o' e' xs' (hsub i R' h).1 hg
theorem Yhy (h:(Ybt K r p).run S=some (c,K')):∃ o e,∃ x:List e.El,c=.cl o (.sl e) x:=by
 have key:∀ R,(Yhz K r p R).run S=some (c,K')→∃ o e,∃ x:List e.El,c=.cl o (.sl e) x:=by
  intro R h;unfold Yhz at h
  split at h
  ·rename_i o e x _
   have body:(takeC K r p R (.cl o (.sl e) x)).run S=some (c,K')→∃ o e,∃ x:List e.El,c=.cl o (.sl e) x:=by
    intro h;unfold takeC at h
    split at h
    ·cases h;exact⟨_,_,_,rfl⟩
    ·unfold Ynp at h
     split at h
     ·cases h;exact⟨_,_,_,rfl⟩
     ·cases h
   cases o with
   |sh=>cases h
   |top=>exact body h
   |deep=>exact body h
  ·cases h
 unfold Ybt at h
 split at h
 ·split at h
  ·exact key _ h
  ·cases h
 ·cases h
 ·simp only[RD.run] at h
  split at h
  ·exact key _ h
  ·cases h
theorem Ynz (h:(Ya4 q np K t v).run S=some (c,K')):c.isAgg=v.isAgg∧∀ tv,c≠.op tv:=by
 cases v with
 |cl o t' x=>cases t<;>(cases h;exact⟨rfl,fun _ e=>by cases e⟩)
 |nl=>
  cases t with
  |sl e=>
   simp only[Ya4,RD.run] at h;cases h;unfold Yr4
   split
   ·exact⟨rfl,fun _ e=>by cases e⟩
   ·split<;>exact⟨rfl,fun _ e=>by cases e⟩
   ·exact⟨rfl,fun _ e=>by cases e⟩
   ·exact⟨rfl,fun _ e=>by cases e⟩
  |_=>cases h
 |pr a b=>
  cases t with
  |pair t1 t2=>
   simp only[Ya4] at h;replace h:=RD.bind_some h;obtain⟨⟨a',K1⟩,h1,h⟩:=h;replace h:=RD.bind_some h;obtain⟨⟨b',K2⟩,h2,h⟩:=h;cases h
   exact⟨(Yjh a' b').1,fun tv e=>by have:=(Yjh a' b').1;rw[e] at this;cases this⟩
  |_=>cases h
 |seg r p=>
  have h':(match Nat.blt r np with
   |true=>(RD.ret (.seg r p,K):RD (TV×Yp))
   |false=>Ybt K r p).run S=some (c,K'):=by cases t<;>exact h
  split at h'
  ·cases h';exact⟨rfl,fun _ e=>by cases e⟩
  ·obtain⟨o,e,x,rfl⟩:=Yhy h';exact⟨rfl,fun _ e=>by cases e⟩
 |sub r p lo n=>
  have h':((Ybt K r p).bind fun(v,k)=>match Ymr lo n v with | some v=>.ret (v,k) | none=>(RD.fail:RD (TV×Yp))).run S=some (c,K'):=by cases t<;>exact h
  ·replace h':=RD.bind_some h';obtain⟨⟨v1,k⟩,h1,h'⟩:=h'
   obtain⟨o,e,x,rfl⟩:=Yhy h1;simp only[Ymr,RD.run] at h'
   cases h';exact⟨rfl,fun _ e=>by cases e⟩
 |loc r p=>cases t<;>(cases h;exact⟨rfl,fun _ e=>by cases e⟩)
 |pt t' x=>cases t<;>(cases h;exact⟨rfl,fun _ e=>by cases e⟩)
 |clo f c'=>cases t<;>(cases h;exact⟨rfl,fun _ e=>by cases e⟩)
 |_=>cases t<;>cases h
end
section
variable {a:Act} {K:Yp} {G:Yd}
variable {P:Program}
theorem Ynh (hnp:∀ i,np≤i→Z.P i=none) (hv:VOk w (Mt Z C S.root noB) C.L S.root v u) (T:Y0 Z S C w K G C1 D)
  (hm:Ye (Mt Z C1 (K.roots S) G) (Mt Z C S.root noB)) (h:(Ysl tb hn np t K v).run S=some (c,K')) :
  ∃ C2 D2 F G',Y0 Z S C w K' G' C2 D2∧Ye G G'∧Ye F G'∧Dis F G∧Ynx w (Mt Z C2 (K'.roots S) G') (Yi w (Mt Z C S.root noB) C.L S.root) c u F∧
   Ye (Mt Z C2 (K'.roots S) G') (Mt Z C1 (K.roots S) G):=by
 unfold Ysl at h
 split at h
 ·rename_i q
  split at h
  ·rename_i hK hle
   simp only[RD.run] at h
   split at h
   ·rename_i R hR
    split at h
    ·rename_i hk
     cases h;obtain⟨R0,b,off,h1,h2,h3⟩:=(hv:Yb _ _ _ _ _ _).leaf rfl;rw[hR] at h1;cases h1;rw[Yf] at h2;have hL:C.L q=.mem b off:=jN h2
     have hroot:K.roots S q=some R:=by unfold Yp.roots;rw[hK];exact hR
     obtain⟨D2,T2,hm2⟩:=T.whole hroot hk (hnp q (Nat.le_of_ble_eq_true hle))
     have hL1:C1.L q=.mem b off:=by rw[T.L];exact hL
     obtain⟨b',off',e,m1,m2,m3,_⟩:=T.str.mem q R hroot hk;rw[hL1] at e;cases e;refine⟨C1,D2,Tot C1 q R,_,T2,fun _ h=>.inl h,fun _ h=>.inr h,fun x hx hg=>T.str.gdis q R hroot x hx hg,?_,hm2⟩;refine⟨b,off,C1.F q,h3,.inr ⟨hk,off,hL1⟩,m1,fun _ h=>.inl h,m3,?_⟩;have:=T.str.rep q R hroot;rw[hL1] at this;exact this.mono hm2
    ·cases h
   ·cases h
  ·cases h
 ·rename_i t' x
  cases h;have hv':Yb _ _ _ _ _ _:=hv;refine⟨C1,D,noB,G,T,fun _ h=>h,fun _ h=>h.elim,fun _ h=>h.elim,⟨hv'.1.mono hm,hv'.2.1,hv'.2.2⟩,fun _ h=>h⟩
 ·have ht:∀ l,v≠.tup l:=fun l e=>by subst e;exact Ydu _ _ _ _ _ h
  obtain⟨hr,hs⟩:=hv.rep ht;obtain⟨C2,D2,F,G',t1,t2,t3,t4,t5,t6,t7,t8⟩:=Yb9 _ _ v _ T hm hr h;obtain⟨ha,hop⟩:=Ynz h;refine⟨C2,D2,F,G',t1,t2,t3,t4,?_,t7⟩;have hval:=hv.val ht
  have:Ya w (Mt Z C2 (K'.roots S) G') (Yi w (Mt Z C S.root noB) C.L S.root) c (.reg u.cells.toList 0) F∧u.cells.size=c.size∧(c.isAgg=true↔∃ cs,u=.agg cs):=⟨t6,by rw[t8,hs],by rw[ha];exact hval.2.2⟩
  cases c with
  |op tv=>exact absurd rfl (hop tv)
  |_=>exact this
def Ybq (w:World) (M:Yd) (Lf:TV→Value→Prop):List TV→List Value→Yd→Prop
 |[],[],_=>True
 |c::cs,u::us,F=>∃ F1 F2,Ynx w M Lf c u F1∧Ybq w M Lf cs us F2∧Ye F1 F∧Ye F2 F∧Dis F1 F2
 |_,_,_=>False
theorem Ycb (ht:Yaf P tb) (I:Inv Z S C a w) (hnp:∀ i,np≤i→Z.P i=none):∀ (ts:List TypeId) (rs:List ResultVar) {K K':Yp} {G:Yd} {C1:Cx} {D:Dd} {cs:List TV},Y0 Z S C w K G C1 D→
  Ye (Mt Z C1 (K.roots S) G) (Mt Z C S.root noB)→(Yg1 tb hn np ts rs K).run S=some (cs,K')→
  ∃ C2 D2 F G' us,Y0 Z S C w K' G' C2 D2∧Ye G G'∧Ye F G'∧Dis F G∧(rs.mapM (Ysk a)).run P w=.ok us w∧
   Ybq w (Mt Z C2 (K'.roots S) G') (Yi w (Mt Z C S.root noB) C.L S.root) cs us F∧Ye (Mt Z C2 (K'.roots S) G') (Mt Z C1 (K.roots S) G)
 |[],[],K,K',G,C1,D,cs,T,hm,h=>by
  cases h
  exact⟨C1,D,noB,G,[],T,fun _ h=>h,fun _ h=>h.elim,fun _ h=>h.elim,rfl,trivial,fun _ h=>h⟩
 |t::ts,r::rs,K,K',G,C1,D,cs,T,hm,h=>by
  simp only[Yg1] at h;replace h:=RD.bind_some h;obtain⟨v,h1,h⟩:=h;replace h:=RD.bind_some h;obtain⟨⟨c,K1⟩,h2,h⟩:=h;replace h:=RD.bind_some h;obtain⟨⟨cs',K2⟩,h3,h⟩:=h;cases h;obtain⟨u,hu,hv⟩:=Yoy (P:=P) ht I h1;obtain⟨C2,D2,F1,G1,T1,g1,f1,d1,w1,m1⟩:=Ynh hnp hv T hm h2;obtain⟨C3,D3,F2,G2,us,T2,g2,f2,d2,hus,w2,m2⟩:=Ycb ht I hnp ts rs T1 (fun b hb=>hm b (m1 b hb)) h3;refine⟨C3,D3,fun b=>F1 b∨F2 b,G2,u::us,T2,fun b hb=>g2 b (g1 b hb),fun b hb=>hb.elim (fun h=>g2 b (f1 b h)) (f2 b),?_,?_,?_,fun b hb=>m1 b (m2 b hb)⟩
  ·rintro b (h | h) hg
   ·exact d1 b h hg
   ·exact d2 b h (g1 b hg)
  ·rw[List.mapM_cons]
   simp only[Sem.run_bind,hu,hus,Result.andThen,Sem.run_pure]
  ·exact⟨F1,F2,w1.mono m2,w2,fun _ h=>.inl h,fun _ h=>.inr h,fun b x y=>d2 b y (f1 b x)⟩
 |[],_::_,K,K',G,C1,D,cs,T,hm,h=>by cases h
 |_::_,[],K,K',G,C1,D,cs,T,hm,h=>by cases h
theorem Yhg (h:(K.rd r).run S=some R):K.roots S r=some R:=by
 unfold Yp.rd at h;unfold Yp.roots
 split at h
 ·rename_i R' hR;cases h;rw[hR]
 ·cases h
 ·rename_i hR
  simp only[RD.run] at h
  split at h
  ·rename_i hS;cases h;rw[hR];exact hS
  ·cases h
theorem Ybu:∀ (ms:List Md) (i:Nat) {os:List TV},(Ydw K i ms).run S=some os→(∀ (j:Nat),ms[j]? = some .mu→ρ (i+j)=K.roots S (i+j))→Ybg ρ i ms os
 |[],i,os,h,hr=>by cases h;trivial
 |m::ms,i,os,h,hr=>by
  have hr':∀ (j:Nat),ms[j]? = some .mu→ρ (i+1+j)=K.roots S (i+1+j):=fun j hj=>by
   have:=hr (j+1) (by simpa using hj)
   rw[show i+1+j=i+(j+1) by omega];exact this
  cases m with
  |mu=>
   simp only[Ydw] at h;replace h:=RD.bind_some h;obtain⟨R,h1,h⟩:=h;replace h:=RD.bind_some h;obtain⟨l,h2,h⟩:=h;cases h;refine⟨⟨R,?_,rfl⟩,Ybu ms (i+1) h2 hr'⟩;have:=hr 0 rfl;rw[kF] at this
   rw[this];exact Yhg h1
  |sh=>exact Ybu ms (i+1) (by simpa only[Ydw] using h) hr'
  |mv=>exact Ybu ms (i+1) (by simpa only[Ydw] using h) hr'
theorem Yk3:∀ (ms:List Md) (i:Nat) {os:List TV},Ybg ρ i ms os→os.all TV.shut=true→∀ (j:Nat) R,ms[j]? = some .mu→ρ (i+j)=some R→R.tv.shut=true
 |[],i,os,h,hs,j,R,hj,hR=>by cases hj
 |m::ms,i,os,h,hs,j,R,hj,hR=>by
  have tail:∀ os,Ybg ρ (i+1) ms os→os.all TV.shut=true→∀ k,j=k+1→R.tv.shut=true:=fun os h hs k e=>by
   subst e
   exact Yk3 ms (i+1) h hs k R (by simpa using hj) (by rw[show i+1+k=i+(k+1) by omega];exact hR)
  cases m with
  |mu=>
   cases os with
   |nil=>exact h.elim
   |cons o os=>
    obtain⟨⟨R0,h1,rfl⟩,h2⟩:=h;simp only[List.all_cons,jC] at hs
    cases j with
    |zero=>
     rw[kF,h1] at hR;cases hR;have:=hs.1;unfold Root.out at this
     split at this<;>exact this
    |succ k=>exact tail os h2 hs.2 k rfl
  |sh=>
   cases j with
   |zero=>cases hj
   |succ k=>exact tail os h hs k rfl
  |mv=>
   cases j with
   |zero=>cases hj
   |succ k=>exact tail os h hs k rfl
theorem Ybq.shut (hm:Ye M' M):∀ {cs:List TV} {us:List Value} {F:Yd},cs.all TV.shut=true→Ybq w M (Yi w M L ρ) cs us F→Ydl w M' L' ρ' cs us F
 |[],[],F,hs,h=>trivial
 |c::cs,u::us,F,hs,h=>by
  simp only[List.all_cons,jC] at hs;obtain⟨F1,F2,h1,h2,h3,h4,h5⟩:=h
  exact⟨F1,F2,h1.shut hs.1 hm,Ybq.shut hm hs.2 h2,h3,h4,h5⟩
 |[],_::_,F,hs,h=>h.elim
 |_::_,[],F,hs,h=>h.elim
theorem Ybq.leaf (hl:∀ v u,v.shut=true→Lf v u→Lf' v u):∀ {cs:List TV} {us:List Value} {F:Yd},cs.all TV.shut=true→Ybq w M Lf cs us F→Ybq w M Lf' cs us F
 |[],[],F,hs,h=>trivial
 |c::cs,u::us,F,hs,h=>by
  simp only[List.all_cons,jC] at hs;obtain⟨F1,F2,h1,h2,h3,h4,h5⟩:=h;refine⟨F1,F2,?_,Ybq.leaf hl hs.2 h2,h3,h4,h5⟩
  cases c with
  |op tv=>obtain⟨b,off,F',q1,q2,q3,q4,q5,q6⟩:=h1;exact⟨b,off,F',q1,q2,q3,q4,q5,Ya.shut (fun _ h=>h) hl hs.1 q6⟩
  |_=>exact⟨Ya.shut (fun _ h=>h) hl hs.1 h1.1,h1.2⟩
 |[],_::_,F,hs,h=>h.elim
 |_::_,[],F,hs,h=>h.elim
theorem Ybq.length:∀ {cs:List TV} {us:List Value} {F:Yd},Ybq w M Lf cs us F→cs.length=us.length
 |[],[],F,h=>rfl
 |c::cs,u::us,F,h=>by obtain⟨F1,F2,_,h2,_⟩:=h;simp[Ybq.length h2]
 |[],_::_,F,h=>h.elim
 |_::_,[],F,h=>h.elim
theorem Yoz (fn:Func):results fn a.tmps=(fn.results.mapM (Ysk a) >>= fun vs=>pure (if h:vs.size=1 then vs[0] else .tuple vs)):=by
 unfold results
 congr 1
theorem Yet (h:(fn.results.toList.mapM (Ysk a)).run P w=.ok us w):(results fn a.tmps).run P w=.ok (if h:us.toArray.size=1 then us.toArray[0] else .tuple us.toArray) w:=by
 rw[Yoz,Array.mapM_eq_mapM_toList];simp only[Sem.run_bind,Sem.run_map,h,Result.andThen,Sem.run_pure]
theorem Yko (ht:Yaf P tb) (I:Inv Z S C a w) (hnp:∀ i,ms.length≤i→Z.P i=none) (h:fin tb hn fn ms S=some out) :
  ∃ v,(results fn a.tmps).run P w=.ok v w∧Yhf Z ms out v w:=by
 unfold fin Yvz at h;replace h:=RD.bind_some h;obtain⟨⟨cs,K⟩,h1,h⟩:=h;replace h:=RD.bind_some h;obtain⟨os,h2,h⟩:=h
 split at h
 ·rename_i hs
  cases h;simp only[jC] at hs;obtain⟨C2,D2,F,G,us,T,g1,f1,d1,hus,hw,hm⟩:=Ycb ht I hnp _ _ (Y0.start I) (fun _ h=>h) h1;refine⟨_,Yet hus,?_⟩
  let ρ:Yc:=fun r=>match ms[r]? with | some .mu=>K.roots S r | _=>none
  have hρ:∀ r R,ρ r=some R→K.roots S r=some R∧ms[r]? = some .mu:=by
   intro r R h;simp only[ρ] at h
   split at h
   ·rename_i hm;exact⟨h,hm⟩
   ·cases h
  have hout:Ybg ρ 0 ms os:=Ybu ms 0 h2 (fun j hj=>by simp only[ρ,jJ,hj])
  obtain⟨W,hW⟩:=T.str.weak (ρ':=ρ) (G':=G) (fun r R h=>(hρ r R h).1) (fun b h=>.inl h);have hM0:Ye (Mt Z C2 ρ G) (Mt Z C S.root noB):=fun b hb=>hm b (hW b hb);have hlf:∀ v u,v.shut=true→Yi w (Mt Z C S.root noB) C.L S.root v u→Yi w (Mt Z C2 ρ G) C2.L ρ v u:=fun v u hv hl=>Yi.shut hM0 hv hl
  refine⟨C2,G,ρ,F,{W with rep:=fun r R h=>?_ },hout,f1,?_,hs.1,List.all_eq_true.2 fun x hx=>TV.Ysp (List.all_eq_true.1 hs.2 x hx)⟩
  ·exact Ya.shut (fun _ h=>h) hlf (Yk3 ms 0 hout hs.2 r R (hρ r R h).2 (by rw[jJ];exact h)) (W.rep r R h)
  ·have hw2:Ydl w (Mt Z C2 ρ G) C2.L ρ cs us F:=by
    have h3:=Ybq.leaf (Lf':=Yi w (Mt Z C2 (K.roots S) G) C2.L (K.roots S)) (fun v u hv hl=>Yi.shut hm hv hl) hs.1 hw;exact Ybq.shut hW hs.1 h3
   have hlen:=hw.length
   match cs,us,hw2,hlen with
   |[],[],_,_=>rfl
   |[c],[u],hw2,_=>
    obtain⟨F1,F2,q1,_,q3,_⟩:=hw2;show Ygv w _ _ _ c u F
    cases c with
    |op tv=>obtain⟨b,off,F',p1,p2,p3,p4,p5,p6⟩:=q1;exact⟨b,off,F',p1,q3 b p2,p3,fun x hx=>q3 x (p4 x hx),p5,p6⟩
    |_=>exact⟨Ya.sub q1.1 q3,q1.2⟩
   |c1::c2::cs,u1::u2::us,hw2,_=>exact⟨_,by rw[dif_neg (by simp)],hw2⟩
 ·cases h
end
section
variable {a:Act} {K:Yp} {G:Gam}
variable {P:Program}
def W0.slots (Z:W0) (n:Nat):W0:={Z with nt:=n }
theorem Str.slots (I:Str Z Lf C F ρ w) (n:Nat):Str (Z.slots n) Lf C F ρ w:=
 ⟨I.rep,I.reg,I.mem,I.bnd,I.gbnd,I.dis,I.gdis,I.plc,I.sz,I.old,I.kp,I.kf,I.xb,I.kb,I.os,I.tape,I.output⟩
theorem Str.Ydc (I:Str (Z.slots n) Lf C F ρ w):Str Z Lf C F ρ w:=
 ⟨I.rep,I.reg,I.mem,I.bnd,I.gbnd,I.dis,I.gdis,I.plc,I.sz,I.old,I.kp,I.kf,I.xb,I.kb,I.os,I.tape,I.output⟩
theorem Yhf.Ydc (h:Yhf (Z.slots n) ms out v w):Yhf Z ms out v w:=by
 obtain⟨C,F,ρ,Fr,h1,h2⟩:=h;exact⟨C,F,ρ,Fr,h1.Ydc,h2⟩
theorem Inv.frame (I:Inv Z (Yh cs) C ⟨us,[]⟩ w) (hl:us.size=cs.length) (hn:us.size≤n) :
  Inv (Z.slots n) (Yh cs) C ⟨us++Array.replicate (n-us.size) undef,[]⟩ w:=by
 have key:∀ i,i<us.size→(us++Array.replicate (n-us.size) undef).getD i undef=us.getD i undef:=by
  intro i hi;simp only[kU,Array.getElem?_append_left hi]
 refine⟨I.str.slots n,fun i v hv=>?_,rfl,by simp[W0.slots];omega⟩
 have hi:i<us.size:=by
  rw[hl];have:=Ye1 cs 0 i;rw[show lk i (Ydf 0 cs)=some v from hv] at this;rw[jL (kE i),Nat.sub_zero] at this
  cases hc:cs[i]? with
  |none=>rw[hc] at this;cases this
  |some c=>exact(List.getElem?_eq_some_iff.1 hc).1
 have h1:=I.tm i v hv;rw[key i hi]
 cases v with
 |gd t b x=>
  obtain⟨q1,q2⟩:=h1
  by_cases ht:t<us.size
  ·exact⟨fun he=>q1 (by rw[←key t ht];exact he),fun he=>q2 (by rw[←key t ht];exact he)⟩
  ·have hu:(us.getD t undef)=undef:=by
    rw[kU,Array.getElem?_eq_none (by omega)];rfl
   have hu':(us++Array.replicate (n-us.size) undef).getD t undef=undef:=by
    rw[kU,Array.getElem?_append_right (by omega),Array.getElem?_replicate]
    split<;>rfl
   exact⟨fun he=>by rw[show(Act.mk (us++Array.replicate (n-us.size) undef) []).tmps=us++Array.replicate (n-us.size) undef from rfl,hu'] at he;exact absurd he (Yj0 b),fun _=>q2 (by rw[show(Act.mk us []).tmps=us from rfl,hu];exact Yj0 b)⟩
 |_=>exact h1
theorem Yry (r:Nat) (p:Path) (o:Ow) (t:Ty) (x:t.El) (s:Nat) (b:Bool) (v:TV):Yap r p o t x≠.gd s b v:=by
 intro h;rcases Yjf r t p o x with ⟨n,e⟩ | e
 ·rw[e] at h;cases h
 ·rw[h] at e;cases e
theorem PT.Yv5 (p:PT) (x:p.El) (i:Nat) (q:Path) (t:Nat) (b:Bool) (v:TV):(p.mk x).mir i q≠.gd t b v∧∀ w,p.mk x≠.gd t b w:=by
 cases p with
 |cl o t'=>exact⟨Yry i q o t' x t b v,fun w e=>by cases e⟩
 |_=>exact⟨(fun e=>by cases e),fun w e=>by cases e⟩
theorem PT.Yc9:∀ {l:List PT} {cs:List TV} {x:PT.Els l},PT.rds l cs=some x→PT.mks l x=cs
 |[],[],x,h=>rfl
 |[],_::_,x,h=>by cases h
 |_::_,[],x,h=>by cases h
 |p::l,v::vs,x,h=>by
  simp only[PT.rds] at h
  split at h
  ·rename_i y hy
   split at h
   ·rename_i z hz
    cases h;simp only[PT.mks,PT.Yfd hy,PT.Yc9 hz]
   ·cases h
  ·cases h
theorem PT.Ypl:∀ {l:List PT} {x:PT.Els l} {c:TV},c∈PT.mks l x→∃ p y,c=PT.mk p y
 |[],x,c,h=>by cases h
 |p::l,x,c,h=>by
  rcases List.mem_cons.1 h with rfl | h
  ·exact⟨p,x.1,rfl⟩
  ·exact PT.Ypl h
theorem PT.Ydz:∀ {l:List PT} {x:PT.Els l},(PT.mks l x).length=l.length
 |[],x=>rfl
 |p::l,x=>by simp only[PT.mks,jH,PT.Ydz]
theorem Yel:Ya8 (Yh (PT.mks l x)):=by
 intro s t b v hv;have h:=Ye1 (PT.mks l x) 0 s;rw[show lk s (Ydf 0 (PT.mks l x))=some (.gd t b v) from hv,jL (kE s)] at h
 cases hc:(PT.mks l x)[s-0]? with
 |none=>rw[hc] at h;cases h
 |some c=>
  rw[hc] at h;simp only[jT,jD] at h;obtain⟨p,y,e⟩:=PT.Ypl (List.mem_of_getElem? hc);have h1:=(PT.Yv5 p y s [] t b v).1;rw[←e] at h1
  cases c<;>first | exact h1 h.symm | cases h
theorem Ex.Yn3 (e:Ex):e=.nm∨e=.rt∨∃ i,e=.ex i:=by cases e<;>simp
theorem Ys6 (ht:Yaf P tb) (hf:P.funcs[f]? = some fn) (hb:fn.body=some c) (hname:(fn.name == "runtime.NumGoroutine")=false)
 (hE:Ya2 P fn.ntmps cs.length c E) (hms:cs.length≤ms.length) (hnt:cs.length≤fn.ntmps)
  (hgd:Ya8 (Yh cs)) (h:E (Yh cs) Out (Ytd tb hn fn ms)=some out):Ycz P f ms cs out where
 there:=⟨fn,hf,hname,by rw[hb];rfl⟩
 calls:=fun Z C us hl hnt' hP1 hP2 I=>by
  obtain⟨e,S',h1,h2,h3⟩:=hE _ _ _ _ hgd h;refine calls_of_wp hf hb ?_
  refine h3 (Z.slots fn.ntmps) C _ _ _ rfl (fun i hi=>hP1 i (by omega)) (I.frame hl (by omega)) (fun C' a' w' I'=>?_)
  rcases e.Yn3 with rfl | rfl | ⟨i,rfl⟩
  ·obtain⟨v,q1,q2⟩:=Yko (P:=P) ht I' (fun i hi=>hP1 i (by omega)) h1
   exact⟨I'.df,v,q1,v,rfl,q2.Ydc⟩
  ·obtain⟨v,q1,q2⟩:=Yko (P:=P) ht I' (fun i hi=>hP1 i (by omega)) h1
   exact⟨I'.df,v,q1,v,rfl,q2.Ydc⟩
  ·cases h1
def Ycm (P:Program) (f:FuncId) (fs:FS):Prop:=∀ (cs:List TV) (R:Type) (k:Out→Option R) (r:R),fs.F cs R k=some r→∃ out,k out=some r∧Ycz P f fs.modes cs out
theorem Ycm.or (hm:x.modes=y.modes) (hx:Ycm P f x) (hy:Ycm P f y):Ycm P f (FS.or x y pts):=by
 intro cs R k r h;simp only[FS.or] at h
 split at h
 ·exact hx cs R k r h
 ·obtain⟨out,h1,h2⟩:=hy cs R k r h
  exact⟨out,h1,by show Ycz P f x.modes cs out;rw[hm];exact h2⟩
theorem lk_consU.{u} {α:Type u} (i j:Nat) (x:α) (l:List (Nat×α)):lk i ((j,x)::l)=if i=j then some x else lk i l:=by
 by_cases e:i=j
 ·subst e;simp[lk]
 ·rw[jM e]
  simp only[lk]
  rw[show Nat.beq i j=false from by rw[←Bool.not_eq_true,Nat.beq_eq];exact e]
theorem GOk.nil:GOk P (mkG []):=fun f fs h=>by cases h
theorem GOk.cons {f:FuncId} {fs:FS} {l:List (Nat×FS)} (h:Ycm P f fs) (hl:GOk P (mkG l)) (hd:Yuz fs.modes=false:=by rfl):GOk P (mkG ((f,fs)::l)):=by
 intro f' fs' he;simp only[mkG,lk_consU] at he
 split at he
 ·rename_i e;subst e;cases he;exact⟨fun e=>(by rw[hd] at e;cases e),h⟩
 ·exact hl f' fs' he
theorem GOk.Yw6 {f:FuncId} {l:List (Nat×FS)} (h:Yui P f) (hl:GOk P (mkG l)):GOk P (mkG ((f,Ywq)::l)):=by
 intro f' fs' he;simp only[mkG,lk_consU] at he
 split at he
 ·rename_i e;subst e;cases he;exact⟨fun _=>h,fun cs R k r hx=>(by cases hx)⟩
 ·exact hl f' fs' he
theorem Yt8 (ht:Yaf P tb) {f:FuncId} {fn:Func} {c:Code} (hf:P.funcs[f]? = some fn) (hb:fn.body=some c) (hname:(fn.name == "runtime.NumGoroutine")=false)
  {E:St→∀ R:Type,(Ex→St→Option R)→Option R} {pts:List PT} (hE:Ya2 P fn.ntmps pts.length c E) {ms:List Md} (hms:Nat.ble pts.length ms.length=true) (hnt:Nat.ble pts.length fn.ntmps=true)
  {ρ:Type} {F:PT.Els pts→Option ρ} {out:ρ→Out} (h:∀ x,E (Yh (PT.mks pts x)) Out (Ytd tb hn fn ms)=(F x).map out):Ycm P f (Ycx ms pts F out):=by
 intro cs R k r he;simp only[Ycx] at he
 split at he
 ·rename_i x hx
  cases hF:F x with
  |none=>rw[hF] at he;cases he
  |some t=>
   rw[hF] at he;refine⟨out t,he,?_⟩;have e:=PT.Yc9 hx;subst e;have h1:=h x;rw[hF] at h1;have hl:=PT.Ydz (l:=pts) (x:=x)
   exact Ys6 ht hf hb hname (by rw[hl];exact hE) (by rw[hl];exact Nat.le_of_ble_eq_true hms) (by rw[hl];exact Nat.le_of_ble_eq_true hnt) Yel h1
 ·cases he
def frs:Hi→Code→List (Nat×Code)
 |.fr l,c=>[(l,c)]
 |.two x y,.seq a b=>frs x a++frs y b
 |.two x y,.cond _ a b=>frs x a++frs y b
 |.one x,.block _ a=>frs x a
 |_,_=>[]
def Ybx (P:Program) (nt np:Nat) (L:Lam):List (Nat×Code)→Prop
 |[]=>True
 |x::l=>Hok P nt np L (.fr x.1) x.2∧Ybx P nt np L l
theorem Ybx.append:∀ {a b:List (Nat×Code)},Ybx P nt np L (a++b)→Ybx P nt np L a∧Ybx P nt np L b
 |[],b,h=>⟨trivial,h⟩
 |x::a,b,h=>⟨⟨h.1,(Ybx.append h.2).1⟩,(Ybx.append h.2).2⟩
theorem Yey:∀ (h:Hi) (c:Code),Ybx P nt np L (frs h c)→Hok P nt np L h c
 |.fr l,c,h=>h.1
 |.no,c,h=>by cases c<;>trivial
 |.two x y,c,h=>by
  cases c with
  |seq a b=>exact⟨Yey x a h.append.1,Yey y b h.append.2⟩
  |cond d a b=>exact⟨Yey x a h.append.1,Yey y b h.append.2⟩
  |_=>trivial
 |.one x,c,h=>by
  cases c with
  |block i a=>exact Yey x a h
  |_=>trivial
theorem Yl0 (e:frs h c=l) (ha:Ybx P nt np L l):Hok P nt np L h c:=Yey h c (by rw[e];exact ha)
theorem Ygx (h:fn.body.isSome=true):fn.body=some (Yag fn):=by
 unfold Yag
 cases hb:fn.body with
 |none=>rw[hb] at h;cases h
 |some c=>rfl
theorem Lam.no (l:Nat) (c:Code):Hok P nt np (mkL []) (.fr l) c:=fun f h=>by cases h
theorem Lam.cons {l:Nat} {f:St→∀ R:Type,(Ex→St→Option R)→Option R} {L:List (Nat×(St→∀ R:Type,(Ex→St→Option R)→Option R))} {c:Code} (h:Ya2 P nt np c f):Hok P nt np (mkL ((l,f)::L)) (.fr l) c:=by
 intro f' he;simp only[mkL,lk_consU,if_true] at he;cases he;exact h
theorem Lam.skip (hne:Nat.beq l i=false) (h:Hok P nt np (mkL L) (.fr l) c) :
  Hok P nt np (mkL ((i,f)::L)) (.fr l) c:=by
 intro f' he;refine h f' ?_;simp only[mkL,lk] at he;rw[hne] at he;exact he
end
section
variable {P:Program}
abbrev I64:Ty:=.int .i64
abbrev U8:Ty:=.int .u8
abbrev SI:Ty:=.sl I64
abbrev SB:Ty:=.sl U8
abbrev TV.cs (t:Ty) (x:t.El):TV:=.cl .sh t x
abbrev TV.cd (t:Ty) (x:t.El):TV:=.cl .deep t x
abbrev PT.cs (t:Ty):PT:=.cl .sh t
abbrev PT.cd (t:Ty):PT:=.cl .deep t
abbrev Hi.R (h:Hi):Hi:=.two .no h
abbrev Hi.L (h:Hi):Hi:=.two h .no
abbrev h0:Hint:=⟨[],[],[],0⟩
abbrev sr (r:Nat) (v:TV):Nat×Option Root:=(r,some ⟨.reg,v⟩)
theorem mC {α β:Type} (f:α→β) (b:Bool) (x y:Option α):(cond b x y).map f=cond b (x.map f) (y.map f):=Ymp f b x y
theorem mB {α β γ:Type} (f:α→β) (b:Option γ) (x:γ→Option α):(b.bind x).map f=b.bind (fun t=>(x t).map f):=bind_map f b x
theorem mS (f:α→β) (o:γ⊕δ) (x:γ→Option α) (y:δ→Option α):(sel o x y).map f=sel o (fun t=>(x t).map f) (fun t=>(y t).map f):=Yt1 f o x y
theorem mO {α β:Type} (f:α→β) (x:α):(some x).map f=some (f x):=rfl
theorem mN {α β:Type} (f:α→β):(none:Option α).map f=none:=rfl
theorem hT:Ybx P nt np L []:=trivial
theorem Yw7 (ht:Yaf P tb) (hm:P.follows .mixedOrders=true) (fn:Func) (hn:Hint) (h:Hi) {f:FuncId} {pts:List PT} {ms:List Md} {ρ:Type} {F:PT.Els pts→Option ρ} {out:ρ→Out} {G:Gam} (hG:GOk P G)
  {L:Lam} {l:List (Nat×Code)} (hfr:Ybx P fn.ntmps pts.length L l)
  (hE:∀ x,ev tb hn fn.ntmps pts.length G L (Yag fn) h (Yh (PT.mks pts x)) (Ytd tb hn fn ms)=(F x).map out)
  (h1:P.funcs[f]? = some fn:=by kernel_rfl) (h2:fn.body.isSome=true:=by kernel_rfl) (h3:(fn.name == "runtime.NumGoroutine")=false:=by kernel_rfl)
  (h4:frs h (Yag fn)=l:=by kernel_rfl) (h5:Nat.ble pts.length ms.length=true:=by kernel_rfl) (h6:Nat.ble pts.length fn.ntmps=true:=by kernel_rfl):Ycm P f (Ycx ms pts F out):=
 Yt8 ht h1 (Ygx h2) h3 (Ycq ht hG hm _ h (Yl0 h4 hfr)) h5 h6 hE
def kp (e:Ex) (S:St):Option (Ex×St):=some (e,S)
def Ybo {ρ:Type} (out:Yqz ρ) (t:ρ):Ex×St:=(out t _ kp).getD (.nm,⟨[],[]⟩)
def Yub (sp:SP) {ρ:Type} (f:sp.El→Option ρ) (out:sp.El→Yqz ρ):St→∀ R:Type,(Ex→St→Option R)→Option R:=
 Yfp sp fun x R k=>(f x).bind fun t=>out x t R k
theorem Yv4 (ht:Yaf P tb) (hm:P.follows .mixedOrders=true) (hn:Hint) (h:Hi) {nt np:Nat} {body:Code} {sp:SP} {ρ:Type} {f:sp.El→Option ρ} {out:sp.El→Yqz ρ} {G:Gam} (hG:GOk P G)
  {L:Lam} {l:List (Nat×Code)} (hfr:Ybx P nt np L l) (A b:List Nat) (X:List (Nat×KL)) (Rl:KL) {σ:Type} (B:sp.El→σ→Option (σ⊕ρ)) (H:sp.El→σ→St) (s0:sp.El→σ)
  (hE:∀ x s,ev tb hn nt np G L body h (H x s) (kLp (A,b) X Rl)=(B x s).map fun o=>sel o (fun s'=>.inl (H x s')) (fun y=>.inr (Ybo (out x) y)))
  (h1:∀ x,H x (s0 x)=sp.mk' x:=by intro x;rfl) (h2:∀ x,f x=Yan (B x) (s0 x):=by intro x;rfl)
  (h3:∀ (x:sp.El) (t:ρ) (R:Type) (k:Ex→St→Option R),out x t R k=k (Ybo (out x) t).1 (Ybo (out x) t).2:=by intro x t R k;first | rfl | (rcases t with t | t<;>first | rfl | (rcases t with t | t<;>first | rfl | (rcases t with t | t<;>first | rfl | (rcases t with t | t<;>rfl)))))
  (h4:sp.closed=true:=by kernel_rfl) (h5:frs h body=l:=by kernel_rfl):Ya2 P nt np (.loop body) (Yub sp f out):=
 Yoo h4 (Ycq ht hG hm _ h (Yl0 h5 hfr)) fun x=>⟨σ,ρ,B x,H x,Ybo (out x),s0 x,h1 x,hE x,fun R k=>by
  rw[h2 x];exact congrArg (fun g=>(Yan (B x) (s0 x)).bind g) (funext fun t=>h3 x t R k)⟩
end
section
variable {P:Program}
def Ycp:Lay→TV
 |.at=>.dead 1
 |.un=>.cl .sh .unit ()
 |.pair a b=>.pr (Ycp a) (Ycp b)
 |.arr n e=>.dead (n*e.size)
 |.dead n=>.dead n
theorem Ykk:∀ (l:Lay) {s:Src} {F:Yd},Ya w M Lf (Ycp l) s F:=by
 intro l
 induction l with
 |pair a b iha ihb=>intro s F;exact⟨noB,noB,iha,ihb,fun _ h=>h.elim,fun _ h=>h.elim,fun _ h=>h.elim⟩
 |_=>intro s F;exact trivial
theorem Yhj:∀ l:Lay,(Ycp l).Yb4=true:=by
 intro l
 induction l with
 |pair a b iha ihb=>simp only[Ycp,TV.Yb4,iha,ihb];rfl
 |_=>rfl
def Yr7:TV→Bool
 |.op _=>false
 |_=>true
theorem lay_size:∀ t:Ty,(Ycp t.lay).size=t.size∧t.lay.size=t.size:=by
 intro t
 induction t with
 |pair a b iha ihb=>exact⟨by simp only[Ty.lay,Ycp,TV.size,Ty.size,iha.1,ihb.1],by simp only[Ty.lay,Lay.size,Ty.size,iha.2,ihb.2]⟩
 |arr n e ih=>exact⟨by simp only[Ty.lay,Ycp,TV.size,Ty.size,ih.2],by simp only[Ty.lay,Lay.size,Ty.size,ih.2]⟩
 |_=>exact⟨rfl,rfl⟩
theorem Yn7:∀ v:TV,(Ycp v.lay).size=v.size:=by
 intro v
 induction v with
 |cl o t x=>exact(lay_size t).1
 |pr a b iha ihb=>simp only[TV.lay,Ycp,TV.size,iha,ihb]
 |dead n=>match n with | 0=>rfl | 1=>rfl | n+2=>rfl
 |_=>rfl
theorem Ygv.shut (hm:Ye M' M) (hs:c.shut=true) (h:Ygv w M L ρ c u F):Ygv w M' L' ρ' c u F:=by
 have k:∀ {c:TV} {s:Src} {F:Yd},c.shut=true→Ya w M (Yi w M L ρ) c s F→Ya w M' (Yi w M' L' ρ') c s F:=fun hs h=>Ya.shut hm (fun v u hv hl=>Yi.shut hm hv hl) hs h
 cases c with
 |op v=>obtain⟨b,off,F',h1,h2,h3,h4,h5,h6⟩:=h;exact⟨b,off,F',h1,h2,h3,h4,h5,k hs h6⟩
 |_=>exact⟨k hs h.1,h.2⟩
theorem Ydl.shut (hm:Ye M' M):∀ {cs:List TV} {us:List Value} {F:Yd},cs.all TV.shut=true→Ydl w M L ρ cs us F→Ydl w M' L' ρ' cs us F
 |[],[],F,_,h=>trivial
 |c::cs,u::us,F,hs,h=>by
  simp only[List.all_cons,jC] at hs;obtain⟨F1,F2,h1,h2,h3⟩:=h
  exact⟨F1,F2,h1.shut hm hs.1,Ydl.shut hm hs.2 h2,h3⟩
 |[],_::_,_,_,h=>h.elim
 |_::_,[],_,_,h=>h.elim
theorem Yke.shut (hm:Ye M' M) (hs:cs.all TV.shut=true) (h:Yke w M L ρ cs v F):Yke w M' L' ρ' cs v F:=by
 match cs,hs,h with
 |[],_,h=>exact h
 |[c],hs,h=>
  simp only[List.all_cons,jC] at hs
  exact Ygv.shut (M:=M) hm hs.1 h
 |c::d::cs,hs,h=>
  obtain⟨vs,h1,h2⟩:=h;exact⟨vs,h1,Ydl.shut hm hs h2⟩
def Root.wk (R:Root):Root:=⟨R.k,Ycp R.tv.lay⟩
def wkR (ρ:Yc):Yc:=fun i=>(ρ i).map Root.wk
theorem Ybp (h:wkR ρ i=some R):∃ R0,ρ i=some R0∧R=R0.wk:=by
 unfold wkR at h
 cases e:ρ i with
 |none=>rw[e] at h;cases h
 |some R0=>rw[e] at h;cases h;exact⟨R0,rfl,rfl⟩
def Ycr (K:Yp):Nat→List Md→RD (List TV)
 |_,[]=>.ret []
 |i,.mu::ms=>(K.rd i).bind fun R=>(Ycr K (i+1) ms).bind fun l=>.ret (R.wk.out::l)
 |i,_::ms=>Ycr K (i+1) ms
theorem Ybh {K:Yp} {S:St} {ρ:Yc}:∀ (ms:List Md) (i:Nat) {os:List TV},(Ycr K i ms).run S=some os→(∀ (j:Nat),ms[j]? = some .mu→ρ (i+j)=K.roots S (i+j))→Ybg (wkR ρ) i ms os∧os.all TV.Yb4=true
 |[],i,os,h,hr=>by cases h;exact⟨trivial,rfl⟩
 |m::ms,i,os,h,hr=>by
  have hr':∀ (j:Nat),ms[j]? = some .mu→ρ (i+1+j)=K.roots S (i+1+j):=fun j hj=>by
   have:=hr (j+1) (by simpa using hj)
   rw[show i+1+j=i+(j+1) by omega];exact this
  cases m with
  |mu=>
   simp only[Ycr] at h;replace h:=RD.bind_some h;obtain⟨R,h1,h⟩:=h;replace h:=RD.bind_some h;obtain⟨l,h2,h⟩:=h;cases h;obtain⟨k1,k2⟩:=Ybh ms (i+1) h2 hr';refine⟨⟨⟨R.wk,?_,rfl⟩,k1⟩,?_⟩
   ·have:=hr 0 rfl
    rw[kF] at this;unfold wkR;rw[this,Yhg h1];rfl
   ·simp only[List.all_cons,k2,Bool.and_true]
    obtain⟨k,tv⟩:=R
    cases k<;>exact Yhj _
  |sh=>exact Ybh ms (i+1) (by simpa only[Ycr] using h) hr'
  |mv=>exact Ybh ms (i+1) (by simpa only[Ycr] using h) hr'
theorem Ymi {C:Cx} {i:Nat} {R:Root}:∀ b,Tot C i R.wk b→Tot C i R b:=fun b h=>h
theorem Yvl:Ye (Mt Z C (wkR ρ) G) (Mt Z C ρ G):=by
 rintro b (⟨i,R,h1,h2⟩ | h)
 ·obtain⟨R0,e1,rfl⟩:=Ybp h1
  exact .inl ⟨i,_,e1,Ymi b h2⟩
 ·exact .inr h
theorem Str.wk (hS:Str Z Lf C G ρ w):Str Z Lf' C G (wkR ρ) w:={
 rep:=fun i R h=>by obtain⟨R0,e1,rfl⟩:=Ybp h;exact Ykk _
 reg:=fun i R h hk=>by obtain⟨R0,e1,rfl⟩:=Ybp h;exact hS.reg i _ e1 hk
 mem:=fun i R h hk=>by
  obtain⟨R0,e1,rfl⟩:=Ybp h;have hm:=hS.mem i _ e1 hk;have e:R0.wk.tv.size=R0.tv.size:=Yn7 _;rw[e];exact hm
 bnd:=fun i R b h=>by obtain⟨R0,e1,_⟩:=Ybp h;exact hS.bnd i _ b e1
 gbnd:=hS.gbnd
 dis:=fun i j R R' hij h h'=>by
  obtain⟨R0,e1,rfl⟩:=Ybp h;obtain⟨R0',e1',rfl⟩:=Ybp h';exact fun b hb hb'=>hS.dis i j _ _ hij e1 e1' b (Ymi b hb) (Ymi b hb')
 gdis:=fun i R h=>by
  obtain⟨R0,e1,rfl⟩:=Ybp h;exact fun b hb hb'=>hS.gdis i _ e1 b (Ymi b hb) hb'
 plc:=fun i R h=>by obtain⟨R0,e1,rfl⟩:=Ybp h;have q:=hS.plc i _ e1;exact q
 sz:=hS.sz
 old:=hS.old
 kp:=hS.kp
 kf:=hS.kf
 xb:=hS.xb
 kb:=hS.kb
 os:=hS.os
 tape:=hS.tape
 output:=hS.output }
def Yrl (tb:Tb) (hn:Hint) (ts:List TypeId) (rs:List ResultVar) (ms:List Md):RD Out:=
 (Yg1 tb hn ms.length ts rs .none).bind fun(vs,K)=>(Ycr K 0 ms).bind fun os=>match vs.all TV.shut with
  |true=>.ret ⟨vs,os⟩
  |false=>.fail
def Yru (tb:Tb) (hn:Hint) (fn:Func) (ms:List Md) (e:Ex) (S:St):Option Out:=match e with
 |.ex _=>none
 |_=>(Yrl tb hn fn.resultTypes.toList fn.results.toList ms).run S
theorem Yiv (ht:Yaf P tb) (I:Inv Z S C a w) (hnp:∀ i,ms.length≤i→Z.P i=none) (h:(Yrl tb hn fn.resultTypes.toList fn.results.toList ms).run S=some out) :
  ∃ v,(results fn a.tmps).run P w=.ok v w∧Yhf Z ms out v w:=by
 unfold Yrl at h;replace h:=RD.bind_some h;obtain⟨⟨cs,K⟩,h1,h⟩:=h;replace h:=RD.bind_some h;obtain⟨os,h2,h⟩:=h
 split at h
 ·rename_i hs
  cases h;obtain⟨C2,D2,F,G,us,T,g1,f1,d1,hus,hw,hm⟩:=Ycb ht I hnp _ _ (Y0.start I) (fun _ h=>h) h1;refine⟨_,Yet hus,?_⟩
  let ρ:Yc:=fun r=>match ms[r]? with | some .mu=>K.roots S r | _=>none
  have hρ:∀ r R,ρ r=some R→K.roots S r=some R∧ms[r]? = some .mu:=by
   intro r R h;simp only[ρ] at h
   split at h
   ·rename_i hm;exact⟨h,hm⟩
   ·cases h
  obtain⟨hout,hout2⟩:=Ybh (ρ:=ρ) ms 0 h2 (fun j hj=>by simp only[ρ,jJ,hj])
  obtain⟨W,hW⟩:=T.str.weak (ρ':=ρ) (G':=G) (fun r R h=>(hρ r R h).1) (fun b h=>.inl h);refine⟨C2,G,wkR ρ,F,W.wk,hout,f1,Yke.shut (M:=Mt Z C2 ρ G) (L:=C2.L) (ρ:=ρ) Yvl hs ?_,hs,hout2⟩
  ·have hw2:Ydl w (Mt Z C2 ρ G) C2.L ρ cs us F:=by
    have h3:=Ybq.leaf (Lf':=Yi w (Mt Z C2 (K.roots S) G) C2.L (K.roots S)) (fun v u hv hl=>Yi.shut hm hv hl) hs hw;exact Ybq.shut hW hs h3
   have hlen:=hw.length
   match cs,us,hw2,hlen with
   |[],[],_,_=>rfl
   |[c],[u],hw2,_=>
    obtain⟨F1,F2,q1,_,q3,_⟩:=hw2;show Ygv w _ _ _ c u F
    cases c with
    |op tv=>obtain⟨b,off,F',p1,p2,p3,p4,p5,p6⟩:=q1;exact⟨b,off,F',p1,q3 b p2,p3,fun x hx=>q3 x (p4 x hx),p5,p6⟩
    |_=>exact⟨Ya.sub q1.1 q3,q1.2⟩
   |c1::c2::cs,u1::u2::us,hw2,_=>exact⟨_,by rw[dif_neg (by simp)],hw2⟩
 ·cases h
theorem Yrn (ht:Yaf P tb) (hf:P.funcs[f]? = some fn) (hb:fn.body=some c) (hname:(fn.name == "runtime.NumGoroutine")=false)
 (hE:Ya2 P fn.ntmps cs.length c E) (hms:cs.length≤ms.length) (hnt:cs.length≤fn.ntmps)
  (hgd:Ya8 (Yh cs)) (h:E (Yh cs) Out (Yru tb hn fn ms)=some out):Ycz P f ms cs out where
 there:=⟨fn,hf,hname,by rw[hb];rfl⟩
 calls:=fun Z C us hl hnt' hP1 hP2 I=>by
  obtain⟨e,S',h1,h2,h3⟩:=hE _ _ _ _ hgd h;refine calls_of_wp hf hb ?_
  refine h3 (Z.slots fn.ntmps) C _ _ _ rfl (fun i hi=>hP1 i (by omega)) (I.frame hl (by omega)) (fun C' a' w' I'=>?_)
  rcases e.Yn3 with rfl | rfl | ⟨i,rfl⟩
  ·obtain⟨v,q1,q2⟩:=Yiv (P:=P) ht I' (fun i hi=>hP1 i (by omega)) h1
   exact⟨I'.df,v,q1,v,rfl,q2.Ydc⟩
  ·obtain⟨v,q1,q2⟩:=Yiv (P:=P) ht I' (fun i hi=>hP1 i (by omega)) h1
   exact⟨I'.df,v,q1,v,rfl,q2.Ydc⟩
  ·cases h1
theorem Yuu (ht:Yaf P tb) {f:FuncId} {fn:Func} {c:Code} (hf:P.funcs[f]? = some fn) (hb:fn.body=some c) (hname:(fn.name == "runtime.NumGoroutine")=false)
  {E:St→∀ R:Type,(Ex→St→Option R)→Option R} {pts:List PT} (hE:Ya2 P fn.ntmps pts.length c E) {ms:List Md} (hms:Nat.ble pts.length ms.length=true) (hnt:Nat.ble pts.length fn.ntmps=true)
  {ρ:Type} {F:PT.Els pts→Option ρ} {out:ρ→Out} (h:∀ x,E (Yh (PT.mks pts x)) Out (Yru tb hn fn ms)=(F x).map out):Ycm P f (Ycx ms pts F out):=by
 intro cs R k r he;simp only[Ycx] at he
 split at he
 ·rename_i x hx
  cases hF:F x with
  |none=>rw[hF] at he;cases he
  |some t=>
   rw[hF] at he;refine⟨out t,he,?_⟩;have e:=PT.Yc9 hx;subst e;have h1:=h x;rw[hF] at h1;have hl:=PT.Ydz (l:=pts) (x:=x)
   exact Yrn ht hf hb hname (by rw[hl];exact hE) (by rw[hl];exact Nat.le_of_ble_eq_true hms) (by rw[hl];exact Nat.le_of_ble_eq_true hnt) Yel h1
 ·cases he
theorem Ywu (ht:Yaf P tb) (hm:P.follows .mixedOrders=true) (fn:Func) (hn:Hint) (h:Hi) {f:FuncId} {pts:List PT} {ms:List Md} {ρ:Type} {F:PT.Els pts→Option ρ} {out:ρ→Out} {G:Gam} (hG:GOk P G)
  {L:Lam} {l:List (Nat×Code)} (hfr:Ybx P fn.ntmps pts.length L l)
  (hE:∀ x,ev tb hn fn.ntmps pts.length G L (Yag fn) h (Yh (PT.mks pts x)) (Yru tb hn fn ms)=(F x).map out)
  (h1:P.funcs[f]? = some fn:=by kernel_rfl) (h2:fn.body.isSome=true:=by kernel_rfl) (h3:(fn.name == "runtime.NumGoroutine")=false:=by kernel_rfl)
  (h4:frs h (Yag fn)=l:=by kernel_rfl) (h5:Nat.ble pts.length ms.length=true:=by kernel_rfl) (h6:Nat.ble pts.length fn.ntmps=true:=by kernel_rfl):Ycm P f (Ycx ms pts F out):=
 Yuu ht h1 (Ygx h2) h3 (Ycq ht hG hm _ h (Yl0 h4 hfr)) h5 h6 hE
end
section
variable {P:Program}
def W0.free (Z:W0):W0:={Z with P:=fun _=>none }
theorem Str.free (I:Str Z Lf C G ρ w) (h:∀ r R,ρ r=some R→R.k=.reg):Str Z.free Lf C G ρ w:=
 ⟨I.rep,I.reg,I.mem,I.bnd,I.gbnd,I.dis,I.gdis,fun r R hr=>⟨(fun _ e=>by cases e),(fun e=>by rw[h r R hr] at e;cases e)⟩,I.sz,I.old,I.kp,I.kf,I.xb,I.kb,I.os,I.tape,I.output⟩
def Yc0:List Md→List TV→Option (List TV)
 |[],[]=>some []
 |.mu::ms,c::cs=>match Y8 c,Yr7 c,Yc0 ms cs with
  |some _,true,some os=>some (Ycp c.lay::os)
  |_,_,_=>none
 |.sh::ms,c::cs=>match Yr7 c with | true=>Yc0 ms cs | false=>none
 |_,_=>none
def Ypf (tb:Tb) (hn:Hint) (ts:List TypeId) (rs:List ResultVar) (ms:List Md) (cs:List TV):RD Out:=
 (Yg1 tb hn 0 ts rs .none).bind fun(vs,K)=>match vs.all TV.shut,Yc0 ms cs with
  |true,some os=>.ret ⟨vs,os⟩
  |_,_=>.fail
def Yrt (tb:Tb) (hn:Hint) (fn:Func) (ms:List Md) (cs:List TV) (e:Ex) (S:St):Option Out:=match e with
 |.ex _=>none
 |_=>(Ypf tb hn fn.resultTypes.toList fn.results.toList ms cs).run S
theorem Yir:∀ {ms:List Md} {cs os:List TV},Yc0 ms cs=some os→∀ c∈cs,Yr7 c=true
 |[],[],_,_=>fun c h=>by cases h
 |.mu::ms,c::cs,os,h=>by
  simp only[Yc0] at h
  split at h
  ·rename_i h1 h2 h3
   intro x hx;rcases List.mem_cons.1 hx with rfl | hx
   ·exact h2
   ·exact Yir h3 x hx
  ·cases h
 |.sh::ms,c::cs,os,h=>by
  simp only[Yc0] at h
  split at h
  ·rename_i h1
   intro x hx;rcases List.mem_cons.1 hx with rfl | hx
   ·exact h1
   ·exact Yir h x hx
  ·cases h
 |[],_::_,_,h=>by simp[Yc0] at h
 |.mv::_,_::_,_,h=>by simp[Yc0] at h
 |_::_,[],_,h=>by simp[Yc0] at h
def Yh3 (ms:List Md) (cs:List TV):Yc:=fun i=>match ms[i]?,cs[i]? with
 |some .mu,some c=>some ⟨.reg,Ycp c.lay⟩
 |_,_=>none
theorem Ygz:∀ {ms:List Md} {cs os:List TV} (ρ:Yc) (i:Nat),Yc0 ms cs=some os→(∀ j,ρ (i+j)=Yh3 ms cs j)→Ybg ρ i ms os∧os.all TV.Yb4=true
 |[],[],os,ρ,i,h,_=>by cases h;exact⟨trivial,rfl⟩
 |.mu::ms,c::cs,os,ρ,i,h,hr=>by
  simp only[Yc0] at h
  split at h
  ·rename_i h1 h2 h3
   cases h
   obtain⟨g1,g2⟩:=Ygz ρ (i+1) h3 fun j=>by rw[show i+1+j=i+(j+1) by omega,hr (j+1)];rfl
   refine⟨⟨⟨_,(show ρ i=some ⟨.reg,Ycp c.lay⟩ from(hr 0)),rfl⟩,g1⟩,?_⟩;rw[List.all_cons,Yhj,g2];rfl
  ·cases h
 |.sh::ms,c::cs,os,ρ,i,h,hr=>by
  simp only[Yc0] at h
  split at h
  ·rename_i h1
   obtain⟨g1,g2⟩:=Ygz ρ (i+1) h fun j=>by rw[show i+1+j=i+(j+1) by omega,hr (j+1)];rfl
   exact⟨by cases os<;>exact g1,g2⟩
  ·cases h
 |[],_::_,_,_,_,h,_=>by simp[Yc0] at h
 |.mv::_,_::_,_,_,_,h,_=>by simp[Yc0] at h
 |_::_,[],_,_,_,h,_=>by simp[Yc0] at h
theorem Ybf:∀ {ms:List Md} {cs os:List TV},Yc0 ms cs=some os→∀ i R,Yh3 ms cs i=some R→∃ c R0,cs[i]? = some c∧Y8 c=some R0∧R=⟨.reg,Ycp c.lay⟩
 |[],[],os,h,i,R,hr=>by simp[Yh3] at hr
 |.mu::ms,c::cs,os,h,i,R,hr=>by
  simp only[Yc0] at h
  split at h
  ·rename_i h1 h2 h3
   cases i with
   |zero=>cases hr;exact⟨c,_,rfl,h1,rfl⟩
   |succ i=>exact Ybf h3 i R hr
  ·cases h
 |.sh::ms,c::cs,os,h,i,R,hr=>by
  simp only[Yc0] at h
  split at h
  ·rename_i h1
   cases i with
   |zero=>simp[Yh3] at hr
   |succ i=>exact Ybf h i R hr
  ·cases h
 |[],_::_,_,h,_,_,_=>by simp[Yc0] at h
 |.mv::_,_::_,_,h,_,_,_=>by simp[Yc0] at h
 |_::_,[],_,h,_,_,_=>by simp[Yc0] at h
theorem Yiu {S:St} {C C0:Cx} {a:Act} {w:World} (ht:Yaf P tb) {fn:Func} {ms:List Md} {cs:List TV} {out:Out} (I:Inv Z.free S C a w)
  (h0:∀ i R,Yh3 ms cs i=some R→(∃ bs,C0.L i=.reg bs 0)∧Z.P i=some (C0.L i))
  (h:(Ypf tb hn fn.resultTypes.toList fn.results.toList ms cs).run S=some out) :
  ∃ v,(results fn a.tmps).run P w=.ok v w∧Yhf Z ms out v w:=by
 unfold Ypf at h;replace h:=RD.bind_some h;obtain⟨⟨vs,K⟩,h1,h⟩:=h;simp only[] at h
 split at h
 ·rename_i os hs he
  cases h;obtain⟨C2,D2,F,G,us,T,g1,f1,d1,hus,hw,hm⟩:=Ycb ht I (fun i _=>rfl) _ _ (Y0.start I) (fun _ h=>h) h1;refine⟨_,Yet hus,?_⟩
  obtain⟨W,hW⟩:=T.str.weak (ρ':=fun _=>none) (G':=G) (fun r R h=>by cases h) (fun b h=>.inl h)
  let C3:Cx:=⟨C0.L,fun _=>noB⟩
  have hM:Ye (Mt Z C3 (Yh3 ms cs) G) (Mt Z.free C2 (K.roots S) G):=by
   rintro b (⟨i,R,e1,e2⟩ | h | h)
   ·obtain⟨c,R0,_,_,rfl⟩:=Ybf he i R e1
    rcases e2 with e2 | ⟨e2,_⟩
    ·exact e2.elim
    ·cases e2
   ·exact .inr (.inl h)
   ·exact .inr (.inr h)
  have hT:∀ i R,Yh3 ms cs i=some R→∀ b,¬ Tot C3 i R b:=by
   intro i R e b hb;obtain⟨c,R0,_,_,rfl⟩:=Ybf he i R e;rcases hb with hb | ⟨hb,_⟩
   ·exact hb.elim
   ·cases hb
  have hout:=Ygz (Yh3 ms cs) 0 he fun j=>by rw[jJ]
  refine⟨C3,G,Yh3 ms cs,F,?_,hout.1,f1,?_,hs,hout.2⟩
  ·exact {
    rep:=fun i R h=>by obtain⟨c,R0,_,_,rfl⟩:=Ybf he i R h;exact Ykk _
    reg:=fun i R h _=>(h0 i R h).1
    mem:=fun i R h hk=>by obtain⟨c,R0,_,_,rfl⟩:=Ybf he i R h;cases hk
    bnd:=fun i R b h hb=>hb.elim
    gbnd:=W.gbnd
    dis:=fun i j R R' _ e1 e2 b hb=>absurd hb (hT i R e1 b)
    gdis:=fun i R e b hb=>absurd hb (hT i R e b)
    plc:=fun i R h=>by
     obtain⟨c,R0,_,_,e⟩:=Ybf he i R h
     refine⟨fun s' hs'=>?_,fun hk=>by rw[e] at hk;cases hk⟩
     rw[(h0 i R h).2] at hs';exact jN hs'
    sz:=W.sz
    old:=W.old
    kp:=W.kp
    kf:=W.kf
    xb:=W.xb
    kb:=W.kb
    os:=W.os
    tape:=W.tape
    output:=W.output }
  ·have hw2:Ydl w (Mt Z C3 (Yh3 ms cs) G) C3.L (Yh3 ms cs) vs us F:=by
    have h3:=Ybq.leaf (Lf':=Yi w (Mt Z.free C2 (K.roots S) G) C2.L (K.roots S)) (fun v u hv hl=>Yi.shut hm hv hl) hs hw;exact Ybq.shut hM hs h3
   have hlen:=hw.length
   match vs,us,hw2,hlen with
   |[],[],_,_=>rfl
   |[c],[u],hw2,_=>
    obtain⟨F1,F2,q1,_,q3,_⟩:=hw2;show Ygv w _ _ _ c u F
    cases c with
    |op tv=>obtain⟨b,off,F',p1,p2,p3,p4,p5,p6⟩:=q1;exact⟨b,off,F',p1,q3 b p2,p3,fun x hx=>q3 x (p4 x hx),p5,p6⟩
    |_=>exact⟨Ya.sub q1.1 q3,q1.2⟩
   |c1::c2::cs,u1::u2::us,hw2,_=>exact⟨_,by rw[dif_neg (by simp)],hw2⟩
 ·cases h
theorem Yrm (ht:Yaf P tb) {f:FuncId} {fn:Func} {c:Code} (hf:P.funcs[f]? = some fn) (hb:fn.body=some c) (hname:(fn.name == "runtime.NumGoroutine")=false)
  {E:St→∀ R:Type,(Ex→St→Option R)→Option R} {cs:List TV} (hE:Ya2 P fn.ntmps 0 c E) {ms:List Md} (hnt:cs.length≤fn.ntmps)
  (hgd:Ya8 (Yh cs)) {out:Out} (h:E (Yh cs) Out (Yrt tb hn fn ms cs)=some out):Ycz P f ms cs out where
 there:=⟨fn,hf,hname,by rw[hb];rfl⟩
 calls:=fun Z C us hl hnt' hP1 hP2 I=>by
  obtain⟨e,S',h1,h2,h3⟩:=hE _ _ _ _ hgd h
  have hos:∃ os,Yc0 ms cs=some os:=by
   unfold Yrt Ypf at h1
   cases e with
   |ex _=>cases h1
   |_=>
    obtain⟨⟨vs,K⟩,_,h1⟩:=RD.bind_some h1;simp only[] at h1
    split at h1
    ·rename_i q1 q2;exact⟨_,q2⟩
    ·cases h1
  obtain⟨os,hos⟩:=hos;have hno:=Yir hos
  have hreg:∀ r R,(Yh cs).root r=some R→R.k=.reg:=by
   intro r R hr;rw[Ya5] at hr
   cases hc:cs[r]? with
   |none=>rw[hc] at hr;cases hr
   |some c=>
    rw[hc] at hr
    have:=Yac hr (fun v e=>by subst e;have:=hno _ (List.mem_of_getElem? hc);cases this)
    rw[this]
  have h0:∀ i R,Yh3 ms cs i=some R→(∃ bs,C.L i=.reg bs 0)∧Z.P i=some (C.L i):=by
   intro i R hr;obtain⟨c,R0,e1,e2,_⟩:=Ybf hos i R hr
   have hR:(Yh cs).root i=some R0:=by rw[Ya5,e1];exact e2
   refine⟨I.str.reg i R0 hR (hreg i R0 hR),hP2 i ?_⟩;rw[hl];exact(List.getElem?_eq_some_iff.1 e1).1
  have I1:=I.frame hl (show us.size≤fn.ntmps by omega)
  refine calls_of_wp hf hb ?_;refine h3 (Z.slots fn.ntmps).free C _ _ _ rfl (fun i hi=>rfl) ⟨I1.str.free hreg,I1.tm,I1.df,I1.ts⟩ (fun C' a' w' I'=>?_);rcases e.Yn3 with rfl | rfl | ⟨i,rfl⟩
  ·obtain⟨v,q1,q2⟩:=Yiu (Z:=Z.slots fn.ntmps) (P:=P) ht I' h0 h1
   exact⟨I'.df,v,q1,v,rfl,q2.Ydc⟩
  ·obtain⟨v,q1,q2⟩:=Yiu (Z:=Z.slots fn.ntmps) (P:=P) ht I' h0 h1
   exact⟨I'.df,v,q1,v,rfl,q2.Ydc⟩
  ·cases h1
theorem Ycm.bot {f:FuncId} {ms:List Md} {pts:List PT} {ρ:Type} {out:ρ→Out}:Ycm P f (Ycx ms pts (fun _=>none) out):=by
 intro cs R k r he;simp only[Ycx] at he
 split at he<;>cases he
theorem Ywt (ht:Yaf P tb) (hm:P.follows .mixedOrders=true) (fn:Func) (hn:Hint) (h:Hi) {f:FuncId} {pts:List PT} {ms:List Md} {ρ:Type} {F:PT.Els pts→Option ρ} {out:ρ→Out} {G:Gam} (hG:GOk P G)
  {L:Lam} {l:List (Nat×Code)} (hfr:Ybx P fn.ntmps 0 L l)
  (hE:∀ x,ev tb hn fn.ntmps 0 G L (Yag fn) h (Yh (PT.mks pts x)) (Yrt tb hn fn ms (PT.mks pts x))=(F x).map out)
  (h1:P.funcs[f]? = some fn:=by kernel_rfl) (h2:fn.body.isSome=true:=by kernel_rfl) (h3:(fn.name == "runtime.NumGoroutine")=false:=by kernel_rfl)
  (h4:frs h (Yag fn)=l:=by kernel_rfl) (h6:Nat.ble pts.length fn.ntmps=true:=by kernel_rfl):Ycm P f (Ycx ms pts F out):=by
 intro cs R k r he;simp only[Ycx] at he
 split at he
 ·rename_i x hx
  cases hF:F x with
  |none=>rw[hF] at he;cases he
  |some t=>
   rw[hF] at he;refine⟨out t,he,?_⟩;have e:=PT.Yc9 hx;subst e;have q:=hE x;rw[hF] at q;have hl:=PT.Ydz (l:=pts) (x:=x)
   exact Yrm ht h1 (Ygx h2) h3 (Ycq ht hG hm _ h (Yl0 h4 hfr)) (by rw[hl];exact Nat.le_of_ble_eq_true h6) Yel q
 ·cases he
end
section
variable {P:Program}
noncomputable def Yja (sp:SP) {σ ρ:Type} (B:sp.El→σ→Option (σ⊕ρ)) (s0:sp.El→σ) (out:sp.El→Yqz ρ):St→∀ R:Type,(Ex→St→Option R)→Option R:=
 Yub sp (fun x=>Yan (B x) (s0 x)) out
section
variable {nt np:Nat} {body:Code} {sp:SP} {σ ρ:Type} {B:sp.El→σ→Option (σ⊕ρ)} {s0:sp.El→σ} {out:sp.El→Yqz ρ}
theorem Yth (ht:Yaf P tb) (hm:P.follows .mixedOrders=true) (hn:Hint) (h:Hi) (hG:GOk P G) (hfr:Ybx P nt np L l) (X:List (Nat×KL)) (Rl:KL) (put:sp.El→σ→sp.El)
  (hE:∀ x s,ev tb hn nt np G L body h (sp.mk' (put x s)) (kLp (sp.tm.map Prod.fst,sp.rt.map Prod.fst) X Rl)=(B x s).map fun o=>sel o (fun s'=>.inl (sp.mk' (put x s'))) (fun y=>.inr (Ybo (out x) y)))
  (h1:∀ x,sp.mk' (put x (s0 x))=sp.mk' x:=by intro x;rfl)
  (h3:∀ (x:sp.El) (t:ρ) (R:Type) (k:Ex→St→Option R),out x t R k=k (Ybo (out x) t).1 (Ybo (out x) t).2:=by intro x t R k;first | rfl | (rcases t with t | t<;>first | rfl | (rcases t with t | t<;>first | rfl | (rcases t with t | t<;>first | rfl | (rcases t with t | t<;>rfl)))))
  (h4:sp.closed=true:=by kernel_rfl) (h5:frs h body=l:=by kernel_rfl):Ya2 P nt np (.loop body) (Yja sp B s0 out):=
 Yv4 ht hm hn h hG hfr _ _ X Rl B (fun x s=>sp.mk' (put x s)) s0 hE h1 (fun _=>rfl) h3 h4 h5
theorem Yxb (ht:Yaf P tb) (hm:P.follows .mixedOrders=true) (hn:Hint) (h:Hi) (hG:GOk P G) (hfr:Ybx P nt np L l) (X:List (Nat×KL)) (put:sp.El→σ→sp.El)
  (hE:∀ x s,ev tb hn nt np G L body h (sp.mk' (put x s)) (kLp (sp.tm.map Prod.fst,sp.rt.map Prod.fst) X ([],[]))=(B x s).map fun o=>sel o (fun s'=>.inl (sp.mk' (put x s'))) (fun y=>.inr (Ybo (out x) y)))
  (h1:∀ x,sp.mk' (put x (s0 x))=sp.mk' x:=by intro x;rfl)
  (h3:∀ (x:sp.El) (t:ρ) (R:Type) (k:Ex→St→Option R),out x t R k=k (Ybo (out x) t).1 (Ybo (out x) t).2:=by intro x t R k;first | rfl | (rcases t with t | t<;>first | rfl | (rcases t with t | t<;>first | rfl | (rcases t with t | t<;>first | rfl | (rcases t with t | t<;>rfl)))))
  (h4:sp.closed=true:=by kernel_rfl) (h5:frs h body=l:=by kernel_rfl):Ya2 P nt np (.loop body) (Yja sp B s0 out):=
 Yth ht hm hn h hG hfr X ([],[]) put hE h1 h3 h4 h5
theorem Yw8 (ht:Yaf P tb) (hm:P.follows .mixedOrders=true) (hn:Hint) (h:Hi) (hfr:Ybx P nt np L l) (X:List (Nat×KL)) (put:sp.El→σ→sp.El)
  (hE:∀ x s,ev tb hn nt np (mkG []) L body h (sp.mk' (put x s)) (kLp (sp.tm.map Prod.fst,sp.rt.map Prod.fst) X ([],[]))=(B x s).map fun o=>sel o (fun s'=>.inl (sp.mk' (put x s'))) (fun y=>.inr (Ybo (out x) y)))
  (h1:∀ x,sp.mk' (put x (s0 x))=sp.mk' x:=by intro x;rfl)
  (h3:∀ (x:sp.El) (t:ρ) (R:Type) (k:Ex→St→Option R),out x t R k=k (Ybo (out x) t).1 (Ybo (out x) t).2:=by intro x t R k;first | rfl | (rcases t with t | t<;>first | rfl | (rcases t with t | t<;>first | rfl | (rcases t with t | t<;>first | rfl | (rcases t with t | t<;>rfl)))))
  (h4:sp.closed=true:=by kernel_rfl) (h5:frs h body=l:=by kernel_rfl):Ya2 P nt np (.loop body) (Yja sp B s0 out):=
 Yth ht hm hn h .nil hfr X ([],[]) put hE h1 h3 h4 h5
theorem Yw9 (ht:Yaf P tb) (hm:P.follows .mixedOrders=true) (hn:Hint) (hG:GOk P G) (X:List (Nat×KL)) (put:sp.El→σ→sp.El)
  (hE:∀ x s,ev tb hn nt np G (mkL []) body .no (sp.mk' (put x s)) (kLp (sp.tm.map Prod.fst,sp.rt.map Prod.fst) X ([],[]))=(B x s).map fun o=>sel o (fun s'=>.inl (sp.mk' (put x s'))) (fun y=>.inr (Ybo (out x) y)))
  (h1:∀ x,sp.mk' (put x (s0 x))=sp.mk' x:=by intro x;rfl)
  (h3:∀ (x:sp.El) (t:ρ) (R:Type) (k:Ex→St→Option R),out x t R k=k (Ybo (out x) t).1 (Ybo (out x) t).2:=by intro x t R k;first | rfl | (rcases t with t | t<;>first | rfl | (rcases t with t | t<;>first | rfl | (rcases t with t | t<;>first | rfl | (rcases t with t | t<;>rfl)))))
  (h4:sp.closed=true:=by kernel_rfl):Ya2 P nt np (.loop body) (Yja sp B s0 out):=
 Yth ht hm hn .no hG (L:=mkL []) (l:=[]) hT X ([],[]) put hE h1 h3 h4
theorem Yw0 (ht:Yaf P tb) (hm:P.follows .mixedOrders=true) (hn:Hint) (X:List (Nat×KL)) (put:sp.El→σ→sp.El)
  (hE:∀ x s,ev tb hn nt np (mkG []) (mkL []) body .no (sp.mk' (put x s)) (kLp (sp.tm.map Prod.fst,sp.rt.map Prod.fst) X ([],[]))=(B x s).map fun o=>sel o (fun s'=>.inl (sp.mk' (put x s'))) (fun y=>.inr (Ybo (out x) y)))
  (h1:∀ x,sp.mk' (put x (s0 x))=sp.mk' x:=by intro x;rfl)
  (h3:∀ (x:sp.El) (t:ρ) (R:Type) (k:Ex→St→Option R),out x t R k=k (Ybo (out x) t).1 (Ybo (out x) t).2:=by intro x t R k;first | rfl | (rcases t with t | t<;>first | rfl | (rcases t with t | t<;>first | rfl | (rcases t with t | t<;>first | rfl | (rcases t with t | t<;>rfl)))))
  (h4:sp.closed=true:=by kernel_rfl):Ya2 P nt np (.loop body) (Yja sp B s0 out):=
 Yth ht hm hn .no .nil (L:=mkL []) (l:=[]) hT X ([],[]) put hE h1 h3 h4
end
end
def vEq:Value→Value→Bool
 |.bool a,.bool b=>match a,b with | true,true | false,false=>true | _,_=>false
 |.int k n,.int l m=>decide (k=l)&&decide (n=m)
 |.string a,.string b=>match a.data.toList,b.data.toList with | [],[]=>true | _,_=>false
 |.slice none n c,.slice none m d=>Nat.beq n m&&Nat.beq c d
 |_,_=>false
theorem Yvc:∀ {a b:Value},vEq a b=true→a=b:=by
 intro a b h;unfold vEq at h
 split at h
 ·split at h<;>first | rfl | cases h
 ·simp only[jC,jI] at h;rw[h.1,h.2]
 ·rename_i a b
  split at h
  ·rename_i h1 h2
   obtain⟨⟨l⟩⟩:=a;obtain⟨⟨m⟩⟩:=b;simp only at h1 h2;rw[h1,h2]
  ·cases h
 ·simp only[jC,Nat.beq_eq] at h;rw[h.1,h.2]
 ·cases h
def Yt6:List Value→List Value→Bool
 |[],[]=>true
 |a::l,b::m=>vEq a b&&Yt6 l m
 |_,_=>false
theorem Ypv:∀ {a b:List Value},Yt6 a b=true→a=b
 |[],[],h=>rfl
 |a::l,b::m,h=>by
  simp only[Yt6,jC] at h
  rw[Yvc h.1,Ypv h.2]
 |[],_::_,h=>by cases h
 |_::_,[],h=>by cases h
def zB (z:Option Value) (t:Ty):Bool:=match z with | some v=>Yt6 v.cells.toList (Yy t) | none=>false
theorem Yuf (h:zB z t=true):∃ v,z=some v∧v.cells.toList=Yy t:=by
 cases z with
 |none=>cases h
 |some v=>exact⟨v,rfl,Ypv h⟩
def Yq3 (t:Ty) (d:TypeDesc):Bool:=match t.isAgg,d.isRow with | true,true | false,false=>true | _,_=>false
theorem Ylf (h:Yq3 t d=true):t.isAgg=true↔d.isRow=true:=by
 unfold Yq3 at h
 cases h1:t.isAgg<;>cases h2:d.isRow<;>simp_all
def Yl3:List Nat→List Nat→Bool
 |[],[]=>true
 |a::l,b::m=>Nat.beq a b&&Yl3 l m
 |_,_=>false
theorem Yky:∀ {a b:List Nat},Yl3 a b=true→a=b
 |[],[],h=>rfl
 |a::l,b::m,h=>by
  simp only[Yl3,jC,Nat.beq_eq] at h
  rw[h.1,Yky h.2]
 |[],_::_,h=>by cases h
 |_::_,[],h=>by cases h
def fieldsB (P:Program) (t:Ty):Nat→List Field→Bool
 |_,[]=>true
 |i,f::l=>(match P.info? f.type,P.underlying f.type with
  |some j,some de=>!Nat.beq j.size 0&&(Nat.beq j.size (Y7 t i).size&&Yq3 (Y7 t i) de)
  |_,_=>false)&&fieldsB P t (i+1) l
theorem Yis:∀ {l:List Field} {i:Nat},fieldsB P t i l=true→∀ (k:Nat) f,l[k]? = some f→
  ∃ j de,P.info? f.type=some j∧j.size≠0∧j.size=(Y7 t (i+k)).size∧P.underlying f.type=some de∧((Y7 t (i+k)).isAgg=true↔de.isRow=true)
 |[],i,h,k,f,hk=>by cases hk
 |x::l,i,h,k,f,hk=>by
  simp only[fieldsB,jC] at h
  cases k with
  |zero=>
   cases hk;have h1:=h.1
   split at h1
   ·rename_i j de hj hde
    simp only[jC,Bool.not_eq_true',Nat.beq_eq] at h1;refine⟨j,de,hj,?_,h1.2.1,hde,Ylf h1.2.2⟩;intro e;have:=h1.1;rw[e] at this;cases this
   ·cases h1
  |succ k=>
   have:=Yis h.2 k f (by simpa using hk)
   rw[show i+1+k=i+(k+1) by omega] at this
   exact this
def dB (P:Program) (td:TD) (t:Ty) (d:TypeDesc):Bool:=match td,d,t with
 |.int k,.int l,.int m=>decide (k=l)&&decide (m=k)
 |.bool,.bool,.bool=>true
 |.str,.string,.str=>true
 |.sl e,.slice f,.sl te=>Nat.beq e f&&match P.info? e with
  |some i=>Nat.beq i.size te.size&&(zB i.zero te&&(Nat.ble i.bytes 4096&&match te with
   |.int k=>match P.underlying e with | some (.int l)=>decide (k=l) | _=>false
   |_=>true))
  |none=>false
 |.arr n e,.array m f,.arr n' te=>Nat.beq n m&&(Nat.beq e f&&(Nat.beq n' n&&match P.info? e,P.underlying e with
  |some i,some de=>Nat.beq i.size te.size&&Yq3 te de
  |_,_=>false))
 |.st offs,.struct fs,t=>t.isAgg&&(Yl3 (fs.toList.map (·.offset)) offs&&fieldsB P t 0 fs.toList)
 |_,_,_=>false
theorem Yvs (h:dB P td t d=true):DOk P td t d:=by
 unfold dB at h
 split at h
 ·simp only[jC,jI] at h
  obtain⟨rfl,rfl⟩:=h;exact⟨rfl,rfl⟩
 ·exact⟨rfl,rfl⟩
 ·exact⟨rfl,rfl⟩
 ·rename_i e f te
  simp only[jC,Nat.beq_eq] at h;obtain⟨rfl,h⟩:=h
  split at h
  ·rename_i i hi
   simp only[jC,Nat.beq_eq] at h;obtain⟨h1,h2,h3,h4⟩:=h;refine⟨rfl,te,i,rfl,hi,h1,Yuf h2,fun k hk=>?_,Nat.le_of_ble_eq_true h3⟩;subst hk;simp only at h4
   split at h4
   ·rename_i l hl;rw[jI] at h4;rw[hl,h4]
   ·cases h4
  ·cases h
 ·rename_i n e m f n' te
  simp only[jC,Nat.beq_eq] at h;obtain⟨rfl,rfl,rfl,h⟩:=h
  split at h
  ·rename_i i de hi hde
   simp only[jC,Nat.beq_eq] at h;exact⟨rfl,te,i,rfl,hi,h.1,de,hde,Ylf h.2⟩
  ·cases h
 ·simp only[jC] at h
  obtain⟨h1,h2,h3⟩:=h;refine⟨_,rfl,h1,?_,fun i f hf=>?_⟩
  ·rw[Array.toList_map];exact Yky h2
  ·have:=Yis h3 i f (by simpa using hf)
   rw[jJ] at this;exact this
 ·cases h
def Ywa (P:Program) (t:TypeId) (i:Yfa):Bool:=match P.underlying t,P.info? t with
 |some d,some j=>dB P i.d i.ty d&&(Yq3 i.ty d&&(Nat.beq j.size i.ty.size&&zB j.zero i.ty))
 |_,_=>false
def tbB (P:Program):Tb→Bool
 |[]=>true
 |(t,i)::l=>(Ywa P t i&&EqB P t i)&&tbB P l
theorem Ymg:∀ {tb:Tb},tbB P tb=true→∀ t i,lk t tb=some i→TOk P t i∧EqB P t i=true
 |[],h,t,i,hl=>by cases hl
 |(u,j)::l,h,t,i,hl=>by
  simp only[tbB,jC] at h;simp only[lk] at hl
  split at hl
  ·rename_i e
   rw[Nat.beq_eq] at e;subst e;cases hl;refine⟨?_,h.1.2⟩;have h1:=h.1.1;unfold Ywa at h1
   split at h1
   ·rename_i d k hd hk
    simp only[jC,Nat.beq_eq] at h1;exact⟨⟨d,hd,Yvs h1.1,Ylf h1.2.1⟩,⟨k,hk,h1.2.2.1,Yuf h1.2.2.2⟩⟩
   ·cases h1
  ·exact Ymg h.2 t i hl
theorem Yw5 (h:tbB P tb=true):Yaf P tb:=⟨fun t i hl=>(Ymg h t i hl).1,fun t i hl=>(Ymg h t i hl).2⟩
end Mf
