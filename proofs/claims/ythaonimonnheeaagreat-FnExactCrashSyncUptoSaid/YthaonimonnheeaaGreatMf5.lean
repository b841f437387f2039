import Derived.Test.YthaonimonnheeaaGreatMf4
import Derived.Below
import Derived.Calls
import Derived.ChangeSame
import Derived.ChangeShapes
import Derived.DataReads
import Derived.Deep.AppendSrc
import Derived.Deep.Draws
import Derived.Deep.MidRow
import Derived.Deep.Upon
import Derived.KernelRfl
import Derived.Laws.AppendOwn
import Derived.Laws.BytesString
import Derived.Laws.Entries
import Derived.Laws.IdiomCopy
import Derived.Laws.IdiomStrings
import Derived.Laws.Strings
import Derived.Laws.StructEq
import Derived.Laws.Tables
import Derived.Lay
import Derived.Lib.SliceRun
import Derived.Orders
import Derived.Sort.Grow
import Derived.Sort.Row
import GoSem.Core.Region
import GoSem.Core.View
set_option linter.unusedVariables false
set_option linter.unusedSimpArgs false
namespace Mf
open Go
set_option linter.unusedVariables false
set_option linter.unusedSimpArgs false
variable {Z:W0} {S:St} {C:Cx} {w w':World} {a:Act}
theorem Ycw.shut {M M':Ya} {L L':Nat→Src} {ρ ρ':Yb} (hm:Ye M' M):∀ (v:TV) {us:List Value},v.shut=true→Ycw w M L ρ v us→Ycw w M' L' ρ' v us:=by
 intro v
 induction v with
 |pr x y ihx ihy=>
  intro us hs h
  cases us with
  |nil=>exact h.elim
  |cons u us=>
   simp only[TV.shut,Bool.and_eq_true] at hs;refine⟨?_,ihy hs.2 h.2⟩
   cases x with
   |nl=>exact h.1
   |pt t y=>obtain⟨b,off,e1,e2,e3,e4⟩:=h.1;exact⟨b,off,e1,fun k=>e2 (hm b k),e3,Yc.mono (Lf:=fun _ _=>True) (tv:=.cl .sh t y) e4 hm⟩
   |loc r p=>simp[TV.shut] at hs
   |seg r p=>simp[TV.shut] at hs
   |sub r p lo n=>simp[TV.shut] at hs
   |_=>exact h.1.elim
 |cl o t x=>intro us hs h;cases t<;>cases us<;>first | exact h.elim | trivial
 |_=>intro us hs h;exact h.elim
theorem Yi.shut {M M':Ya} {L L':Nat→Src} {ρ ρ':Yb} (hm:Ye M' M) {v:TV} {u:Value} (hs:v.shut=true) (h:Yi w M L ρ v u):Yi w M' L' ρ' v u:=by
 cases v with
 |clo f c=>obtain⟨caps,h1,h2⟩:=h;exact⟨caps,h1,h2.shut hm c hs⟩
 |nl=>exact h
 |pt t y=>obtain⟨b,off,e1,e2,e3,e4⟩:=h;exact⟨b,off,e1,fun k=>e2 (hm b k),e3,Yc.mono (Lf:=fun _ _=>True) (tv:=.cl .sh t y) e4 hm⟩
 |loc r p=>cases hs
 |seg r p=>cases hs
 |sub r p lo n=>cases hs
 |_=>exact h.elim
theorem Yc.shut {M M':Ya} {Lf Lf':TV→Value→Prop} (hm:Ye M' M) (hl:∀ v u,v.shut=true→Lf v u→Lf' v u):∀ {tv:TV} {s:Src} {F:Ya},tv.shut=true→Yc w M Lf tv s F→Yc w M' Lf' tv s F:=by
 intro tv
 induction tv with
 |pr x y ihx ihy=>
  intro s F hs h;simp only[TV.shut,Bool.and_eq_true] at hs;obtain⟨F1,F2,r1,r2,r3⟩:=h
  exact⟨F1,F2,ihx hs.1 r1,ihy hs.2 r2,r3⟩
 |cl o t x=>intro s F hs h;exact Yc.mono (Lf:=Lf) (tv:=.cl o t x) h hm
 |dead n=>intro s F hs h;trivial
 |rw o e xs i v=>intro s F hs h;cases hs
 |_=>intro s F hs h;obtain⟨u,h1,h2⟩:=h;exact⟨u,h1,hl _ _ hs h2⟩
def TV.Ycu:TV→Bool
 |.pr a b=>a.Ycu&&b.Ycu
 |.dead _=>true
 |v=>v.shut
theorem TV.Ymp:∀ {v:TV},v.shut=true→v.Ycu=true:=by
 intro v
 induction v with
 |pr a b iha ihb=>intro h;simp only[TV.shut,Bool.and_eq_true] at h;simp only[TV.Ycu,iha h.1,ihb h.2];rfl
 |_=>intro h;first | rfl | exact h
theorem Yc.Ycu {M M':Ya} {Lf Lf':TV→Value→Prop} (hm:Ye M' M) (hl:∀ v u,v.shut=true→Lf v u→Lf' v u):∀ {tv:TV} {s:Src} {F:Ya},tv.Ycu=true→Yc w M Lf tv s F→Yc w M' Lf' tv s F:=by
 intro tv
 induction tv with
 |pr x y ihx ihy=>
  intro s F hs h;simp only[TV.Ycu,Bool.and_eq_true] at hs;obtain⟨F1,F2,r1,r2,r3⟩:=h
  exact⟨F1,F2,ihx hs.1 r1,ihy hs.2 r2,r3⟩
 |dead n=>intro s F hs h;trivial
 |_=>intro s F hs h;exact Yc.shut hm hl (tv:=_) hs h
theorem Rep.noSh {M M':Ya}:∀ {t:Ty} {o:Ow} {x:t.El} {s:Src} {F:Ya},nsh o t=true→Rep w M t o x s F→Rep w M' t o x s F:=by
 intro t
 induction t with
 |int k=>intro o x s F _ h;exact h
 |bool=>intro o x s F _ h;exact h
 |str=>intro o x s F _ h;exact h
 |unit=>intro o x s F _ h;exact h
 |pair t u iht ihu=>
  intro o x s F ho h;obtain⟨F1,F2,r1,r2,r3⟩:=h
  have h2:nsh o t=true∧nsh o u=true:=by cases o<;>simp_all [nsh,Ty.pure,Ty.Yez]
  exact⟨F1,F2,iht h2.1 r1,ihu h2.2 r2,r3⟩
 |sl e ih=>
  intro o x s F ho h;obtain⟨A,c,h1,h2,h3⟩:=h;refine⟨A,c,h1,h2,?_⟩
  cases o with
  |sh=>cases ho
  |top=>
   intro hc;obtain⟨b,off,Fs,e1,e2,e3,e4,e5⟩:=h3 hc
   exact⟨b,off,Fs,e1,e2,e3,fun i hi=>⟨ih (o:=.sh) ho (e4 i hi).1,(e4 i hi).2⟩,e5⟩
  |deep=>
   intro hc;obtain⟨b,off,Fs,e1,e2,e3,e4,e5⟩:=h3 hc
   exact⟨b,off,Fs,e1,e2,e3,fun i hi=>⟨ih (o:=.deep) rfl (e4 i hi).1,(e4 i hi).2⟩,e5⟩
 |arr n e ih=>
  intro o x s F ho h;obtain⟨h1,Fs,h2,h3⟩:=h
  have h4:nsh o e=true:=by cases o<;>simp_all [nsh,Ty.pure,Ty.Yez]
  exact⟨h1,Fs,fun i hi=>⟨ih h4 (h2 i hi).1,(h2 i hi).2⟩,h3⟩
theorem Yc.noSh {M M':Ya} {Lf Lf':TV→Value→Prop} (hno:∀ v u,¬ Lf (.op v) u):∀ {tv:TV} {s:Src} {F:Ya},tv.noSh=true→Yc w M Lf tv s F→Yc w M' Lf' tv s F:=by
 intro tv
 induction tv with
 |pr x y ihx ihy=>
  intro s F hs h;simp only[TV.noSh,Bool.and_eq_true] at hs;obtain⟨F1,F2,r1,r2,r3⟩:=h
  exact⟨F1,F2,ihx hs.1 r1,ihy hs.2 r2,r3⟩
 |cl o t x=>intro s F hs h;exact Rep.noSh hs h
 |op v=>intro s F hs h;obtain⟨u,_,h2⟩:=h;exact(hno _ _ h2).elim
 |_=>intro s F hs;cases hs
structure Parts (w:World) (M:Ya) (Lf:TV→Value→Prop) (c c1 c2:TV):Prop where
 rep:∀ {s F},Yc w M Lf c s F→∃ F1 F2,Yc w M Lf c1 s F1∧Yc w M Lf c2 (s.sh c1.size) F2∧Ye F1 F∧Ye F2 F∧Dis F1 F2
 size:c.size=c1.size+c2.size
 lay:c.lay=.pair c1.lay c2.lay
 nav1:∀ s q,nav w c s (.f1::q)=nav w c1 s q
 nav2:∀ s q,nav w c s (.f2::q)=nav w c2 (s.sh c1.size) q
 get1:∀ q,c.get (.f1::q)=c1.get q
 get2:∀ q,c.get (.f2::q)=c2.get q
theorem Parts.gr1 {M:Ya} {Lf:TV→Value→Prop} {c c1 c2:TV} (h:Parts w M Lf c c1 c2) (q:Path):c.gr (.f1::q)=c1.gr q:=by unfold TV.gr;rw[h.get1]
theorem Parts.gr2 {M:Ya} {Lf:TV→Value→Prop} {c c1 c2:TV} (h:Parts w M Lf c c1 c2) (q:Path):c.gr (.f2::q)=c2.gr q:=by unfold TV.gr;rw[h.get2]
theorem Yiv {M:Ya} {Lf:TV→Value→Prop} {c c1 c2:TV} (h1:c.fst=some c1) (h2:c.snd=some c2):Parts w M Lf c c1 c2:=by
 cases c with
 |pr x y=>cases h1;cases h2;exact⟨fun h=>h,rfl,rfl,fun _ _=>rfl,fun _ _=>rfl,fun _=>rfl,fun _=>rfl⟩
 |cl o t z=>cases t<;>cases h1;cases h2;exact⟨fun h=>h,rfl,rfl,fun _ _=>rfl,fun _ _=>rfl,fun _=>rfl,fun _=>rfl⟩
 |_=>cases h1
theorem Yfx {c:TV} (h:isRow c=true):∃ o e,∃ xs:List e.El,c=.cl o (.sl e) xs∧o≠.sh:=by
 cases c with
 |cl o t x=>cases t<;>simp only[isRow] at h<;>first | cases h | (refine⟨o,_,x,rfl,?_⟩;rintro rfl;cases h)
 |_=>cases h
theorem Path.Yk6:∀ {p q:Path},Path.eqf p q=true→p=q
 |[],[],_=>rfl
 |.f1::p,.f1::q,h=>by rw[Path.Yk6 (p:=p) (q:=q) h]
 |.f2::p,.f2::q,h=>by rw[Path.Yk6 (p:=p) (q:=q) h]
 |[],_::_,h=>by cases h
 |.f1::_,[],h=>by cases h
 |.f2::_,[],h=>by cases h
 |.el _::_,[],h=>by cases h
 |.f1::_,.f2::_,h=>by cases h
 |.f1::_,.el _::_,h=>by cases h
 |.f2::_,.f1::_,h=>by cases h
 |.f2::_,.el _::_,h=>by cases h
 |.el _::_,.f1::_,h=>by cases h
 |.el _::_,.f2::_,h=>by cases h
 |.el _::_,.el _::_,h=>by cases h
theorem Yqh {M:Ya} {Lf:TV→Value→Prop}:∀ {c:TV} {s:Src} {F:Ya},c.Yf9=true→Yc w M Lf c s F→Yc w M Lf c s noB:=by
 intro c
 induction c with
 |cl o t x=>
  intro s F h hr;simp only[TV.Yf9] at h
  cases o with
  |sh=>exact Rep.Yg4 hr (fun _ _=>rfl)
  |top=>exact Rep.pure h hr (fun _ _=>rfl)
  |deep=>exact Rep.pure h hr (fun _ _=>rfl)
 |pr x y ihx ihy=>
  intro s F h hr;simp only[TV.Yf9,Bool.and_eq_true] at h;obtain⟨F1,F2,r1,r2,_⟩:=hr
  exact⟨noB,noB,ihx h.1 r1,ihy h.2 r2,fun _ x=>x,fun _ x=>x,fun _ x=>x.elim⟩
 |_=>intro s F h;cases h
theorem Ysr {M:Ya} {Lf Lf':TV→Value→Prop}:∀ {c:TV} {s:Src},c.Yf9=true→Yc w M Lf c s noB→Yc w M Lf' c s noB:=by
 intro c
 induction c with
 |cl o t x=>intro s hno hc;exact hc
 |pr x y ihx ihy=>
  intro s hno hc;simp only[TV.Yf9,Bool.and_eq_true] at hno;obtain⟨F1,F2,r1,r2,r3,r4,r5⟩:=hc
  exact⟨noB,noB,ihx hno.1 (r1.sub r3),ihy hno.2 (r2.sub r4),fun _ x=>x,fun _ x=>x,fun _ x=>x.elim⟩
 |_=>intro s hno;cases hno
section
variable {Lf:TV→Value→Prop}
theorem Ykf {r:Nat} {R:Root} (hR:S.root r=some R) {M:Ya} {cells:List Value}:∀ (v:TV) {p:Path} {c x:TV} {s':Src} {k:Nat} {F:Ya},Ycz r p v c=some x→nav w R.tv (C.L r) p=some s'→R.tv.get p=some c→
  Yc w M Lf c s' F→Yc w M (Yi w M C.L S.root) v (.reg cells k) noB→Yc w M (fun v u=>Lf v u∨Yi w M C.L S.root v u) x (.reg cells k) F∧x.size=v.size∧c.size=v.size∧(∀ u,x≠.op u):=by
 intro v
 induction v with
 |seg r' q=>
  intro p c x s' k F h hn hg hc hv;simp only[Ycz] at h
  split at h
  ·rename_i hh
   simp only[Bool.and_eq_true,Nat.beq_eq] at hh;obtain⟨rfl,hq,hrow⟩:=hh;have:=Path.Yk6 hq;subst this;cases h;obtain⟨o,e,xs,rfl,ho⟩:=Yfx hrow;obtain⟨u,hu,R',s1,o1,e1,xs1,k1,k2,k3,k4,_⟩:=hv;rw[hR] at k1;cases k1;rw[hn] at k2;cases k2
   refine⟨Rep.mv (t:=.sl e) hc (fun i hi=>?_),rfl,rfl,by simp⟩
   have:i=0:=by simp[Ty.size] at hi;exact hi
   subst this;rw[hu,k4]
  ·cases h
 |cl o t y=>
  intro p c x s' k F h hn hg hc hv;simp only[Ycz] at h
  split at h
  ·have hl:c.lay=t.lay:=by assumption
   cases h
   exact⟨Rep.sub hv (fun _ h=>h.elim),rfl,by rw[←TV.lay_size,hl,Ty.lay_size];rfl,by simp⟩
  ·cases h
 |pr a b iha ihb=>
  intro p c x s' k F h hn hg hc hv;simp only[Ycz] at h
  split at h
  ·rename_i c1 c2 hc1 hc2
   split at h
   ·rename_i x1 x2 hx1 hx2
    cases h;have pt:=Yiv (w:=w) (M:=M) (Lf:=Lf) hc1 hc2;obtain⟨F1,F2,r1,r2,b1,b2,d⟩:=pt.rep hc;obtain⟨G1,G2,v1,v2,g1,g2,_⟩:=hv;have n1:=Y2 p [.f1] hn hg;have n2:=Y2 p [.f2] hn hg;rw[pt.nav1,pt.get1,Yf,TV.get_nil] at n1;rw[pt.nav2,pt.get2,Yf,TV.get_nil] at n2;obtain⟨q1,q2,q3,q4⟩:=iha hx1 n1.1 n1.2 r1 (v1.sub g1);obtain⟨q5,q6,q7,q8⟩:=ihb hx2 n2.1 n2.2 r2 (v2.sub g2)
    refine⟨Yem ⟨F1,F2,q1,by rw[q2];exact q5,b1,b2,d⟩,?_,by rw[pt.size,q3,q7];rfl,fun u e=>?_⟩
    ·have:(Yal x1 x2).size=x1.size+x2.size:=by rw[←TV.lay_size,Yei,Lay.size,TV.lay_size,TV.lay_size]
     rw[this,q2,q6];rfl
    ·rcases Yz x1 x2 with e' | ⟨_,_,_,_,_,_,_,_,_,e',_⟩<;>rw[e'] at e<;>cases e
   ·cases h
  ·cases h
 |_=>intro p c x s' k F h;simp[Ycz] at h
end
theorem Yu2 (q t:Path) (i j:Nat):Path.far (q++[.el i]) (q++.el j::t) = !Path.flat t:=by
 induction q with
 |nil=>cases t<;>rfl
 |cons a q ih=>cases a<;>simp[Path.far,ih]
theorem Yu0 (q t:Path) (i j:Nat):Path.pre (q++[.el i]) (q++.el j::t)=true:=by
 induction q with
 |nil=>cases t<;>rfl
 |cons a q ih=>cases a<;>simp[Path.pre,ih]
structure Yfk (w w':World) (c n:TV) (s':Src) (r:Nat) (p:Path) (ks:Ks):Prop where
 l:∀ t b off,¬ (ddK ks).l r (p++t)→nav w c s' t=some (.mem b off)→nav w' n s' t=some (.mem b off)
 s:∀ t s1,¬ (ddK ks).s r (p++t)→nav w c s' t=some s1→∀ o e,∀ xs:List e.El,c.gr t=some (.cl o (.sl e) xs)→
  nav w' n s' t=some s1∧s1.cell w' 0=s1.cell w 0∧∃ o',∃ xs':List e.El,n.gr t=some (.cl o' (.sl e) xs')∧xs'.length=xs.length
theorem Yns {e:Ty} {o o':Ow} {xs ys:List e.El} {s':Src} {r:Nat} {p:Path} (hc:s'.cell w' 0=s'.cell w 0) (hl:ys.length=xs.length):Yfk w w' (.cl o (.sl e) xs) (.cl o' (.sl e) ys) s' r p [(r,some (p++[.el 0]))]:=by
 refine⟨fun t b off hd hn=>?_,fun t s1 hd hn oo ee zs hg=>?_⟩
 ·cases t with
  |nil=>rw[Yf] at hn ⊢;exact hn
  |cons a t=>
   cases a with
   |el i=>
    have hf:Path.flat t=true:=by
     cases hh:Path.flat t with
     |true=>rfl
     |false=>exact absurd ⟨_,List.mem_singleton.2 rfl,rfl,by show Path.far _ _=true;rw[Yu2,hh];rfl⟩ hd
    simp only[nav] at hn ⊢;rw[hl,hc]
    split at hn
    ·rename_i hi
     rw[if_pos hi]
     split at hn
     ·exact Yk4 t hf (by rfl) hn
     ·cases hn
    ·cases hn
   |f1=>simp[nav] at hn
   |f2=>simp[nav] at hn
 ·cases t with
  |nil=>
   rw[Yf] at hn;cases hn;rw[Yg8,TV.get_nil] at hg;cases hg
   exact⟨Yf _ _ _,hc,o',ys,Yeb (TV.get_nil _),hl⟩
  |cons a t=>
   cases a with
   |el i=>exact absurd ⟨_,List.mem_singleton.2 rfl,rfl,Yu0 p t 0 i⟩ hd
   |f1=>simp[nav] at hn
   |f2=>simp[nav] at hn
theorem Yfk.same {c:TV} {s':Src} {M M':Ya} {Lf:TV→Value→Prop} {r:Nat} {p:Path} {ks:Ks} (hr:Yc w M Lf c s' noB) (g:Goes w w' M M' noB) (hc:∀ i,i<c.size→s'.cell w' i=s'.cell w i):Yfk w w' c c s' r p ks:=
 ⟨fun t b off _ hn=>(Ybt t hr g hc hn).1,fun t s1 _ hn o e xs hg=>by
  obtain⟨n1,n2⟩:=Ybt t hr g hc hn
  exact⟨n1,n2 o e xs hg,o,xs,hg,rfl⟩⟩
theorem Yfk.mono {c n:TV} {s':Src} {r:Nat} {p:Path} {ks ks':Ks} (h:Yfk w w' c n s' r p ks) (hs:∀ k∈ks,k∈ks'):Yfk w w' c n s' r p ks':=
 ⟨fun t b off hd=>h.l t b off (fun⟨k,hk,e⟩=>hd ⟨k,hs k hk,e⟩),fun t s1 hd=>h.s t s1 (fun⟨k,hk,e⟩=>hd ⟨k,hs k hk,e⟩)⟩
theorem Yfk.Yal {M:Ya} {Lf:TV→Value→Prop} {c c1 c2 n1 n2:TV} {s':Src} {r:Nat} {p:Path} {ks:Ks} (pt:Parts w M Lf c c1 c2) (hz:n1.size=c1.size) (h1:Yfk w w' c1 n1 s' r (p++[.f1]) ks) (h2:Yfk w w' c2 n2 (s'.sh c1.size) r (p++[.f2]) ks)
  (hlay:(Yal n1 n2).lay=c.lay) (hcell:True):Yfk w w' c (Yal n1 n2) s' r p ks:=by
 have hnil:∀ o e (xs:List e.El),c.row≠.cl o (.sl e) xs:=by
  intro o e xs e';have:=pt.lay
  cases c with
  |rw o1 e1 xs1 i1 v1=>simp[TV.lay] at this
  |cl o1 t1 x1=>rw[show TV.cl o1 t1 x1=_ from e'] at this;simp[TV.lay,Ty.lay] at this
  |_=>cases e'
 have hel:∀ i t s,nav w c s (.el i::t)=none:=by
  intro i t s;have hl:=pt.lay
  cases c with
  |pr x y=>rfl
  |cl o t' x=>cases t'<;>first | rfl | (simp[TV.lay,Ty.lay] at hl)
  |rw o e xs i v=>simp[TV.lay] at hl
  |_=>rfl
 refine⟨fun t b off hd hn=>?_,fun t s1 hd hn o e xs hg=>?_⟩
 ·cases t with
  |nil=>rw[Yf] at hn ⊢;exact hn
  |cons a t=>
   cases a with
   |f1=>
    rw[Ydk];rw[pt.nav1] at hn
    exact h1.l t b off (by rw[List.append_assoc];exact hd) hn
   |f2=>
    rw[Ydj,hz];rw[pt.nav2] at hn
    exact h2.l t b off (by rw[List.append_assoc];exact hd) hn
   |el i=>rw[hel] at hn;cases hn
 ·cases t with
  |nil=>rw[Ycq] at hg;exact absurd (Option.some.inj hg) (hnil o e xs)
  |cons a t=>
   cases a with
   |f1=>
    rw[Ydk];rw[pt.nav1] at hn;rw[pt.gr1] at hg
    obtain⟨k1,k2,o',xs',k3,k4⟩:=h1.s t s1 (by rw[List.append_assoc];exact hd) hn o e xs hg
    obtain⟨o'',k5⟩:=Yi7 (b:=n2) k3
    exact⟨k1,k2,o'',xs',k5,k4⟩
   |f2=>
    rw[Ydj,hz];rw[pt.nav2] at hn;rw[pt.gr2] at hg
    obtain⟨k1,k2,o',xs',k3,k4⟩:=h2.s t s1 (by rw[List.append_assoc];exact hd) hn o e xs hg
    obtain⟨o'',k5⟩:=Yij (a:=n1) k3
    exact⟨k1,k2,o'',xs',k5,k4⟩
   |el i=>rw[hel] at hn;cases hn
theorem Yk0 {e:Ty} {o:Ow} {xs:List e.El} {s':Src} {r:Nat} {p:Path}:Yfk w w' (.cl o (.sl e) xs) (.dead 1) s' r p [(r,some p)]:=by
 refine⟨fun t b off hd hn=>?_,fun t s1 hd=>absurd ⟨_,List.mem_singleton.2 rfl,rfl,Path.Yh0 p t⟩ hd⟩
 cases t with
 |nil=>rw[Yf] at hn ⊢;exact hn
 |cons a t=>
  cases a with
  |el i=>exact absurd ⟨_,List.mem_singleton.2 rfl,rfl,by show Path.far _ _=true;rw[Path.Yh3];rfl⟩ hd
  |f1=>simp[nav] at hn
  |f2=>simp[nav] at hn
theorem Yp9 {r:Nat} {R:Root} (hR:S.root r=some R) {M M'':Ya} {Lf Lf'':TV→Value→Prop} (g:Goes w w' M M'' noB) {cells:List Value}:∀ (v:TV) {p:Path} {c x n o:TV} {s':Src} {k:Nat} {F Fo:Ya},
  Ycz r p v c=some x→Ydc v c o=some n→nav w R.tv (C.L r) p=some s'→R.tv.get p=some c→
  Yc w M Lf c s' F→Yc w M (Yi w M C.L S.root) v (.reg cells k) noB→Yc w' M'' Lf'' o (.reg cells k) Fo→(∀ i,i<c.size→s'.cell w' i=s'.cell w i)→
  Yc w' M'' Lf'' n s' Fo∧n.size=c.size∧o.size=v.size∧c.size=v.size∧n.lay=c.lay∧Yfk w w' c n s' r p (Ygz v++Ye5 v o):=by
 intro v
 induction v with
 |seg r' q=>
  intro p c x n o s' k F Fo h hb hn hg hc hv ho hs;simp only[Ycz] at h
  split at h
  ·rename_i hh
   simp only[Bool.and_eq_true,Nat.beq_eq] at hh;obtain⟨rfl,hq,hrow⟩:=hh;have:=Path.Yk6 hq;subst this;cases h;simp only[Ydc] at hb
   split at hb
   ·rename_i o1 e1 xs o2 e2 ys
    split at hb
    ·have he:e2=e1:=by assumption
     subst he;cases hb;obtain⟨u,hu,R',s1,o1',e1',xs1,k1,k2,k3,k4,_⟩:=hv;rw[hR] at k1;cases k1;rw[hn] at k2;cases k2
     have hcell:s'.cell w' 0=some u:=by rw[hs 0 (by simp[TV.size,Ty.size]),k4]
     have hlen:ys.length=xs.length:=by
      obtain⟨A,c,q1,_⟩:=(hc:Rep _ _ (.sl _) _ _ _ _);obtain⟨A',c',q1',_⟩:=(ho:Rep _ _ (.sl _) _ _ _ _);rw[k4] at q1;have hu':(Src.reg cells k).cell w' 0=some u:=hu;rw[hu'] at q1';rw[q1] at q1';have:=Option.some.inj q1'
      injection this with _ h _
      exact h.symm
     refine⟨Rep.mv (t:=.sl _) ho (fun i hi=>?_),rfl,rfl,rfl,rfl,?_⟩
     ·have:i=0:=by simp[Ty.size] at hi;exact hi
      subst this;rw[hcell];exact hu.symm
     ·exact Yns (by rw[hcell,k4]) hlen
    ·cases hb
   ·cases hb
    exact⟨trivial,rfl,rfl,rfl,rfl,Yk0.mono (fun k hk=>List.mem_append_right _ hk)⟩
   ·cases hb
  ·cases h
 |cl oo t y=>
  intro p c x n o s' k F Fo h hb hn hg hc hv ho hs;simp only[Ycz] at h
  split at h
  ·have hno:c.Yf9=true:=by assumption
   have hl:c.lay=t.lay:=by assumption
   simp only[Ydc] at hb
   split at hb
   ·have hol:o.lay=c.lay:=by assumption
    cases hb;have hc0:=Yqh hno hc
    have hcs:c.size=t.size:=by rw[←TV.lay_size,hl,Ty.lay_size]
    have hlf:Yc w M Lf'' c s' noB:=Ysr hno hc0
    refine⟨(hlf.go g hs (fun _ _ h=>h)).sub (fun _ h=>h.elim),rfl,by rw[←TV.lay_size,hol,TV.lay_size,hcs];rfl,hcs,rfl,Yfk.same hc0 g hs⟩
   ·cases hb
  ·cases h
 |pr a b iha ihb=>
  intro p c x n o s' k F Fo h hb hn hg hc hv ho hs;simp only[Ycz] at h
  split at h
  ·rename_i c1 c2 hc1 hc2
   split at h
   ·rename_i x1 x2 hx1 hx2
    simp only[Ydc,hc1,hc2] at hb
    split at hb
    ·rename_i c1' c2' o1 o2 e1 e2 ho1 ho2
     cases e1;cases e2
     split at hb
     ·rename_i n1 n2 hn1 hn2
      cases hb;have pt:=Yiv (w:=w) (M:=M) (Lf:=Lf) hc1 hc2;have po:=Yiv (w:=w') (M:=M'') (Lf:=Lf'') ho1 ho2;obtain⟨F1,F2,r1,r2,b1,b2,d⟩:=pt.rep hc;obtain⟨G1,G2,v1,v2,g1,g2,_⟩:=hv;obtain⟨H1,H2,s1,s2,t1,t2,td⟩:=po.rep ho;have na1:=Y2 p [.f1] hn hg;have na2:=Y2 p [.f2] hn hg;rw[pt.nav1,pt.get1,Yf,TV.get_nil] at na1;rw[pt.nav2,pt.get2,Yf,TV.get_nil] at na2
      obtain⟨q1,q2,q3,q4,q5,q6⟩:=iha hx1 hn1 na1.1 na1.2 r1 (v1.sub g1) s1 (fun i hi=>hs i (by rw[pt.size];omega))
      obtain⟨q7,q8,q9,q10,q11,q12⟩:=ihb hx2 hn2 na2.1 na2.2 r2 (v2.sub g2) (by have:=s2;rw[q3] at this;exact this) (fun i hi=>by rw[Src.Yj,Src.Yj];exact hs _ (by rw[pt.size];omega))
      have hlay:(Yal n1 n2).lay=c.lay:=by rw[Yei,pt.lay,q5,q11]
      refine⟨Yem ⟨H1,H2,q1,by rw[q2];exact q7,t1,t2,td⟩,TV.Yak hlay,by rw[po.size,q3,q9];rfl,by rw[pt.size,q4,q10];rfl,hlay,?_⟩
      have hdd:Ye5 (.pr a b) o=Ye5 a o1++Ye5 b o2:=by simp only[Ye5,ho1,ho2]
      rw[hdd];refine Yfk.Yal pt q2 (q6.mono (fun k hk=>?_)) (q12.mono (fun k hk=>?_)) hlay trivial
      ·rcases List.mem_append.1 hk with h | h
       ·exact List.mem_append_left _ (List.mem_append_left _ h)
       ·exact List.mem_append_right _ (List.mem_append_left _ h)
      ·rcases List.mem_append.1 hk with h | h
       ·exact List.mem_append_left _ (List.mem_append_right _ h)
       ·exact List.mem_append_right _ (List.mem_append_right _ h)
     ·cases hb
    ·cases hb
   ·cases h
  ·cases h
 |_=>intro p c x n o s' k F Fo h;simp[Ycz] at h
end Mf
namespace Mf
open Go
set_option linter.unusedVariables false
set_option linter.unusedSimpArgs false
variable {Z:W0} {S:St} {C:Cx} {w w':World} {a:Act}
variable {P:Program} {tb:Tb} {g:Gd} {o:Oper} {hn:Hint}
def Ya4 (ρ:Yb):Nat→List Md→List TV→Prop
 |_,[],[]=>True
 |i,.mu::ms,o::os=>(∃ R,ρ i=some R∧o=R.out)∧Ya4 ρ (i+1) ms os
 |i,.sh::ms,os=>Ya4 ρ (i+1) ms os
 |i,.mv::ms,os=>Ya4 ρ (i+1) ms os
 |_,_,_=>False
def Ygu (w:World) (M:Ya) (L:Nat→Src) (ρ:Yb):TV→Value→Ya→Prop
 |.op tv,u,F=>∃ b off F',u=.pointer (some ⟨b,off,none⟩)∧F b∧¬ F' b∧Ye F' F∧Room w b off tv.size∧Yc w M (Yi w M L ρ) tv (.mem b off) F'
 |c,u,F=>Yc w M (Yi w M L ρ) c (.reg u.cells.toList 0) F∧u.cells.size=c.size∧(c.isAgg=true↔∃ cs,u=.agg cs)
def Ydq (w:World) (M:Ya) (L:Nat→Src) (ρ:Yb):List TV→List Value→Ya→Prop
 |[],[],_=>True
 |c::cs,u::us,F=>∃ F1 F2,Ygu w M L ρ c u F1∧Ydq w M L ρ cs us F2∧Ye F1 F∧Ye F2 F∧Dis F1 F2
 |_,_,_=>False
def Yko (w:World) (M:Ya) (L:Nat→Src) (ρ:Yb):List TV→Value→Ya→Prop
 |[],v,_=>v=.tuple #[]
 |[c],v,F=>Ygu w M L ρ c v F
 |cs,v,F=>∃ vs:Array Value,v=.tuple vs∧Ydq w M L ρ cs vs.toList F
def Yg9 (Z:W0) (ms:List Md) (out:Out) (v:Value) (w':World):Prop:=∃ C G ρ Fr,Str Z (Yi w' (Mt Z C ρ G) C.L ρ) C G ρ w'∧Ya4 ρ 0 ms out.outs∧Ye Fr G∧
 Yko w' (Mt Z C ρ G) C.L ρ out.res v Fr∧out.res.all TV.shut=true∧out.outs.all TV.Ycu=true
def Yaw (P:Program) (f:FuncId):Prop:=∃ fn,P.funcs[f]? = some fn∧(fn.name == "runtime.NumGoroutine")=false∧fn.body.isNone=false
structure Yb5 (P:Program) (f:FuncId) (ms:List Md) (cs:List TV) (out:Out):Prop where
 there:Yaw P f
 calls:∀ (Z:W0) (C:Cx) (us:Array Value),us.size=cs.length→Z.nt=us.size→(∀ i,us.size≤i→Z.P i=none)→(∀ i,i<us.size→Z.P i=some (C.L i))→
  Inv Z (Yh cs) C ⟨us,[]⟩ Z.w→Calls P f us Z.w fun e w'=>∃ v,e=.returned v∧Yg9 Z ms out v w'
theorem Yew:∀ (cs:List TV) (j i:Nat),lk i (Ydh j cs)=if j≤i then(cs[i-j]?).map (fun c=>match c with | .op _=>.loc i [] | v=>v.mir i []) else none:=by
 intro cs
 induction cs with
 |nil=>intro j i;split<;>simp[Ydh,lk]
 |cons c cs ih=>
  intro j i
  have step:lk i (Ydh j (c::cs))=if i=j then some (match c with | .op _=>.loc i [] | v=>v.mir i []) else lk i (Ydh (j+1) cs):=by
   by_cases e:i=j
   ·subst e;rw[if_pos rfl];cases c<;>exact Yl _ _ _
   ·rw[if_neg e];cases c<;>exact Yu e _ _
  rw[step,ih]
  by_cases e:i=j
  ·subst e;rw[if_pos rfl,if_pos (Nat.le_refl _),Nat.sub_self];rfl
  ·rw[if_neg e]
   by_cases h:j≤i
   ·rw[if_pos h,if_pos (by omega),show i-j=(i-(j+1))+1 by omega,List.getElem?_cons_succ]
   ·rw[if_neg h,if_neg (by omega)]
theorem Ykh:∀ (cs:List TV) (j i:Nat),lk i (Yd3 j cs)=if j≤i then((cs[i-j]?).bind Y8).map some else none:=by
 intro cs
 induction cs with
 |nil=>intro j i;split<;>simp[Yd3,lk]
 |cons c cs ih=>
  intro j i;simp only[Yd3]
  by_cases e:i=j
  ·subst e
   rw[if_pos (Nat.le_refl _),Nat.sub_self]
   cases hc:Y8 c with
   |some rt=>simp only;rw[Yl];simp[hc]
   |none=>simp only;rw[ih,if_neg (by omega)];simp[hc]
  ·have:lk i (match Y8 c with | some rt=>(j,some rt)::Yd3 (j+1) cs | none=>Yd3 (j+1) cs)=lk i (Yd3 (j+1) cs):=by
    cases Y8 c with
    |some rt=>exact Yu e _ _
    |none=>rfl
   refine Eq.trans this ?_;rw[ih]
   by_cases h:j≤i
   ·rw[if_pos h,if_pos (by omega),show i-j=(i-(j+1))+1 by omega,List.getElem?_cons_succ]
   ·rw[if_neg h,if_neg (by omega)]
theorem Yaa (cs:List TV) (r:Nat):(Yh cs).root r=(cs[r]?).bind Y8:=by
 unfold St.root Yh;simp only[Ykh,Nat.zero_le,if_true,Nat.sub_zero]
 cases (cs[r]?).bind Y8<;>rfl
theorem Yj2 (cs:List TV) (i:Nat):lk i (Yh cs).tm=(cs[i]?).map (fun c=>match c with | .op _=>.loc i [] | v=>v.mir i []):=by
 unfold Yh;simp only[Yew,Nat.zero_le,if_true,Nat.sub_zero]
theorem Yab {c:TV} {R:Root} (h:Y8 c=some R) (hc:∀ v,c≠.op v):R=⟨.reg,c⟩:=by
 cases c with
 |cl o t x=>simp only[Y8] at h;split at h<;>first | (cases h;rfl) | cases h
 |op v=>exact absurd rfl (hc v)
 |pr a b=>cases h;rfl
 |_=>cases h
theorem Yd0 {M:Ya} {L:Nat→Src} {ρ:Yb} {c:TV} {u:Value} (h:Y8 c=none) (hv:VOk w M L ρ c u) (r:Nat):VOk w M L ρ (c.mir r []) u:=by
 cases c with
 |cl o t x=>
  have hv:=(hv:Yd _ _ _ _ _ _)
  have hps:t.pure=true∨o=.sh:=by
   simp only[Y8] at h
   split at h
   ·exact .inl (by assumption)
   ·exact .inr rfl
   ·cases h
  have hsh:VOk w M L ρ (.cl .sh t x) u:=by
   have h1:Yd w M L ρ (.cl .sh t x) u:=⟨by
    rcases hps with hp | rfl
    ·exact Rep.pure hp hv.1 (fun _ _=>rfl)
    ·exact hv.1,hv.2.1,hv.2.2⟩
   exact h1
  have hmir:(TV.cl o t x).mir r []=.cl .sh t x:=by
   simp only[TV.mir];rcases hps with hp | rfl
   ·cases t with
    |pair a b=>simp only[Yan,hp]
    |sl e=>simp[Ty.pure] at hp
    |arr n e=>simp only[Ty.pure] at hp;simp only[Yan,hp]
    |_=>rfl
   ·cases t with
    |pair a b=>simp only[Yan];split<;>rfl
    |sl e=>rfl
    |arr n e=>simp only[Yan];split<;>rfl
    |_=>rfl
  rw[hmir];exact hsh
 |pr a b=>cases h
 |op v=>cases h
 |tup l=>exact hv
 |gd t b v=>exact hv.elim
 |rw o e xs i v=>
  have hv:Yd w M L ρ (.rw o e xs i v) u:=hv
  obtain⟨⟨_,_,_,b,_,_,_,_,Fs,h6,_⟩,_⟩:=hv;exact h6.elim
 |kb b=>exact hv.elim
 |dead n=>exact hv.elim
 |_=>exact hv
structure Yuj (w:World) (Mz X:Ya) (Kz:Nat→Nat→Prop) (cs:List TV) (us:Array Value) (k:Nat) (sk:Src) (Fo:Ya):Prop where
 own:∀ b,Fo b→Mz b∧b<w.heap.size∧(∀ i,¬ Kz b i)∧¬ X b
 op:∀ tv,cs[k]? = some (.op tv)→∃ b off,sk=.mem b off∧us.getD k undef=.pointer (some ⟨b,off,none⟩)∧¬ Fo b∧b<w.heap.size∧Room w b off tv.size∧Mz b∧(∀ i,i<tv.size→¬ Kz b (off+i))∧¬ X b∧
  ∀ M' L ρ,Ye M' (fun b=>Mz b∨X b)→Yc w M' (Yi w M' L ρ) tv sk Fo
 reg:∀ c,cs[k]? = some c→(∀ tv,c≠.op tv)→sk=.reg (us.getD k undef).cells.toList 0∧(us.getD k undef).cells.size=c.size∧(c.isAgg=true↔∃ cs,us.getD k undef=.agg cs)∧c.plain=true∧
  ∀ M' L ρ,Ye M' (fun b=>Mz b∨X b)→Yc w M' (Yi w M' L ρ) c sk Fo
theorem Yip {w:World} {Mz X:Ya} {Kz:Nat→Nat→Prop} {cs:List TV} {us:Array Value} {k:Nat} {sk:Src} {Fo:Ya} (hlen:us.size=cs.length)
  (plain:∀ i c,i≠k→cs[i]? = some c→(∀ v,c≠.op v)∧∀ M' L ρ,Ye M' (fun b=>Mz b∨X b)→VOk w M' L ρ c (us.getD i undef))
  (Yej:Yuj w Mz X Kz cs us k sk Fo) (hX:∀ b,X b→b<w.heap.size) (hK:∀ b i,Kz b i→b<w.heap.size) :
  Inv ⟨w,Mz,Kz,X,fun i=>if i<us.size then some (if i=k then sk else .reg (us.getD i undef).cells.toList 0) else none,us.size⟩ (Yh cs)
   ⟨fun i=>if i=k then sk else .reg (us.getD i undef).cells.toList 0,fun i=>if i=k then Fo else noB⟩ ⟨us,[]⟩ w:=by
 generalize hZ:(⟨w,Mz,Kz,X,fun i=>if i<us.size then some (if i=k then sk else .reg (us.getD i undef).cells.toList 0) else none,us.size⟩:W0)=Z
 generalize hC:(⟨fun i=>if i=k then sk else .reg (us.getD i undef).cells.toList 0,fun i=>if i=k then Fo else noB⟩:Cx)=C
 have Lk:C.L k=sk:=by rw[←hC];simp
 have Lo:∀ i,i≠k→C.L i=.reg (us.getD i undef).cells.toList 0:=fun i h=>by rw[←hC];simp[h]
 have Fk:C.F k=Fo:=by rw[←hC];simp
 have FoE:∀ i,i≠k→C.F i=noB:=fun i h=>by rw[←hC];simp[h]
 have root:∀ r R,(Yh cs).root r=some R→∃ c,cs[r]? = some c∧Y8 c=some R:=by
  intro r R h;rw[Yaa] at h
  cases hc:cs[r]? with
  |none=>rw[hc] at h;cases h
  |some c=>rw[hc] at h;exact⟨c,rfl,h⟩
 have rootO:∀ r R,r≠k→(Yh cs).root r=some R→∃ c,cs[r]? = some c∧R=⟨.reg,c⟩:=by
  intro r R h hR;obtain⟨c,h1,h2⟩:=root r R hR;exact⟨c,h1,Yab h2 (plain r c h h1).1⟩
 have totO:∀ r R,r≠k→(Yh cs).root r=some R→∀ b,¬ Tot C r R b:=by
  intro r R h hR b hb;obtain⟨c,h1,rfl⟩:=rootO r R h hR;rcases hb with hb | ⟨hk,_⟩
  ·rw[FoE r h] at hb;exact hb
  ·cases hk
 have totK:∀ R,(Yh cs).root k=some R→∀ b,Tot C k R b→Mz b∧b<w.heap.size:=by
  intro R hR b hb;rcases hb with hb | ⟨hk,off,e⟩
  ·rw[Fk] at hb;exact⟨(Yej.own b hb).1,(Yej.own b hb).2.1⟩
  ·obtain⟨c,h1,h2⟩:=root k R hR
   cases c with
   |op tv=>
    obtain⟨b',off',e1,e2,e3,e4,e5,e6,_⟩:=Yej.op tv h1
    rw[Lk,e1] at e;cases e;exact⟨e6,e4⟩
   |cl o t x=>have:=Yab h2 (fun v h=>by cases h);rw[this] at hk;cases hk
   |pr x y=>have:=Yab h2 (fun v h=>by cases h);rw[this] at hk;cases hk
   |_=>cases h2
 have hM:Ye (Mt Z C (Yh cs).root noB) (fun b=>Mz b∨X b):=by
  rintro b (⟨r,R,h1,h2⟩ | h | h)
  ·by_cases e:r=k
   ·subst e;exact .inl (totK R h1 b h2).1
   ·exact absurd h2 (totO r R e h1 b)
  ·exact h.elim
  ·rw[←hZ] at h;exact .inr h
 have hZw:Z.w=w:=by rw[←hZ]
 have hZM:Z.M=Mz:=by rw[←hZ]
 have hZX:Z.X=X:=by rw[←hZ]
 have hZK:Z.K=Kz:=by rw[←hZ]
 have bndF:∀ r R b,(Yh cs).root r=some R→C.F r b→b<w.heap.size∧(∀ i,¬ Z.K b i)∧¬ Z.X b∧(Z.M b∨Z.w.heap.size≤b):=by
  intro r R b hR hb
  by_cases e:r=k
  ·subst e;rw[Fk] at hb
   obtain⟨h1,h2,h3,h4⟩:=Yej.own b hb;rw[hZK,hZX,hZM];exact⟨h2,h3,h4,.inl h1⟩
  ·rw[FoE r e] at hb;exact hb.elim
 refine⟨⟨?_,?_,?_,bndF,fun _ h=>h.elim,?_,fun _ _ _ _ _ h=>h,?_,by rw[hZw];exact Nat.le_refl _,fun b _ _=>by rw[hZw];exact rfl,fun b i _=>by rw[hZw],fun b i j _=>by rw[hZw],?_,?_,by rw[hZw],by rw[hZw],by rw[hZw]⟩,?_,rfl,by rw[←hZ]⟩
 ·intro r R hR
  by_cases e:r=k
  ·subst e
   obtain⟨c,h1,h2⟩:=root r R hR;rw[Lk,Fk]
   cases c with
   |op tv=>cases h2;exact(Yej.op tv h1).choose_spec.choose_spec.2.2.2.2.2.2.2.2 _ _ _ hM
   |cl o t x=>have:=Yab h2 (fun v h=>by cases h);rw[this];exact(Yej.reg _ h1 (fun v h=>by cases h)).2.2.2.2 _ _ _ hM
   |pr x y=>have:=Yab h2 (fun v h=>by cases h);rw[this];exact(Yej.reg _ h1 (fun v h=>by cases h)).2.2.2.2 _ _ _ hM
   |_=>cases h2
  ·obtain⟨c,h1,rfl⟩:=rootO r R e hR
   rw[Lo r e,FoE r e];have hv:=(plain r c e h1).2 _ C.L (Yh cs).root hM
   exact(hv.rep (fun l h=>by subst h;obtain⟨c',h1',h2'⟩:=root r _ hR;rw[h1] at h1';cases h1';cases h2')).1
 ·intro r R hR hk
  by_cases e:r=k
  ·subst e
   obtain⟨c,h1,h2⟩:=root r R hR;rw[Lk]
   cases c with
   |op tv=>cases h2;cases hk
   |cl o t x=>exact⟨_,(Yej.reg _ h1 (fun v h=>by cases h)).1⟩
   |pr x y=>exact⟨_,(Yej.reg _ h1 (fun v h=>by cases h)).1⟩
   |_=>cases h2
  ·exact⟨_,Lo r e⟩
 ·intro r R hR hk
  obtain⟨c,h1,h2⟩:=root r R hR
  by_cases e:r=k
  ·subst e
   cases c with
   |op tv=>
    cases h2;obtain⟨b,off,e1,e2,e3,e4,e5,e6,e7,e8,e9⟩:=Yej.op tv h1
    exact⟨b,off,by rw[Lk];exact e1,by rw[Fk];exact e3,e4,e5,by rw[hZK];exact e7,by rw[hZX];exact e8,by rw[hZM];exact .inl e6⟩
   |cl o t x=>have:=Yab h2 (fun v h=>by cases h);rw[this] at hk;cases hk
   |pr x y=>have:=Yab h2 (fun v h=>by cases h);rw[this] at hk;cases hk
   |_=>cases h2
  ·have:=Yab h2 (plain r c e h1).1;rw[this] at hk;cases hk
 ·intro r r' R R' hne h h' b hb hb'
  by_cases e:r=k
  ·subst e;exact totO r' R' (fun e=>hne e.symm) h' b hb'
  ·exact totO r R e h b hb
 ·intro r R hR
  refine⟨fun s hp=>?_,fun _ hp=>?_⟩
  ·rw[←hZ] at hp
   by_cases hr:r<us.size
   ·have h1:some (if r=k then sk else Src.reg (us.getD r undef).cells.toList 0)=some s:=by rw[←hp];exact(if_pos hr).symm
    rw[←Option.some.inj h1,←hC]
   ·have h1:none=some s:=by rw[←hp];exact(if_neg hr).symm
    cases h1
  ·exfalso
   obtain⟨c,hc,_⟩:=root r R hR
   have hr:r<us.size:=by rw[hlen];exact(List.getElem?_eq_some_iff.1 hc).1
   rw[←hZ] at hp
   have h1:some (if r=k then sk else Src.reg (us.getD r undef).cells.toList 0)=none:=by rw[←hp];exact(if_pos hr).symm
   cases h1
 ·rw[hZX,hZw];exact hX
 ·rw[hZK,hZw];exact hK
 ·intro i v hl
  rw[Yj2] at hl
  cases hc:cs[i]? with
  |none=>rw[hc] at hl;cases hl
  |some c=>
   rw[hc] at hl;simp only[Option.map_some,Option.some.injEq] at hl;show Ygj _ _ _ _ _ v (us.getD i undef)
   by_cases ho:∃ tv,c=.op tv
   ·obtain⟨tv,rfl⟩:=ho
    simp only at hl;subst hl
    have e:i=k:=by
     by_cases e:i=k
     ·exact e
     ·exact absurd rfl ((plain i _ e hc).1 tv)
    subst e;obtain⟨b,off,e1,e2,_⟩:=Yej.op tv hc;rw[e2]
    refine Yd.Yah (v:=.loc i []) ⟨⟨.mem,tv⟩,b,off,by rw[Yaa,hc];rfl,by rw[Yf,Lk,e1],rfl⟩
   ·have hne:∀ tv,c≠.op tv:=fun tv h=>ho ⟨tv,h⟩
    have hl:c.mir i []=v:=by cases c<;>first | exact hl | exact absurd rfl (hne _)
    subst hl
    have hval:Yc w (Mt Z C (Yh cs).root noB) (Yi w (Mt Z C (Yh cs).root noB) C.L (Yh cs).root) c (.reg (us.getD i undef).cells.toList 0) (C.F i)∧(us.getD i undef).cells.size=c.size∧(c.isAgg=true↔∃ cs,us.getD i undef=.agg cs)∧c.plain=true∨
      VOk w (Mt Z C (Yh cs).root noB) C.L (Yh cs).root c (us.getD i undef):=by
     by_cases e:i=k
     ·subst e
      obtain⟨k1,k2,k3,k4,k5⟩:=Yej.reg c hc hne;rw[Fk,←k1];exact .inl ⟨k5 _ _ _ hM,k2,k3,k4⟩
     ·exact .inr ((plain i c e hc).2 _ _ _ hM)
    have fromRep:∀ F,Yc w (Mt Z C (Yh cs).root noB) (Yi w (Mt Z C (Yh cs).root noB) C.L (Yh cs).root) c (.reg (us.getD i undef).cells.toList 0) F→(us.getD i undef).cells.size=c.size→(c.isAgg=true↔∃ cs,us.getD i undef=.agg cs)→C.L i=.reg (us.getD i undef).cells.toList 0→
      ∀ R,Y8 c=some R→Ygj w (Mt Z C (Yh cs).root noB) C.L (Yh cs).root ⟨us,[]⟩ (c.mir i []) (us.getD i undef):=by
     intro F h1 h2 h3 hL R hR;have hRR:=Yab hR hne
     have hroot:(Yh cs).root i=some R:=by rw[Yaa,hc];exact hR
     have hrep:=Yhz hroot c [] (s':=.reg (us.getD i undef).cells.toList 0) h1 (by rw[hRR,Yf,hL]) (by rw[hRR,TV.get_nil]) (fun _ _=>rfl)
     rcases Yfz h1 i [] with ⟨n,e⟩ | hp
     ·rw[e];trivial
     ·rcases Yh4 i c [] with e | ⟨n,e⟩
      ·exact(VOk.Yhd hrep (by rw[Yek];exact h2) (by rw[e];exact h3) hp).tm _
      ·rw[e];trivial
    have hLi:C.L i=.reg (us.getD i undef).cells.toList 0:=by
     by_cases e:i=k
     ·subst e;rw[Lk];exact(Yej.reg c hc hne).1
     ·exact Lo i e
    cases hR:Y8 c with
    |some R=>
     rcases hval with ⟨h1,h2,h3,_⟩ | h
     ·exact fromRep _ h1 h2 h3 hLi R hR
     ·have hnt:∀ l,c≠.tup l:=by rintro l rfl;cases hR
      exact fromRep _ (h.rep hnt).1 (h.rep hnt).2 (h.val hnt).2.2 hLi R hR
    |none=>
     rcases hval with ⟨h1,h2,h3,h4⟩ | h
     ·
      have hnt:∀ l,c≠.tup l:=by rintro l rfl;cases h4
      have hv:VOk w (Mt Z C (Yh cs).root noB) C.L (Yh cs).root c (us.getD i undef):=by
       refine VOk.Yhd ?_ h2 h3 h4
       cases c with
       |cl o t x=>
        simp only[Y8] at hR
        split at hR
        ·rename_i hp;exact Rep.pure hp h1 (fun _ _=>rfl)
        ·exact Rep.Yg4 h1 (fun _ _=>rfl)
        ·cases hR
       |pr x y=>cases hR
       |dead n=>cases h4
       |rw o e xs i v=>cases h4
       |_=>exact h1
      exact(Yd0 hR hv i).tm _
     ·exact(Yd0 hR h i).tm _
end Mf
namespace Mf
open Go
set_option linter.unusedVariables false
set_option linter.unusedSimpArgs false
variable {Z:W0} {S:St} {C:Cx} {w w':World} {a:Act}
variable {P:Program} {tb:Tb} {g:Gd} {o:Oper} {hn:Hint}
def Bk.roots (B:Bk) (S:St):Yb:=fun r=>match lk r B.1 with | some x=>x | none=>S.root r
def Q0 (Z:W0) (S:St) (w':World) (B:Bk) (G:Ya) (C1:Cx):TV→Value→Prop:=fun v u=>v.shut=true∧Yi w' (Mt Z C1 (B.roots S) G) C1.L (B.roots S) v u
structure Yi6 (Z:W0) (S:St) (C:Cx) (w w':World) (B:Bk) (G:Ya) (C1:Cx) (D:Dd):Prop where
 str:Str Z (fun v u=>Yi w (Mt Z C S.root noB) C.L S.root v u∨Q0 Z S w' B G C1 v u) C1 G (B.roots S) w'
 gs:Gs w w' (Mt Z C S.root noB) (Mt Z C1 (B.roots S) G) S.root (B.roots S) C.L C1.L D
 cl:∀ r q,D.l r q→(ddK B.2).l r q
 cs:∀ r q,D.s r q→(ddK B.2).s r q
variable {B:Bk} {G:Ya} {C1:Cx} {D:Dd}
theorem Yi6.plain (I:Inv Z S C a w) (T:Yi6 Z S C w w' B G C1 D) {dst:Option Nat} {v:Value} {p:Patch} {tv:Option TV} (hp:p=⟨match dst,tv with | some d,some tv=>[(d,tv)] | _,_=>[],B.1,B.2⟩) (hgd:Yw S dst)
  (hd:∀ d,dst=some d→d<Z.nt∧∃ x,tv=some x)
  (hv:∀ x,tv=some x→∀ M',Ye M' (Mt Z C1 (B.roots S) G)→Ygj w' M' C1.L (B.roots S) (a.put dst v) x v) :
  ∃ C',Inv Z (S.ap p) C' (a.put dst v) w':=by
 have hρ:p.roots S=B.roots S:=by rw[hp];rfl
 obtain⟨W,m⟩:=T.str.weak (ρ':=B.roots S) (G':=noB) (fun _ _ h=>h) (fun _ h=>h.elim);have Wg:=T.str.Ycg m Dd.none (fun _ _ _ h _=>h) (fun _ _ _ h _=>h)
 refine⟨C1,Inv.ap (Q:=Q0 Z S w' B G C1) (dst:=dst) I (by rw[hρ];exact W) (by rw[hρ];exact T.gs.trans Wg) ?_ ?_ ?_ hgd ?_ ?_⟩
 ·rintro x u ⟨h1,h2⟩;rw[hρ];exact Yi.shut m h1 h2
 ·rintro r q R hR (h | h)
  ·rw[hp];exact T.cl r q h
  ·exact h.elim
 ·rintro r q R hR (h | h)
  ·rw[hp];exact T.cs r q h
  ·exact h.elim
 ·intro d e
  obtain⟨h1,x,h2⟩:=hd d e
  exact⟨h1,x,by rw[hp,e,h2];exact Yl _ _ _⟩
 ·intro i x hl
  rw[hp] at hl
  cases hdst:dst with
  |none=>rw[hdst] at hl;cases hl
  |some d=>
   rw[hdst] at hl
   cases htv:tv with
   |none=>rw[htv] at hl;cases hl
   |some y=>
    rw[htv] at hl
    by_cases e:i=d
    ·subst e
     have:y=x:=by have:=Yl i y ([]:List (Nat×TV));rw[this] at hl;exact Option.some.inj hl
     subst this;refine⟨rfl,?_⟩;rw[hρ,←hdst];exact hv y htv _ m
    ·have:lk i [(d,y)]=none:=by rw[Yu e];rfl
     rw[this] at hl;cases hl
theorem Yi6.new (I:Inv Z S C a w) (T:Yi6 Z S C w w' B G C1 D) {np d:Nat} {tv:TV} {rt:Root} {v:Value} {p:Patch} {s:Src} {Fn:Ya} {ks:Ks}
  (hp:p=⟨[(d,tv)],(d,some rt)::B.1,ks⟩) (hk1:∀ k∈B.2,k∈ks) (hk2:∀ R,S.root d=some R→(d,none)∈ks) (hle:np≤d) (hnp:∀ i,np≤i→Z.P i=none) (hgd:Yw S (some d)) (hd:d<Z.nt)
  (hr:∀ M',Ye M' (Mt Z C1 (B.roots S) G)→Yc w' M' (Q0 Z S w' B G C1) rt.tv s Fn) (hF:Ye Fn G)
  (hk:(rt.k=.reg∧∃ cs,s=.reg cs 0)∨(rt.k=.mem∧∃ b off,s=.mem b off∧G b∧¬ Fn b∧Room w' b off rt.tv.size))
  (hv:∀ M L ρ,Ye M (Mt Z C1 (B.roots S) G)→L d=s→ρ d=some rt→Yc w' M (Yi w' M L ρ) rt.tv s Fn→Ygj w' M L ρ (a.put (some d) v) tv v) :
  ∃ C',Inv Z (S.ap p) C' (a.put (some d) v) w':=by
 have hρ:p.roots S=((B.roots S).set d none).set d (some rt):=by
  funext i
  unfold Patch.roots Bk.roots Yb.set;rw[hp]
  by_cases e:i=d
  ·subst e;rw[Yl];simp
  ·rw[Yu e];simp only[if_neg e];cases lk i B.1<;>rfl
 obtain⟨W1,m1⟩:=T.str.weak (ρ':=(B.roots S).set d none) (G':=G) (fun i R' h=>by
   by_cases e:i=d
   ·subst e;rw[Yb.Yo] at h;cases h
   ·rwa [Yb.Ym _ _ e] at h) (fun b hb=>.inl hb)
 have g1:=T.str.Ycg m1 ⟨fun i _=>i=d,fun i _=>i=d⟩
  (fun i R' q h1 h2=>by rw[Yb.Ym _ _ h2];exact h1) (fun i R' q h1 h2=>by rw[Yb.Ym _ _ h2];exact h1)
 obtain⟨W3,g3⟩:=W1.new (d:=d) (R:=rt) (s:=s) (Fn:=Fn) (G':=noB) (Yb.Yo _ _ _) (hnp d hle) ((hr _ m1).go (Yil (fun _ h=>h)) (fun _ _=>rfl) (fun _ _ h=>.inr h)) hF (fun _ h=>h.elim) (fun _ h=>h.elim)
  (by
   rcases hk with hk | ⟨k1,b,off,k2,k3,k4,k5⟩
   ·exact .inl hk
   ·exact .inr ⟨k1,b,off,k2,k3,k4,fun h=>h,k5⟩)
 have hsub:Ye (Mt Z (C1.set d s Fn) (((B.roots S).set d none).set d (some rt)) noB) (Mt Z C1 (B.roots S) G):=by
  rintro b (⟨r,R,h1,h2⟩ | h | h)
  ·by_cases e:r=d
   ·subst e;rw[Yb.Yo] at h1;cases h1
    rcases h2 with h2 | ⟨hkk,off,h2⟩
    ·simp only[Cx.set,if_true] at h2;exact .inr (.inl (hF b h2))
    ·simp only[Cx.set,if_true] at h2
     rcases hk with ⟨k1,cs,k2⟩ | ⟨k1,b',off',k2,k3,_⟩
     ·rw[k1] at hkk;cases hkk
     ·rw[k2] at h2;cases h2;exact .inr (.inl k3)
   ·rw[Yb.Ym _ _ e,Yb.Ym _ _ e] at h1
    refine .inl ⟨r,R,h1,?_⟩;unfold Tot at h2;simp only[Cx.set,if_neg e] at h2;exact h2
  ·exact h.elim
  ·exact .inr (.inr h)
 refine⟨C1.set d s Fn,Inv.ap (Q:=Q0 Z S w' B G C1) (dst:=some d) I (by rw[hρ];exact W3) (by rw[hρ];exact(T.gs.trans g1).trans g3) ?_ ?_ ?_ hgd ?_ ?_⟩
 ·rintro x u ⟨h1,h2⟩;rw[hρ];exact Yi.shut hsub h1 h2
 ·rintro r q R hR ((h | h) | h)
  ·obtain⟨k,k1,k2⟩:=T.cl r q h;rw[hp];exact⟨k,hk1 k k1,k2⟩
  ·cases h;rw[hp];exact⟨_,hk2 R hR,rfl,rfl⟩
  ·exact h.elim
 ·rintro r q R hR ((h | h) | h)
  ·obtain⟨k,k1,k2⟩:=T.cs r q h;rw[hp];exact⟨k,hk1 k k1,k2⟩
  ·cases h;rw[hp];exact⟨_,hk2 R hR,rfl,rfl⟩
  ·exact h.elim
 ·intro d' e;cases e;exact⟨hd,tv,by rw[hp];exact Yl _ _ _⟩
 ·intro i x hl
  rw[hp] at hl
  by_cases e:i=d
  ·subst e
   have:tv=x:=by have:=Yl i tv ([]:List (Nat×TV));rw[this] at hl;exact Option.some.inj hl
   subst this;refine⟨rfl,?_⟩;rw[hρ]
   refine hv _ _ _ hsub (by simp[Cx.set]) (Yb.Yo _ _ _) ?_
   refine(hr _ hsub).go (Yil (fun _ h=>h)) (fun _ _=>rfl) (fun x u h=>?_);exact Yi.shut hsub h.1 h.2
  ·have:lk i [(d,tv)]=none:=by rw[Yu e];rfl
   rw[this] at hl;cases hl
def Conv (w':World) (M2:Ya) (L2:Nat→Src) (ρ2:Yb) (Mf:Ya) (c:TV):Prop:=
 ∀ M',Ye M' Mf→∀ (L:Nat→Src) (ρ:Yb) s F,Yc w' M2 (Yi w' M2 L2 ρ2) c s F→Yc w' M' (Yi w' M' L ρ) c s F
theorem Yc.q0 {M':Ya} {c:TV} {s:Src} {F:Ya} (hs:c.shut=true) (hm:Ye M' (Mt Z C1 (B.roots S) G)) (h:∀ M'',Ye M'' (Mt Z C1 (B.roots S) G)→∀ L ρ,Yc w' M'' (Yi w' M'' L ρ) c s F):Yc w' M' (Q0 Z S w' B G C1) c s F:=by
 have h1:=h _ (fun _ x=>x) C1.L (B.roots S);exact Yc.shut (Lf:=Yi w' (Mt Z C1 (B.roots S) G) C1.L (B.roots S)) hm (fun v u hv hl=>⟨hv,hl⟩) hs h1
theorem Ysx {M:Ya} {L:Nat→Src} {ρ:Yb} {d:Nat} {rt:Root} (hρ:ρ d=some rt):∀ (cs:List TV) (p:Path) {us:List Value} {k:Nat} {cells:List Value},
  rt.tv.get p=some (chain cs)→nav w' rt.tv (L d) p=some (.reg cells k)→L d=.reg cells 0→cs.all TV.Ylk=true→cs.all TV.shut=true→
  (∃ F,Yc w' M (Yi w' M L ρ) (chain cs) (.reg cells k) F)→(∀ j:Nat,(cells.drop k)[j]? = ((us.map fun u=>u.cells.toList).flatten)[j]?)→(cs.length=us.length∧∀ (i:Nat) c u,cs[i]? = some c→us[i]? = some u→u.cells.size=c.size∧(c.isAgg=true↔∃ x,u=.agg x))→
  Ygl w' M L ρ ((chain cs).mir d p) us:=by
 intro cs
 induction cs with
 |nil=>
  intro p us k cells hg hn hL hno hsh hr hc hl
  cases us with
  |nil=>trivial
  |cons u us=>simp at hl
 |cons c cs ih=>
  intro p us k cells hg hn hL hno hsh hr hc hl
  cases us with
  |nil=>simp at hl
  |cons u us=>
   simp only[List.all_cons,Bool.and_eq_true] at hno hsh;obtain⟨F,F1,F2,r1,r2,_⟩:=hr;obtain⟨h1,h2⟩:=hl.2 0 c u rfl rfl;obtain⟨n1,g1⟩:=Y2 p [.f1] hn hg;obtain⟨n2,g2⟩:=Y2 p [.f2] hn hg;simp only[chain,nav,Yf,TV.get,TV.get_nil] at n1 g1 n2 g2
   have hcells:∀ i,i<c.size→(Src.reg u.cells.toList 0).cell w' i=(Src.reg cells k).cell w' i:=by
    intro i hi;have:=hc i;simp only[List.map_cons,List.flatten_cons] at this
    rw[List.getElem?_append_left (by rw[Array.length_toList,h1];exact hi),List.getElem?_drop] at this
    simp only[Src.cell,Nat.zero_add];exact this.symm
   refine⟨?_,ih (p++[.f2]) (k:=k+c.size) (cells:=cells) g2 n2 hL hno.2 hsh.2 ⟨_,r2⟩ (fun j=>?_) ⟨by simpa using hl.1,fun i c' u' e1 e2=>hl.2 (i+1) c' u' (by simpa using e1) (by simpa using e2)⟩⟩
   ·have hrep:=Yhz hρ c (p++[.f1]) (s':=.reg u.cells.toList 0) r1 n1 g1 hcells
    rcases Yfz r1 d (p++[.f1]) with ⟨n,e⟩ | hp
    ·left
     show c.mir d (p++[.f1])=.dead (c.mir d (p++[.f1])).size;rw[e];rfl
    ·rcases Yh4 d c (p++[.f1]) with e | ⟨n,e⟩
     ·exact .inr ⟨hrep,by rw[Yek];exact h1,by rw[e];exact h2⟩
     ·left
      show c.mir d (p++[.f1])=.dead (c.mir d (p++[.f1])).size;rw[e];rfl
   ·have:=hc (c.size+j)
    simp only[List.map_cons,List.flatten_cons] at this
    rw[List.getElem?_append_right (by rw[Array.length_toList,h1];omega),Array.length_toList,h1,Nat.add_sub_cancel_left,List.getElem?_drop] at this
    rw[List.getElem?_drop,Nat.add_assoc];exact this
end Mf
namespace Mf
open Go
set_option linter.unusedVariables false
set_option linter.unusedSimpArgs false
variable {Z:W0} {S:St} {C:Cx} {w w':World} {a:Act}
variable {P:Program} {tb:Tb} {g:Gd} {o:Oper} {hn:Hint}
variable {B:Bk} {G:Ya} {C1:Cx} {D:Dd}
def Yst (w':World) (M2:Ya) (L2:Nat→Src) (ρ2:Yb) (Mf:Ya):TV→Prop
 |.op tv=>Conv w' M2 L2 ρ2 Mf tv
 |c=>Conv w' M2 L2 ρ2 Mf c
theorem Yqx {M:Ya} {L:Nat→Src} {ρ:Yb}:∀ (cs:List TV) {us:List Value} {F:Ya} {pre:List Value},cs.all TV.Ylk=true→Ydq w' M L ρ cs us F→
  Yc w' M (Yi w' M L ρ) (chain cs) (.reg (pre++(us.map fun u=>u.cells.toList).flatten) pre.length) F∧cs.length=us.length∧∀ (i:Nat) c u,cs[i]? = some c→us[i]? = some u→u.cells.size=c.size∧(c.isAgg=true↔∃ x,u=.agg x):=by
 intro cs
 induction cs with
 |nil=>
  intro us F pre _ h
  cases us with
  |nil=>exact⟨trivial,rfl,fun i c u h=>by simp at h⟩
  |cons u us=>exact h.elim
 |cons c cs ih=>
  intro us F pre hno h
  cases us with
  |nil=>exact h.elim
  |cons u us=>
   simp only[List.all_cons,Bool.and_eq_true] at hno;obtain⟨F1,F2,h1,h2,b1,b2,d⟩:=h
   have hc:Yc w' M (Yi w' M L ρ) c (.reg u.cells.toList 0) F1∧u.cells.size=c.size∧(c.isAgg=true↔∃ cs,u=.agg cs):=by
    cases c with
    |op v=>simp[TV.Ylk] at hno
    |_=>exact h1
   obtain⟨q1,q2,q3⟩:=ih (pre:=pre++u.cells.toList) hno.2 h2
   refine⟨⟨F1,F2,hc.1.mv (fun i hi=>?_),?_,b1,b2,d⟩,by simp[q2],fun i c' u' e1 e2=>?_⟩
   ·simp only[Src.cell,Nat.zero_add,List.map_cons,List.flatten_cons]
    rw[List.getElem?_append_right (by omega),Nat.add_sub_cancel_left,List.getElem?_append_left (by rw[Array.length_toList,hc.2.1];exact hi)]
   ·refine q1.mv (fun i hi=>?_)
    simp only[Src.cell,Src.sh,List.map_cons,List.flatten_cons,List.length_append,Array.length_toList,hc.2.1,List.append_assoc]
   ·cases i with
    |zero=>simp at e1 e2;subst e1 e2;exact hc.2
    |succ i=>simp at e1 e2;exact q3 i c' u' e1 e2
theorem Ywi {c:TV} (h:c.Ylk=true):∀ v,c≠.op v:=by rintro v rfl;cases h
theorem Yki (I:Inv Z S C a w) (T:Yi6 Z S C w w' B G C1 D) {M2:Ya} {L2:Nat→Src} {ρ2:Yb} {Fr:Ya} {res:List TV} {v:Value} {np:Nat} {dst:Option Nat} {p:Patch} (hres:Yko w' M2 L2 ρ2 res v Fr) (hF:Ye Fr G)
  (hsh:res.all TV.shut=true) (hconv:∀ c∈res,Yst w' M2 L2 ρ2 (Mt Z C1 (B.roots S) G) c) (hnp:∀ i,np≤i→Z.P i=none) (hgd:Yw S dst) (hd:∀ d,dst=some d→d<Z.nt)
  (h:(Ybf np dst B.1 B.2 res).run S=some p):∃ C',Inv Z (S.ap p) C' (a.put dst v) w':=by
 have blt:∀ d,Nat.blt d np=false→np≤d:=by
  intro d h;rcases Nat.lt_or_ge d np with h' | h'
  ·have:Nat.blt d np=true:=by simpa using h'
   rw[this] at h;cases h
  ·exact h'
 have none_:∀ q:Patch,q=⟨[],B.1,B.2⟩→dst=none→∃ C',Inv Z (S.ap q) C' (a.put dst v) w':=by
  intro q hq hdst
  exact T.plain I (tv:=none) (by rw[hq,hdst]) hgd (fun d e=>by rw[hdst] at e;cases e) (fun x e=>by cases e)
 match res,hres,hsh,hconv,h with
 |[],hres,_,_,h=>
  simp only[Ybf,RD.run,Option.some.injEq] at h
  cases hdst:dst with
  |none=>rw[hdst] at h;rw[←hdst];exact none_ p h.symm hdst
  |some d=>
   rw[hdst] at h;rw[←hdst]
   refine T.plain I (tv:=some (.tup (chain []))) (by rw[hdst];exact h.symm) hgd (fun d' e=>⟨hd d' e,_,rfl⟩) (fun x e M' hm=>?_)
   cases e
   exact⟨#[],hres,trivial⟩
 |[c],hres,hsh,hconv,h=>
  have hsh:c.shut=true:=by simpa using hsh
  have hcv:=hconv c (List.mem_singleton.2 rfl)
  cases hdst:dst with
  |none=>rw[hdst] at h;simp only[Ybf,RD.run,Option.some.injEq] at h;rw[←hdst];exact none_ p h.symm hdst
  |some d=>
   rw[hdst] at h hgd;simp only[Ybf] at h
   cases hR:Y8 c with
   |none=>
    rw[hR] at h;simp only[RD.run,Option.some.injEq] at h
    refine T.plain I (dst:=some d) (tv:=some (c.mir d [])) h.symm hgd (fun d' e=>⟨hd d' (by rw[hdst];exact e),_,rfl⟩) (fun x e M' hm=>?_)
    cases e
    have hop:∀ tv,c≠.op tv:=by rintro tv rfl;cases hR
    have hres:Yc w' M2 (Yi w' M2 L2 ρ2) c (.reg v.cells.toList 0) Fr∧v.cells.size=c.size∧(c.isAgg=true↔∃ cs,v=.agg cs):=by
     cases c with
     |op v=>exact absurd rfl (hop v)
     |_=>exact hres
    have hcv:Conv w' M2 L2 ρ2 (Mt Z C1 (B.roots S) G) c:=by
     cases c with
     |op v=>exact absurd rfl (hop v)
     |_=>exact hcv
    have h1:=hcv M' hm C1.L (B.roots S) _ _ hres.1
    have hval:VOk w' M' C1.L (B.roots S) c v:=by
     refine VOk.Yhd ?_ hres.2.1 hres.2.2 (by cases c<;>first | rfl | cases hsh | cases hR)
     cases c with
     |cl o t x=>
      simp only[Y8] at hR
      split at hR
      ·have hp:t.pure=true:=by assumption
       exact Rep.pure hp h1 (fun _ _=>rfl)
      ·exact Rep.Yg4 h1 (fun _ _=>rfl)
      ·cases hR
     |pr x y=>cases hR
     |dead n=>cases hsh
     |rw o e xs i v=>cases hsh
     |_=>exact h1
    exact(Yd0 hR hval d).tm _
   |some rt=>
    rw[hR] at h;simp only at h
    split at h
    ·cases h
    ·rename_i hb
     have hle:=blt d hb
     have hpp:∃ ks,p=⟨[(d,Yrv d [] c)],(d,some rt)::B.1,ks⟩∧(∀ k∈B.2,k∈ks)∧(∀ R,S.root d=some R→(d,none)∈ks):=by
      simp only[RD.run] at h
      split at h
      ·cases h;exact⟨_,rfl,fun k hk=>List.mem_cons_of_mem _ hk,fun _ _=>List.mem_cons_self⟩
      ·rename_i hr;cases h;exact⟨_,rfl,fun k hk=>hk,fun R hR=>absurd hR (by rw[hr];simp)⟩
     obtain⟨ks,e1,e2,e3⟩:=hpp
     by_cases hop:∃ tv,c=.op tv
     ·obtain⟨tv,rfl⟩:=hop
      cases hR;obtain⟨b,off,F',rfl,r1,r2,r3,r4,r5⟩:=hres;refine T.new I (s:=.mem b off) (Fn:=F') e1 e2 e3 hle hnp hgd (hd d hdst) (fun M' hm=>?_) (fun b hb=>hF b (r3 b hb)) (.inr ⟨rfl,b,off,rfl,hF b r1,r2,r4⟩) (fun M L ρ hm hL hρ _=>?_)
      ·exact Yc.q0 (c:=tv) hsh hm (fun M'' hm' L ρ=>hcv M'' hm' L ρ _ _ r5)
      ·exact Yd.Yah (v:=.loc d []) ⟨_,b,off,hρ,by rw[Yf,hL],rfl⟩
     ·have hop:∀ tv,c≠.op tv:=fun tv e=>hop ⟨tv,e⟩
      have hres:Yc w' M2 (Yi w' M2 L2 ρ2) c (.reg v.cells.toList 0) Fr∧v.cells.size=c.size∧(c.isAgg=true↔∃ cs,v=.agg cs):=by
       cases c with
       |op v=>exact absurd rfl (hop v)
       |_=>exact hres
      have hcv:Conv w' M2 L2 ρ2 (Mt Z C1 (B.roots S) G) c:=by
       cases c with
       |op v=>exact absurd rfl (hop v)
       |_=>exact hcv
      have hrt:=Yab hR hop;subst hrt
      have hresTV:Yrv d [] c=c.mir d []:=by cases c<;>first | rfl | exact absurd rfl (hop _)
      rw[hresTV] at e1;refine T.new I (s:=.reg v.cells.toList 0) (Fn:=Fr) e1 e2 e3 hle hnp hgd (hd d hdst) (fun M' hm=>?_) hF (.inl ⟨rfl,_,rfl⟩) (fun M L ρ hm hL hρ hrep=>?_)
      ·exact Yc.q0 (c:=c) hsh hm (fun M'' hm' L ρ=>hcv M'' hm' L ρ _ _ hres.1)
      ·have hrep':=Yhz hρ c [] (s':=.reg v.cells.toList 0) hrep (by rw[Yf,hL]) (TV.get_nil _) (fun _ _=>rfl)
       rcases Yfz hrep d [] with ⟨n,e⟩ | hp
       ·rw[e];trivial
       ·rcases Yh4 d c [] with e | ⟨n,e⟩
        ·exact(VOk.Yhd hrep' (by rw[Yek];exact hres.2.1) (by rw[e];exact hres.2.2) hp).tm _
        ·rw[e];trivial
 |c1::c2::cs,hres,hsh,hconv,h=>
  cases hdst:dst with
  |none=>rw[hdst] at h;simp only[Ybf,RD.run,Option.some.injEq] at h;rw[←hdst];exact none_ p h.symm hdst
  |some d=>
   rw[hdst] at h hgd;simp only[Ybf] at h
   split at h
   ·cases h
   ·rename_i hb
    simp only[Bool.or_eq_false_iff,Bool.not_eq_false'] at hb;have hle:=blt d hb.1;generalize hcs:c1::c2::cs=l at *
    have hpp:∃ ks,p=⟨[(d,.tup ((chain l).mir d []))],(d,some ⟨.reg,chain l⟩)::B.1,ks⟩∧(∀ k∈B.2,k∈ks)∧(∀ R,S.root d=some R→(d,none)∈ks):=by
     simp only[RD.run] at h
     split at h
     ·cases h;exact⟨_,rfl,fun k hk=>List.mem_cons_of_mem _ hk,fun _ _=>List.mem_cons_self⟩
     ·rename_i hr;cases h;exact⟨_,rfl,fun k hk=>hk,fun R hR=>absurd hR (by rw[hr];simp)⟩
    obtain⟨ks,e1,e2,e3⟩:=hpp
    obtain⟨vs,rfl,hvs⟩:∃ vs:Array Value,v=.tuple vs∧Ydq w' M2 L2 ρ2 l vs.toList Fr:=by rw[←hcs] at hres ⊢;exact hres
    obtain⟨q1,q2,q3⟩:=Yqx (pre:=[]) l hb.2 hvs;simp only[List.nil_append,List.length_nil] at q1
    have hshc:∀ l:List TV,l.all TV.shut=true→(chain l).shut=true:=by
     intro l
     induction l with
     |nil=>intro _;rfl
     |cons c l ih=>intro h;simp only[List.all_cons,Bool.and_eq_true] at h;simp only[chain,TV.shut,Bool.and_eq_true];exact⟨h.1,ih h.2⟩
    have hcvc:Conv w' M2 L2 ρ2 (Mt Z C1 (B.roots S) G) (chain l):=by
     have:∀ l:List TV,(∀ c∈l,Yst w' M2 L2 ρ2 (Mt Z C1 (B.roots S) G) c)→l.all TV.Ylk=true→Conv w' M2 L2 ρ2 (Mt Z C1 (B.roots S) G) (chain l):=by
      intro l
      induction l with
      |nil=>intro _ _ M' hm L ρ s F h;trivial
      |cons c l ih=>
       intro hc hno M' hm L ρ s F h;simp only[List.all_cons,Bool.and_eq_true] at hno;obtain⟨F1,F2,r1,r2,r3⟩:=h;have h0:=hc c List.mem_cons_self
       have h0:Conv w' M2 L2 ρ2 (Mt Z C1 (B.roots S) G) c:=by
        cases c with
        |op v=>simp[TV.Ylk] at hno
        |_=>exact h0
       exact⟨F1,F2,h0 M' hm L ρ _ _ r1,ih (fun c hc'=>hc c (List.mem_cons_of_mem _ hc')) hno.2 M' hm L ρ _ _ r2,r3⟩
     exact this l hconv hb.2
    refine T.new I (s:=.reg ((vs.toList.map fun u=>u.cells.toList).flatten) 0) (Fn:=Fr) e1 e2 e3 hle hnp hgd (hd d hdst) (fun M' hm=>?_) hF (.inl ⟨rfl,_,rfl⟩) (fun M L ρ hm hL hρ hrep=>?_)
    ·exact Yc.q0 (c:=chain l) (hshc l hsh) hm (fun M'' hm' L ρ=>hcvc M'' hm' L ρ _ _ q1)
    ·refine⟨vs,rfl,?_⟩
     exact Ysx hρ l [] (k:=0) (cells:=(vs.toList.map fun u=>u.cells.toList).flatten) (TV.get_nil _) (by rw[Yf,hL]) hL hb.2 hsh ⟨_,hrep⟩ (fun j=>by simp) ⟨q2,q3⟩
end Mf
namespace Mf
open Go
set_option linter.unusedVariables false
set_option linter.unusedSimpArgs false
variable {Z:W0} {S:St} {C:Cx} {w w':World} {a:Act}
variable {P:Program} {tb:Tb} {g:Gd} {o:Oper} {hn:Hint}
theorem Yod (I:Inv Z S C a w) (hg:Yax a g):∀ (os:List Operand) {vs:List TV},(Yp8 g os).run S=some vs→vs.length=os.length∧∀ (i:Nat) v x,vs[i]? = some v→os[i]? = some x→VOk w (Mt Z C S.root noB) C.L S.root v (a.eval x):=by
 intro os
 induction os with
 |nil=>intro vs h;simp only[Yp8,RD.run,Option.some.injEq] at h;subst h;exact⟨rfl,fun i v x h=>by simp at h⟩
 |cons x os ih=>
  intro vs h;simp only[Yp8] at h;replace h:=RD.bind_some h;obtain⟨v,h1,h⟩:=h;replace h:=RD.bind_some h;obtain⟨vs',h2,h⟩:=h;simp only[RD.run,Option.some.injEq] at h;subst h;obtain⟨e1,e2⟩:=ih h2
  refine⟨by simp[e1],fun i v' x' q1 q2=>?_⟩
  cases i with
  |zero=>simp at q1 q2;subst q1 q2;exact Yg I hg h1
  |succ i=>simp at q1 q2;exact e2 i v' x' q1 q2
theorem Yjw {M:Ya} {L:Nat→Src} {ρ:Yb}:∀ (c:TV) {us:List Value},Ycw w M L ρ c us→(unchain c).length=us.length∧∀ (i:Nat) v u,(unchain c)[i]? = some v→us[i]? = some u→VOk w M L ρ v u:=by
 intro c
 induction c with
 |pr x y ihx ihy=>
  intro us h
  cases us with
  |nil=>exact h.elim
  |cons u us=>
   obtain⟨h1,h2⟩:=h;obtain⟨e1,e2⟩:=ihy h2
   refine⟨by simp[unchain,e1],fun i v u' q1 q2=>?_⟩
   cases i with
   |zero=>
    simp[unchain] at q1 q2;subst q1 q2
    have:Yi w M L ρ x u:=by cases x<;>first | exact h1 | exact h1.elim
    exact(Yd.Yah this).v (by cases x<;>first | rfl | exact h1.elim)
   |succ i=>simp[unchain] at q1 q2;exact e2 i v u' q1 q2
 |cl o t x=>intro us h;cases t<;>cases us<;>first | exact h.elim | exact⟨rfl,fun i v u h=>by simp[unchain] at h⟩
 |_=>intro us h;exact h.elim
def Yu6 (tb:Tb) (Z:W0) (S:St) (C:Cx) (w:World) (m:Md) (v:TV) (u:Value) (c:TV):Prop:=
 (m=.sh∧(∀ tv,c≠.op tv)∧∀ M' L ρ,Far Z S C w v.roots M'→VOk w M' L ρ c u)∨
 (m=.mu∧v.Yhm=false∧(∀ tv,c≠.op tv)∧∀ M' L ρ,Ye M' (Mt Z C S.root noB)→VOk w M' L ρ c u)∨
 (m=.mu∧v.Yhm=true∧∃ t,(Ycx tb t v).run S=some c)
theorem Ymk (I:Inv Z S C a w) {t:TypeId} {m:Md} {v c:TV} {u:Value} {K K':Yk} (hv:VOk w (Mt Z C S.root noB) C.L S.root v u) (h:(Yhf tb K t m v).run S=some (c,K')) :
  K'=K∧Yu6 tb Z S C w m v u c:=by
 cases m with
 |sh=>
  have viaShare:∀ v,((share (argTy tb t) v).bind fun v=>.ret (v,K)).run S=some (c,K')→VOk w (Mt Z C S.root noB) C.L S.root v u→K'=K∧Yu6 tb Z S C w .sh v u c:=by
   intro v h hv;replace h:=RD.bind_some h;obtain⟨c',h1,h⟩:=h;simp only[RD.run,Option.some.injEq,Prod.mk.injEq] at h;obtain⟨rfl,rfl⟩:=h
   have hnt:∀ l,v≠.tup l:=by rintro l rfl;generalize argTy tb t=ty at h1;cases ty<;>cases h1
   refine⟨rfl,.inl ⟨rfl,?_,fun M' L ρ hf=>?_⟩⟩
   ·obtain⟨t',y,rfl,_⟩:=Yhi I (M':=noB) v _ h1 (hv.rep hnt).1 ⟨fun _ h=>h.elim,fun _ _ _ _ _ _ h=>h⟩
    simp
   ·obtain⟨t',y,rfl,q1,q2,q3⟩:=Yhi I v _ h1 (hv.rep hnt).1 hf
    have hval:Yd w M' L ρ (.cl .sh t' y) u:=⟨q1,by rw[(hv.rep hnt).2,←q2];rfl,by
     have:=(hv.val hnt).2.2;rw[q3] at this;exact this⟩
    exact hval
  cases v with
  |loc r p=>
   simp only[Yhf] at h;replace h:=RD.bind_some h;obtain⟨c',h1,h⟩:=h;simp only[RD.run,Option.some.injEq,Prod.mk.injEq] at h;obtain⟨rfl,rfl⟩:=h;have hl:Yd1 w (Mt Z C S.root noB) C.L S.root (.loc r p) u:=(hv:Yd _ _ _ _ _ _).leaf rfl;refine⟨rfl,.inl ⟨rfl,?_,fun M' L ρ hf=>?_⟩⟩
   ·obtain⟨t',y,rfl,_⟩:=Ydr I (M':=noB) h1 hl ⟨fun _ h=>h.elim,fun _ _ _ _ _ _ h=>h⟩
    simp
   ·obtain⟨t',y,rfl,q⟩:=Ydr I h1 hl hf
    exact Yd.Yah (v:=.pt t' y) (q L ρ)
  |pt ty x=>
   simp only[Yhf,RD.run,Option.some.injEq,Prod.mk.injEq] at h;obtain⟨rfl,rfl⟩:=h
   refine⟨rfl,.inl ⟨rfl,by simp,fun M' L ρ hf=>?_⟩⟩
   exact Yd.Yah (Yi.shut hf.sub rfl ((hv:Yd _ _ _ _ _ _).leaf rfl))
  |clo f cc=>
   simp only[Yhf] at h;replace h:=RD.bind_some h;obtain⟨c',h1,h⟩:=h;simp only[RD.run,Option.some.injEq,Prod.mk.injEq] at h;obtain⟨rfl,rfl⟩:=h;obtain⟨caps,rfl,hc⟩:Yi w (Mt Z C S.root noB) C.L S.root (.clo f cc) u:=(hv:Yd _ _ _ _ _ _).leaf rfl
   refine⟨rfl,.inl ⟨rfl,by simp,fun M' L ρ hf=>?_⟩⟩
   exact Yd.Yah (v:=.clo f c') ⟨caps,rfl,Yi9 I cc h1 hc hf L ρ⟩
  |_=>exact viaShare _ h hv
 |mu=>
  simp only[Yhf] at h;replace h:=RD.bind_some h;obtain⟨c',h1,h⟩:=h;simp only[RD.run,Option.some.injEq,Prod.mk.injEq] at h;obtain⟨rfl,rfl⟩:=h;refine⟨rfl,?_⟩
  cases v with
  |cl oo ty x=>
   simp only[Ycx,RD.run,Option.some.injEq] at h1;subst h1;have hv:=(hv:Yd _ _ _ _ _ _)
   refine .inr (.inl ⟨rfl,rfl,by simp,fun M' L ρ hm=>?_⟩)
   exact(⟨Yc.mono (Lf:=Yi w M' L ρ) (tv:=.cl oo ty x) hv.1 hm,hv.2.1,hv.2.2⟩:Yd _ _ _ _ _ _)
  |nl=>
   simp only[Ycx] at h1
   split at h1
   ·rename_i e' _
    simp only[RD.run,Option.some.injEq] at h1;subst h1;obtain⟨A,rfl⟩:=(hv:Yd _ _ _ _ _ _).leaf rfl
    refine .inr (.inl ⟨rfl,rfl,by simp,fun M' L ρ hm=>?_⟩)
    have h1:Yd w M' L ρ (.cl .deep (.sl e') []) (.slice A 0 0):=⟨Rep.nil (A:=A) rfl,rfl,⟨fun h=>(by cases h),fun⟨_,h⟩=>(by cases h)⟩⟩
    exact h1
   ·cases h1
  |loc r p=>exact .inr (.inr ⟨rfl,rfl,t,h1⟩)
  |seg r p=>exact .inr (.inr ⟨rfl,rfl,t,h1⟩)
  |pr x y=>exact .inr (.inr ⟨rfl,rfl,t,h1⟩)
  |_=>cases h1
 |mv=>cases h
def Ya9 (tb:Tb) (Z:W0) (S:St) (C:Cx) (w:World):List Md→List TV→List Value→List TV→Prop
 |[],[],[],[]=>True
 |m::ms,v::vs,u::us,c::cs=>Yu6 tb Z S C w m v u c∧Ya9 tb Z S C w ms vs us cs
 |_,_,_,_=>False
theorem Ylv (I:Inv Z S C a w):∀ (ms:List Md) (ts:List TypeId) (vs:List TV) {us:List Value} {cs:List TV} {K K':Yk},vs.length=us.length→(∀ (i:Nat) v u,vs[i]? = some v→us[i]? = some u→VOk w (Mt Z C S.root noB) C.L S.root v u)→
  (Yfl tb K ts ms vs).run S=some (cs,K')→K'=K∧Ya9 tb Z S C w ms vs us cs:=by
 intro ms
 induction ms with
 |nil=>
  intro ts vs us cs K K' hl hv h
  cases vs with
  |nil=>
   have h:cs=[]∧K=K':=by cases ts<;>(simp only[Yfl,RD.run,Option.some.injEq,Prod.mk.injEq] at h;exact⟨h.1.symm,h.2⟩)
   obtain⟨rfl,rfl⟩:=h
   cases us with
   |nil=>exact⟨rfl,trivial⟩
   |cons u us=>simp at hl
  |cons v vs=>cases ts<;>cases h
 |cons m ms ih=>
  intro ts vs us cs K K' hl hv h
  cases vs with
  |nil=>cases ts<;>cases h
  |cons v vs=>
   cases us with
   |nil=>simp at hl
   |cons u us=>
    have step:∀ (t:TypeId) (ts:List TypeId),((Yhf tb K t m v).bind fun(c,K)=>(Yfl tb K ts ms vs).bind fun(cs,K)=>.ret (c::cs,K)).run S=some (cs,K')→K'=K∧Ya9 tb Z S C w (m::ms) (v::vs) (u::us) cs:=by
     intro t ts h;replace h:=RD.bind_some h;obtain⟨⟨c,K1⟩,h1,h⟩:=h;replace h:=RD.bind_some h;obtain⟨⟨cs',K2⟩,h2,h⟩:=h;simp only[RD.run,Option.some.injEq,Prod.mk.injEq] at h;obtain⟨rfl,rfl⟩:=h;obtain⟨rfl,q1⟩:=Ymk I (hv 0 v u rfl rfl) h1
     obtain⟨rfl,q2⟩:=ih ts vs (by simpa using hl) (fun i v' u' e1 e2=>hv (i+1) v' u' (by simpa using e1) (by simpa using e2)) h2
     exact⟨rfl,q1,q2⟩
    cases ts with
    |nil=>exact step 0 [] h
    |cons t ts=>exact step t ts h
theorem Ya9.len:∀ {ms:List Md} {vs:List TV} {us:List Value} {cs:List TV},Ya9 tb Z S C w ms vs us cs→ms.length=us.length∧vs.length=us.length∧cs.length=us.length
 |[],[],[],[],_=>⟨rfl,rfl,rfl⟩
 |m::ms,v::vs,u::us,c::cs,h=>by obtain⟨h1,h2,h3⟩:=Ya9.len h.2;exact⟨by simp[h1],by simp[h2],by simp[h3]⟩
 |[],[],[],_::_,h=>h.elim
 |[],[],_::_,_,h=>h.elim
 |[],_::_,_,_,h=>h.elim
 |_::_,[],_,_,h=>h.elim
 |_::_,_::_,[],_,h=>h.elim
 |_::_,_::_,_::_,[],h=>h.elim
def Y6:Nat→List Md→List TV→Nat
 |j,.mu::ms,v::vs=>match v.Yhm with | true=>j | false=>Y6 (j+1) ms vs
 |j,_::ms,_::vs=>Y6 (j+1) ms vs
 |j,_,_=>j
theorem Ya9.others:∀ {ms:List Md} {vs:List TV} {us:List Value} {cs:List TV} (j:Nat),Ya9 tb Z S C w ms vs us cs→(Yas ms vs).length≤1→
  ∀ (i:Nat) c,j+i≠Y6 j ms vs→cs[i]? = some c→(∀ tv,c≠.op tv)∧∃ (v:TV) (u:Value),us[i]? = some u∧(v.roots ⊆ Yea ms vs∧(∀ M' L ρ,Far Z S C w v.roots M'→VOk w M' L ρ c u)∧((Yf7 ms vs).all TV.Ybp=true→v.Ybp=true)∨
   ∀ M' L ρ,Ye M' (Mt Z C S.root noB)→VOk w M' L ρ c u)
 |[],[],[],[],j,_,_,i,c,_,h=>by simp at h
 |m::ms,v::vs,u::us,c0::cs,j,hr,hl,i,c,hne,hc=>by
  obtain⟨h0,hr⟩:=hr;rcases h0 with ⟨rfl,h1,h2⟩ | ⟨rfl,h1,h2,h3⟩ | ⟨rfl,h1,h2⟩
  ·cases i with
   |zero=>
    simp at hc;subst hc
    exact⟨h1,v,u,rfl,.inl ⟨fun r hr=>by simp[Yea,hr],h2,fun h=>by simp[Yf7] at h;exact h.1⟩⟩
   |succ i=>
    obtain⟨q1,v',u',q2,q3⟩:=Ya9.others (j+1) hr hl i c (by rw[show j+1+i=j+(i+1) by omega];exact hne) (by simpa using hc)
    refine⟨q1,v',u',by simpa using q2,q3.imp (fun⟨a,b,c⟩=>⟨fun r hr=>by simp[Yea];exact .inr (a hr),b,fun h=>c (by simp[Yf7] at h ⊢;exact h.2)⟩) id⟩
  ·cases i with
   |zero=>simp at hc;subst hc;exact⟨h2,v,u,rfl,.inr h3⟩
   |succ i=>
    have hl':(Yas ms vs).length≤1:=by simpa only[Yas,h1] using hl
    obtain⟨q1,v',u',q2,q3⟩:=Ya9.others (j+1) hr hl' i c (by rw[show j+1+i=j+(i+1) by omega];simpa only[Y6,h1] using hne) (by simpa using hc)
    exact⟨q1,v',u',by simpa using q2,q3.imp (fun⟨a,b,c⟩=>⟨fun r hr=>by simp only[Yea];exact a hr,b,fun h=>c (by simpa only[Yf7] using h)⟩) id⟩
  ·
   simp only[Yas,h1,List.length_cons] at hl
   have hnil:Yas ms vs=[]:=List.length_eq_zero_iff.1 (by omega)
   cases i with
   |zero=>simp[Y6,h1] at hne
   |succ i=>
    have hix:∀ (ms:List Md) (vs:List TV) (us:List Value) (cs:List TV) (k:Nat),Ya9 tb Z S C w ms vs us cs→Yas ms vs=[]→Y6 k ms vs=k+us.length:=by
     intro ms
     induction ms with
     |nil=>intro vs us cs k h _;cases vs<;>cases us<;>cases cs<;>first | rfl | exact h.elim
     |cons m ms ih=>
      intro vs us cs k h hn
      cases vs<;>cases us<;>cases cs<;>first | exact h.elim | skip
      rename_i v vs u us c cs;obtain⟨q0,q⟩:=h
      have:Y6 k (m::ms) (v::vs)=Y6 (k+1) ms vs∧Yas ms vs=[]:=by
       cases m with
       |mu=>
        simp only[Yas] at hn
        split at hn
        ·cases hn
        ·rename_i hh;exact⟨by simp only[Y6,hh],hn⟩
       |sh=>exact⟨rfl,hn⟩
       |mv=>exact⟨rfl,hn⟩
      rw[this.1,ih vs us cs (k+1) q this.2];simp;omega
    have hlen:=hr.len
    have hi:i<us.length:=by
     have:i<cs.length:=by
      rcases Nat.lt_or_ge i cs.length with h | h
      ·exact h
      ·simp[List.getElem?_eq_none h] at hc
     omega
    obtain⟨q1,v',u',q2,q3⟩:=Ya9.others (j+1) hr (by rw[hnil];exact Nat.zero_le _) i c (by rw[hix ms vs us cs (j+1) hr hnil];omega) (by simpa using hc)
    exact⟨q1,v',u',by simpa using q2,q3.imp (fun⟨a,b,c⟩=>⟨fun r hr=>by simp only[Yea];exact a hr,b,fun h=>c (by simpa only[Yf7] using h)⟩) id⟩
 |[],[],[],_::_,_,h,_,_,_,_,_=>h.elim
 |[],[],_::_,_,_,h,_,_,_,_,_=>h.elim
 |[],_::_,_,_,_,h,_,_,_,_,_=>h.elim
 |_::_,[],_,_,_,h,_,_,_,_,_=>h.elim
 |_::_,_::_,[],_,_,h,_,_,_,_,_=>h.elim
 |_::_,_::_,_::_,[],_,h,_,_,_,_,_=>h.elim
theorem Ya9.Yej:∀ {ms:List Md} {vs:List TV} {us:List Value} {cs:List TV} (j:Nat),Ya9 tb Z S C w ms vs us cs→∀ (ρ:Yb) (os:List TV),Ya4 ρ j ms os→
  (Yas ms vs=[]∧Y6 j ms vs=j+us.length)∨∃ v rest k,Yas ms vs=v::rest∧Y6 j ms vs=j+k∧∃ u c t R,us[k]? = some u∧vs[k]? = some v∧cs[k]? = some c∧(Ycx tb t v).run S=some c∧ρ (j+k)=some R∧
   Yc6 ms vs os=some R.out
 |[],[],[],[],j,_,ρ,os,ho=>.inl ⟨rfl,rfl⟩
 |m::ms,v::vs,u::us,c::cs,j,hr,ρ,os,ho=>by
  obtain⟨h0,hr⟩:=hr
  have next:∀ os',Ya4 ρ (j+1) ms os'→Yas (m::ms) (v::vs)=Yas ms vs→Y6 j (m::ms) (v::vs)=Y6 (j+1) ms vs→Yc6 (m::ms) (v::vs) os=Yc6 ms vs os'→
    (Yas (m::ms) (v::vs)=[]∧Y6 j (m::ms) (v::vs)=j+(u::us).length)∨∃ v' rest k,Yas (m::ms) (v::vs)=v'::rest∧Y6 j (m::ms) (v::vs)=j+k∧∃ u' c' t R,(u::us)[k]? = some u'∧(v::vs)[k]? = some v'∧(c::cs)[k]? = some c'∧(Ycx tb t v').run S=some c'∧ρ (j+k)=some R∧
     Yc6 (m::ms) (v::vs) os=some R.out:=by
   intro os' ho' e1 e2 e3;rcases Ya9.Yej (j+1) hr ρ os' ho' with ⟨q1,q2⟩ | ⟨v',rest,k,q1,q2,u',c',t,R,q3,q4,q5,q6,q7,q8⟩
   ·exact .inl ⟨by rw[e1,q1],by rw[e2,q2];simp;omega⟩
   ·exact .inr ⟨v',rest,k+1,by rw[e1,q1],by rw[e2,q2];omega,u',c',t,R,by simpa using q3,by simpa using q4,by simpa using q5,q6,by rw[show j+(k+1)=j+1+k by omega];exact q7,by rw[e3,q8]⟩
  cases m with
  |sh=>exact next os (by cases os<;>exact ho) rfl rfl (by cases os<;>rfl)
  |mv=>exact next os (by cases os<;>exact ho) rfl rfl (by cases os<;>rfl)
  |mu=>
   cases os with
   |nil=>exact ho.elim
   |cons o os=>
    obtain⟨⟨R,e1,e2⟩,ho⟩:=ho
    cases hl:v.Yhm with
    |false=>exact next os ho (by simp only[Yas,hl]) (by simp only[Y6,hl]) (by simp only[Yc6,hl])
    |true=>
     rcases h0 with ⟨h,_⟩ | ⟨_,h,_⟩ | ⟨_,_,t,h⟩
     ·cases h
     ·rw[hl] at h;cases h
     ·exact .inr ⟨v,Yas ms vs,0,by simp only[Yas,hl],by simp only[Y6,hl];rfl,u,c,t,R,rfl,rfl,rfl,h,e1,by simp only[Yc6,hl];rw[e2]⟩
 |[],[],[],_::_,_,h,_,_,_=>h.elim
 |[],[],_::_,_,_,h,_,_,_=>h.elim
 |[],_::_,_,_,_,h,_,_,_=>h.elim
 |_::_,[],_,_,_,h,_,_,_=>h.elim
 |_::_,_::_,[],_,_,h,_,_,_=>h.elim
 |_::_,_::_,_::_,[],_,h,_,_,_=>h.elim
end Mf
namespace Mf
open Go
set_option linter.unusedVariables false
set_option linter.unusedSimpArgs false
variable {Z:W0} {S:St} {C:Cx} {w w':World} {a:Act}
variable {P:Program} {tb:Tb} {g:Gd} {o:Oper} {hn:Hint}
theorem Yl8:∀ v:TV,v.Ybp=true→v.roots=[]:=by
 intro v
 induction v with
 |pr a b iha ihb=>intro h;simp only[TV.Ybp,Bool.and_eq_true] at h;simp[TV.roots,iha h.1,ihb h.2]
 |clo f c ih=>intro h;exact ih h
 |cl o t x=>intro _;rfl
 |pt t x=>intro _;rfl
 |nl=>intro _;rfl
 |_=>intro h;cases h
theorem Kp.Yul {s':Src} {n b:Nat} (h:Same w w' b):Kp w w' s' n b:=by
 cases s' with
 |reg cs o=>exact h
 |mem b0 off0=>
  by_cases e:b=b0
  ·simp only[Kp,if_pos e]
   exact⟨fun i _=>h.cell i,fun i=>h.frozen i,fun i hi=>by rw[h.cell];exact hi⟩
  ·simp only[Kp,if_neg e];exact h
theorem Yi.noop {M:Ya} {L:Nat→Src} {ρ:Yb} (v:TV) (u:Value):¬ Yi w M L ρ (.op v) u:=fun h=>h
theorem Yh8 {M2:Ya} {L2:Nat→Src} {ρ2:Yb} {Mf:Ya} {c:TV} (hs:c.shut=true) (h:Ye Mf M2∨c.noSh=true):Conv w' M2 L2 ρ2 Mf c:=by
 intro M' hm L ρ s F hr;rcases h with h | h
 ·exact Yc.shut (fun b hb=>h b (hm b hb)) (fun v u hv hl=>Yi.shut (fun b hb=>h b (hm b hb)) hv hl) hs hr
 ·exact Yc.noSh Yi.noop h hr
theorem Ysj {M2:Ya} {L2:Nat→Src} {ρ2:Yb} {Mf:Ya} {c:TV} (hs:c.Ycu=true) (h:Ye Mf M2∨c.noSh=true):Conv w' M2 L2 ρ2 Mf c:=by
 intro M' hm L ρ s F hr;rcases h with h | h
 ·exact Yc.Ycu (fun b hb=>h b (hm b hb)) (fun v u hv hl=>Yi.shut (fun b hb=>h b (hm b hb)) hv hl) hs hr
 ·exact Yc.noSh Yi.noop h hr
theorem Ymx {M2:Ya} {L2:Nat→Src} {ρ2:Yb} {Mf:Ya} {c:TV} (hs:c.shut=true) (h:Ye Mf M2∨c.noSh=true):Yst w' M2 L2 ρ2 Mf c:=by
 cases c with
 |op v=>exact Yh8 (c:=v) hs h
 |cl o t x=>exact Yh8 (c:=.cl o t x) hs h
 |pr x y=>exact Yh8 (c:=.pr x y) hs h
 |_=>exact Yh8 hs h
theorem Yid:∀ (p:Path) {tv:TV} {s s1:Src} {q:Path},nav w tv s (p++q)=some s1→∃ s',nav w tv s p=some s':=by
 intro p
 induction p with
 |nil=>intro tv s s1 q _;exact⟨s,Yf _ _ _⟩
 |cons a p ih=>
  intro tv s s1 q h
  cases tv with
  |pr x y=>cases a<;>simp only[List.cons_append,nav] at h ⊢<;>first | exact ih h | cases h
  |cl o t x=>
   cases t with
   |pair t1 t2=>cases a<;>simp only[List.cons_append,nav] at h ⊢<;>first | exact ih h | cases h
   |sl e=>
    cases a with
    |el i=>
     simp only[List.cons_append,nav] at h ⊢
     split at h
     ·rename_i hi
      rw[if_pos hi]
      split at h
      ·exact ih h
      ·cases h
     ·cases h
    |f1=>simp[nav] at h
    |f2=>simp[nav] at h
   |arr n e=>
    cases a with
    |el i=>
     simp only[List.cons_append,nav] at h ⊢
     split at h
     ·rename_i hi;rw[if_pos hi];exact ih h
     ·cases h
    |f1=>simp[nav] at h
    |f2=>simp[nav] at h
   |_=>cases a<;>simp[nav] at h
  |rw o e xs i v=>
   cases a with
   |el j=>
    simp only[List.cons_append,nav] at h ⊢
    split at h
    ·rename_i hj
     rw[if_pos hj]
     split at h
     ·split at h
      ·exact ih h
      ·exact ih h
     ·cases h
    ·cases h
   |f1=>simp[nav] at h
   |f2=>simp[nav] at h
  |_=>cases a<;>simp[nav] at h
theorem Yfc:∀ {two:Bool} {p q:Path},Yd5 two p=some q→p=q++[if two then .f2 else .f1]
 |two,[],q,h=>by cases h
 |two,[.f1],q,h=>by cases two<;>cases h;rfl
 |two,[.f2],q,h=>by cases two<;>cases h;rfl
 |two,[.el i],q,h=>by simp[Yd5] at h
 |two,x::y::p,q,h=>by
  have h:(match Yd5 two (y::p) with | some q=>some (x::q) | none=>none)=some q:=by
   cases x<;>exact h
  cases hq:Yd5 two (y::p) with
  |none=>rw[hq] at h;cases h
  |some q'=>rw[hq] at h;cases h;rw[Yfc hq];rfl
theorem Ysg {M:Ya}:∀ (v:TV) {r:Nat} {p:Path} {s:Src} {F:Ya},Yde v=some (r,p)→Yc w M (Yi w M C.L S.root) v s F→∃ R s',S.root r=some R∧nav w R.tv (C.L r) p=some s':=by
 intro v
 induction v with
 |seg r' q=>
  intro r p s F h hv;simp only[Yde,Option.some.injEq,Prod.mk.injEq] at h;obtain⟨rfl,rfl⟩:=h;obtain⟨u,hu,R,s1,o1,e1,xs1,k1,k2,_⟩:=hv
  exact⟨R,s1,k1,k2⟩
 |pr x y ihx ihy=>
  intro r p s F h hv;obtain⟨F1,F2,r1,r2,_⟩:=hv;simp only[Yde] at h
  cases hx:Yde x with
  |some rp=>
   obtain⟨r',p'⟩:=rp;rw[hx] at h;simp only at h
   cases hq:Yd5 false p' with
   |none=>rw[hq] at h;cases h
   |some q=>
    rw[hq] at h;simp only[Option.some.injEq,Prod.mk.injEq] at h;obtain⟨rfl,rfl⟩:=h;obtain⟨R,s1,k1,k2⟩:=ihx hx r1;rw[Yfc hq] at k2;obtain⟨s',k3⟩:=Yid q k2
    exact⟨R,s',k1,k3⟩
  |none=>
   rw[hx] at h;simp only at h
   cases hy:Yde y with
   |none=>rw[hy] at h;cases h
   |some rp=>
    obtain⟨r',p'⟩:=rp;rw[hy] at h;simp only at h
    cases hq:Yd5 true p' with
    |none=>rw[hq] at h;cases h
    |some q=>
     rw[hq] at h;simp only[Option.some.injEq,Prod.mk.injEq] at h;obtain⟨rfl,rfl⟩:=h;obtain⟨R,s1,k1,k2⟩:=ihy hy r2;rw[Yfc hq] at k2;obtain⟨s',k3⟩:=Yid q k2
     exact⟨R,s',k1,k3⟩
 |_=>intro r p s F h;cases h
theorem Yoc (I:Inv Z S C a w) {v c:TV} {u:Value} {t:TypeId} (hv:VOk w (Mt Z C S.root noB) C.L S.root v u) (hl:v.Yhm=true) (h:(Ycx tb t v).run S=some c) {r:Nat} {p:Path} (hp:Yff v=some (r,p)) :
  ∃ R s' old,S.root r=some R∧nav w R.tv (C.L r) p=some s'∧R.tv.get p=some old∧
   ((v=.loc r p∧p.flat=true∧c=.op old∧∃ b off,s'=.mem b off∧u=.pointer (some ⟨b,off,none⟩))∨
    (v=.seg r p∧c=old∧isRow old=true∧s'.cell w 0=some u∧(∃ A n cc,u=.slice A n cc))∨
    (∃ x y,v=.pr x y∧Ycz r p v old=some c)):=by
 cases v with
 |loc r' p'=>
  simp only[Yff] at hp
  split at hp
  ·rename_i hf
   simp only[Option.some.injEq,Prod.mk.injEq] at hp;obtain⟨rfl,rfl⟩:=hp;simp only[Ycx] at h;replace h:=RD.bind_some h;obtain⟨old,h1,h⟩:=h;simp only[RD.run,Option.some.injEq] at h;subst h;obtain⟨R,hR,hg⟩:=Ya2 h1;obtain⟨R',b,off,e1,e2,rfl⟩:=(hv:Yd _ _ _ _ _ _).leaf rfl;rw[hR] at e1;cases e1;exact⟨R,_,old,hR,e2,hg,.inl ⟨rfl,hf,rfl,b,off,rfl,rfl⟩⟩
  ·cases hp
 |seg r' p'=>
  simp only[Yff,Option.some.injEq,Prod.mk.injEq] at hp;obtain⟨rfl,rfl⟩:=hp;simp only[Ycx] at h;replace h:=RD.bind_some h;obtain⟨old,h1,h⟩:=h;obtain⟨R,hR,hg⟩:=Ya2 h1
  split at h
  ·rename_i hrow
   simp only[RD.run,Option.some.injEq] at h;subst h;obtain⟨R',s1,o1,e1,xs1,k1,k2,k3,k4,k5⟩:=(hv:Yd _ _ _ _ _ _).leaf rfl;rw[hR] at k1;cases k1;exact⟨R,s1,old,hR,k2,hg,.inr (.inl ⟨rfl,rfl,hrow,k4,k5⟩)⟩
  ·cases h
 |pr x y=>
  simp only[Yff] at hp;simp only[Ycx] at h
  cases hh:Yde (.pr x y) with
  |none=>rw[hh] at h;cases h
  |some rp=>
   obtain⟨r',p'⟩:=rp;rw[hh] at h hp;simp only at h hp
   split at hp
   ·simp only[Option.some.injEq,Prod.mk.injEq] at hp
    obtain⟨rfl,rfl⟩:=hp;replace h:=RD.bind_some h;obtain⟨old,h1,h⟩:=h;obtain⟨R,hR,hg⟩:=Ya2 h1
    obtain⟨R',s',k1,k2⟩:=Ysg (.pr x y) hh (hv.rep (fun l e=>by cases e)).1
    rw[hR] at k1;cases k1;exact⟨R,s',old,hR,k2,hg,.inr (.inr ⟨x,y,rfl,RD.Ymc h⟩)⟩
   ·cases hp
 |_=>cases hp
end Mf
namespace Mf
open Go
set_option linter.unusedVariables false
set_option linter.unusedSimpArgs false
variable {Z:W0} {S:St} {C:Cx} {w w':World} {a:Act}
variable {P:Program} {tb:Tb} {g:Gd} {o:Oper} {hn:Hint}
theorem Ykg (I:Inv Z S C a w) {ms:List Md} {vs:List TV} {us:Array Value} {cs:List TV} {Mz X:Ya} {rl:Nat} (hargs:Ya9 tb Z S C w ms vs us.toList cs) (hl:(Yas ms vs).length≤1)
  (hMz:∀ b,Mz b→Mt Z C S.root noB b∧∃ R,S.root rl=some R∧Tot C rl R b) (hX:∀ b,X b→Mt Z C S.root noB b) (hrl:rl∉Yea ms vs∨∀ b,¬ Mz b) (hXs:(Yf7 ms vs).all TV.Ybp=true∨∀ b,¬ X b) :
  ∀ i c,i≠Y6 0 ms vs→cs[i]? = some c→(∀ v,c≠.op v)∧∀ M' L ρ,Ye M' (fun b=>Mz b∨X b)→VOk w M' L ρ c (us.getD i undef):=by
 intro i c hne hc
 obtain⟨q1,v,u,q2,q3⟩:=Ya9.others 0 hargs hl i c (by rw[Nat.zero_add];exact hne) hc
 have hu:us.getD i undef=u:=by
  rw[Array.getElem?_toList] at q2;simp[Array.getD_eq_getD_getElem?,q2]
 refine⟨q1,fun M' L ρ hm=>?_⟩;rw[hu];have hsub:Ye M' (Mt Z C S.root noB):=fun b hb=>(hm b hb).elim (fun h=>(hMz b h).1) (hX b);rcases q3 with ⟨r1,r2,r3⟩ | r
 ·refine r2 M' L ρ ⟨hsub,fun r hr R hR b hb hmb=>?_⟩
  rcases hm b hmb with h | h
  ·obtain⟨_,R',e1,e2⟩:=hMz b h
   rcases hrl with hrl | hrl
   ·have hne:r≠rl:=fun e=>hrl (e▸r1 hr)
    exact I.str.dis r rl R R' hne hR e1 b hb e2
   ·exact hrl b h
  ·rcases hXs with hXs | hXs
   ·rw[Yl8 v (r3 hXs)] at hr;cases hr
   ·exact hXs b h
 ·exact r M' L ρ hsub
theorem Ym1 {n:Nat}:∀ {l:List Nat},Ya0 n l=false→n∉l
 |[],_=>by simp
 |m::l,h=>by
  simp only[Ya0,Bool.or_eq_false_iff] at h;intro hm;rcases List.mem_cons.1 hm with e | hm
  ·subst e;simp at h
  ·exact Ym1 h.2 hm
theorem Yn7:∀ (ms:List Md) (vs:List TV) (us:List Value) (cs:List TV) (k:Nat),Ya9 tb Z S C w ms vs us cs→Yas ms vs=[]→Y6 k ms vs=k+us.length:=by
 intro ms
 induction ms with
 |nil=>intro vs us cs k h _;cases vs<;>cases us<;>cases cs<;>first | rfl | exact h.elim
 |cons m ms ih=>
  intro vs us cs k h hn
  cases vs<;>cases us<;>cases cs<;>first | exact h.elim | skip
  rename_i v vs u us c cs;obtain⟨q0,q⟩:=h
  have:Y6 k (m::ms) (v::vs)=Y6 (k+1) ms vs∧Yas ms vs=[]:=by
   cases m with
   |mu=>
    simp only[Yas] at hn
    split at hn
    ·cases hn
    ·rename_i hh;exact⟨by simp only[Y6,hh],hn⟩
   |sh=>exact⟨rfl,hn⟩
   |mv=>exact⟨rfl,hn⟩
  rw[this.1,ih vs us cs (k+1) q this.2];simp;omega
theorem Yqj (I:Inv Z S C a w) {ms:List Md} {vs:List TV} {us:Array Value} {cs:List TV} {f:FuncId} {np:Nat} {out:Out} {p:Patch} (hargs:Ya9 tb Z S C w ms vs us.toList cs) (hl:Yas ms vs=[])
  (hC:Yb5 P f ms cs out) (hnoSh:(Yf7 ms vs).all TV.Ybp=true∨(out.res.all TV.noSh=true∧out.outs.all TV.noSh=true)) (hnp:∀ i,np≤i→Z.P i=none) (hgd:Yw S o.dst) (hd:∀ d,o.dst=some d→d<Z.nt)
  (hp:(Ybf np o.dst [] [] out.res).run S=some p):Calls P f us w fun e w'=>∃ u,e=.returned u∧∃ C',Inv Z (S.ap p) C' (a.put o.dst u) w':=by
 have hlen:=hargs.len;simp only[Array.length_toList] at hlen
 have hMlt:∀ b,Mt Z C S.root noB b→b<w.heap.size:=by
  rintro b (⟨r,R,h1,h2⟩ | h | h)
  ·exact Ydu I h1 h2
  ·exact h.elim
  ·have:=I.str.xb b h;have:=I.str.sz;omega
 have key:∀ X:Ya,(∀ b,X b→Mt Z C S.root noB b)→((Yf7 ms vs).all TV.Ybp=true∨∀ b,¬ X b)→((∀ b,Mt Z C S.root noB b→X b)∨(out.res.all TV.noSh=true))→
   Calls P f us w fun e w'=>∃ u,e=.returned u∧∃ C',Inv Z (S.ap p) C' (a.put o.dst u) w':=by
  intro X hX hXs hcase
  have hix:Y6 0 ms vs=us.size:=by rw[Yn7 ms vs us.toList cs 0 hargs hl];simp
  have hcn:cs[Y6 0 ms vs]? = none:=by rw[hix];exact List.getElem?_eq_none (by omega)
  have hinv:=Yip (w:=w) (Mz:=noB) (X:=X) (Kz:=fun _ _=>False) (cs:=cs) (us:=us) (k:=Y6 0 ms vs) (sk:=.reg [] 0) (Fo:=noB) (by omega)
   (Ykg I (rl:=0) hargs (by rw[hl];exact Nat.zero_le _) (fun b h=>h.elim) hX (.inr (fun b h=>h)) hXs)
   ⟨fun b h=>h.elim,fun tv h=>absurd (hcn▸h) (by simp),fun c h=>absurd (hcn▸h) (by simp)⟩ (fun b hb=>hMlt b (hX b hb)) (fun b i h=>h.elim)
  refine(hC.calls _ _ us (by omega) rfl (fun i hi=>if_neg (by omega)) (fun i hi=>if_pos hi) hinv).mono ?_
  rintro e w' ⟨v,rfl,C2,G2,ρ2,Fr,J,_,hFr,hres,hrsh,_⟩;refine⟨v,rfl,?_⟩
  obtain⟨W,Wg⟩:=I.str.hand (w':=w') (G':=Fr) J.sz (fun b hb _=>J.old b hb (fun h=>h)) (fun b hb=>.inr (by
   obtain⟨h1,_,_,h2⟩:=J.gbnd b (hFr b hb)
   exact⟨h2.resolve_left (fun h=>h),h1⟩)) J.os J.tape J.output
  have hBr:Bk.roots ([],[]) S=S.root:=rfl
  have T:Yi6 Z S C w w' ([],[]) Fr C Dd.none:=⟨by rw[hBr];exact W.lf (fun _ _ h=>.inl h),by rw[hBr];exact Wg,fun _ _ h=>h.elim,fun _ _ h=>h.elim⟩
  refine Yki I T hres (fun _ h=>h) hrsh (fun c hc=>Ymx (List.all_eq_true.1 hrsh c hc) ?_) hnp hgd hd hp;rcases hcase with hcase | hcase
  ·left
   rintro b (⟨r,R,h1,h2⟩ | h | h)
   ·exact .inr (.inr (hcase b (.inl ⟨r,R,h1,h2⟩)))
   ·exact .inr (.inl (hFr b h))
   ·exact .inr (.inr (hcase b (.inr (.inr h))))
  ·exact .inr (List.all_eq_true.1 hcase c hc)
 rcases hnoSh with h | h
 ·exact key (Mt Z C S.root noB) (fun _ h=>h) (.inl h) (.inl fun _ h=>h)
 ·exact key noB (fun _ h=>h.elim) (.inr fun _ h=>h) (.inr h.1)
end Mf
namespace Mf
open Go
set_option linter.unusedVariables false
set_option linter.unusedSimpArgs false
variable {Z:W0} {S:St} {C:Cx} {w w':World} {a:Act}
variable {P:Program} {tb:Tb} {g:Gd} {o:Oper} {hn:Hint}
theorem Yqz:∀ (ms:List Md) (vs os:List TV) {o:TV},Yc6 ms vs os=some o→o∈os:=by
 intro ms
 induction ms with
 |nil=>intro vs os o h;cases vs<;>cases os<;>cases h
 |cons m ms ih=>
  intro vs os o h
  cases vs with
  |nil=>cases m<;>cases os<;>cases h
  |cons v vs=>
   cases m with
   |mu=>
    cases os with
    |nil=>cases h
    |cons x os=>
     simp only[Yc6] at h
     split at h
     ·cases h;exact List.mem_cons_self
     ·exact List.mem_cons_of_mem _ (ih vs os h)
   |sh=>exact ih vs os (by cases os<;>exact h)
   |mv=>exact ih vs os (by cases os<;>exact h)
def Yby (v:TV) (s':Src) (u:Value):Src:=match v with
 |.loc _ _=>s'
 |_=>.reg u.cells.toList 0
theorem Yiu (a b:TV):(Yal a b).isAgg=true∧(Yal a b).plain=true:=by
 rcases Yz a b with e | ⟨_,_,_,_,_,_,_,_,_,e,_⟩<;>rw[e]<;>exact⟨rfl,rfl⟩
theorem Yoo {w:World} {M:Ya} {Lf:TV→Value→Prop}:∀ (p:Path) {tv:TV} {s s':Src} {F:Ya},p.flat=true→nav w tv s p=some s'→Yc w M Lf tv s F→(∃ j,s'=s.sh j)∨False:=by
 intro p
 induction p with
 |nil=>intro tv s s' F _ h _;rw[Yf] at h;cases h;exact .inl ⟨0,(Src.Yda s).symm⟩
 |cons a p ih=>
  intro tv s s' F hf h hr
  cases a with
  |el i=>simp[Path.flat] at hf
  |f1=>
   simp only[Path.flat] at hf
   cases tv with
   |pr x y=>obtain⟨F1,F2,r1,_⟩:=hr;exact ih hf h r1
   |cl o t z=>
    cases t with
    |pair t1 t2=>obtain⟨F1,F2,r1,_⟩:=hr;exact ih (tv:=.cl o t1 z.1) hf h r1
    |_=>simp[nav] at h
   |_=>simp[nav] at h
  |f2=>
   simp only[Path.flat] at hf
   cases tv with
   |pr x y=>
    obtain⟨F1,F2,r1,r2,_⟩:=hr;rcases ih hf h r2 with ⟨j,e⟩ | h
    ·exact .inl ⟨x.size+j,by rw[e,Src.Ygg]⟩
    ·exact h.elim
   |cl o t z=>
    cases t with
    |pair t1 t2=>
     obtain⟨F1,F2,r1,r2,_⟩:=hr;rcases ih (tv:=.cl o t2 z.2) hf h r2 with ⟨j,e⟩ | h
     ·exact .inl ⟨t1.size+j,by rw[e,Src.Ygg]⟩
     ·exact h.elim
    |_=>simp[nav] at h
   |_=>simp[nav] at h
theorem Yp6 (I:Inv Z S C a w) {ms:List Md} {vs:List TV} {us:Array Value} {cs:List TV} {f:FuncId} {np:Nat} {out:Out} {p:Patch} (hargs:Ya9 tb Z S C w ms vs us.toList cs) (hvs:∀ (i:Nat) v u,vs[i]? = some v→us.toList[i]? = some u→VOk w (Mt Z C S.root noB) C.L S.root v u)
  {v:TV} (hl:Yas ms vs=[v]) {r:Nat} {q:Path} (hat:Yff v=some (r,q)) (hrd:r∉Yea ms vs) (hsh:cs.all TV.shut=true)
  (hC:Yb5 P f ms cs out) (hnoSh:(Yf7 ms vs).all TV.Ybp=true∨(out.res.all TV.noSh=true∧out.outs.all TV.noSh=true)) (hnp:∀ i,np≤i→Z.P i=none) (hgd:Yw S o.dst) (hd:∀ d,o.dst=some d→d<Z.nt)
  {B:Bk} (hb:(back .none ms vs out.outs).run S=some B) (hp:(Ybf np o.dst B.1 B.2 out.res).run S=some p):Calls P f us w fun e w'=>∃ u,e=.returned u∧∃ C',Inv Z (S.ap p) C' (a.put o.dst u) w':=by
 have hlen:=hargs.len;simp only[Array.length_toList] at hlen
 have hMlt:∀ b,Mt Z C S.root noB b→b<w.heap.size:=by
  rintro b (⟨r,R,h1,h2⟩ | h | h)
  ·exact Ydu I h1 h2
  ·exact h.elim
  ·have:=I.str.xb b h;have:=I.str.sz;omega
 have hfind:∃ k u c t,Y6 0 ms vs=k∧us.toList[k]? = some u∧vs[k]? = some v∧cs[k]? = some c∧(Ycx tb t v).run S=some c∧
   ∀ (ρ:Yb) os,Ya4 ρ 0 ms os→∃ R,ρ k=some R∧Yc6 ms vs os=some R.out:=by
  have h0:∀ (ms:List Md) (j:Nat),∃ os,Ya4 (fun _=>some ⟨.reg,.dead 0⟩) j ms os:=by
   intro ms
   induction ms with
   |nil=>intro j;exact⟨[],trivial⟩
   |cons m ms ih=>
    intro j;obtain⟨os,h⟩:=ih (j+1)
    cases m with
    |mu=>exact⟨_::os,⟨_,rfl,rfl⟩,h⟩
    |sh=>exact⟨os,by cases os<;>exact h⟩
    |mv=>exact⟨os,by cases os<;>exact h⟩
  obtain⟨os0,ho0⟩:=h0 ms 0;rcases Ya9.Yej 0 hargs _ os0 ho0 with ⟨h,_⟩ | ⟨v',rest,k,h1,h2,u,c,t,R,h3,h4,h5,h6,_,_⟩
  ·rw[hl] at h;cases h
  ·rw[hl] at h1;cases h1
   rw[Nat.zero_add] at h2;refine⟨k,u,c,t,h2,h3,h4,h5,h6,fun ρ os ho=>?_⟩;rcases Ya9.Yej 0 hargs ρ os ho with ⟨h,_⟩ | ⟨v',rest,k',g1,g2,u',c',t',R',_,_,_,_,g7,g8⟩
   ·rw[hl] at h;cases h
   ·rw[Nat.zero_add] at g2 g7
    rw[h2] at g2;subst g2;exact⟨R',g7,g8⟩
 obtain⟨k,u,c,t,hk,hu,hv,hck,hlend,houts⟩:=hfind
 have hvl:v.Yhm=true:=by
  cases v with
  |cl o t x=>cases hat
  |nl=>cases hat
  |_=>rfl
 have hukd:us.getD k undef=u:=by rw[Array.getElem?_toList] at hu;simp[Array.getD_eq_getD_getElem?,hu]
 have hVu:=hvs k v u hv hu;obtain⟨R,s',old,hR,hnav,hget,hform⟩:=Yoc I hVu hvl hlend hat;have hcsh:c.shut=true:=List.all_eq_true.1 hsh c (List.mem_of_getElem? hck)
 obtain⟨oo,n,ks',tv',hoo,hn,hlay,hset,rfl⟩:∃ oo n ks' tv',Yc6 ms vs out.outs=some oo∧Yhq v old oo=some (n,ks')∧n.lay=old.lay∧R.tv.set q n=some tv'∧B=([(r,some ⟨R.k,tv'⟩)],ks'):=by
  unfold back at hb;rw[hl] at hb;simp only[hat] at hb
  cases hoo:Yc6 ms vs out.outs with
  |none=>rw[hoo] at hb;cases hb
  |some oo=>
   rw[hoo] at hb;simp only[RD.run,hR,hget] at hb
   cases hn:Yhq v old oo with
   |none=>rw[hn] at hb;cases hb
   |some nk=>
    obtain⟨n,ks'⟩:=nk;rw[hn] at hb;simp only at hb
    split at hb
    ·split at hb
     ·simp only[RD.run,Option.some.injEq] at hb
      exact⟨oo,n,ks',_,rfl,hn,by assumption,by assumption,by rw[←hb];simp[Yk.none]⟩
     ·cases hb
    ·cases hb
 obtain⟨Fo,Fr,b1,b2,d1,ro,hloc,hly,hput⟩:=I.str.Yxh hR hnav hget hset hlay;have hFo:∀ b,Fo b→b<w.heap.size∧(∀ i,¬ Z.K b i)∧¬ Z.X b∧(Z.M b∨Z.w.heap.size≤b):=fun b hb=>I.str.bnd r R b hR (b1 b hb)
 have hblk:∀ b0 off0,s'=.mem b0 off0→v=.loc r q→Tot C r R b0∧¬ Fo b0:=by
  intro b0 off0 e _;rcases hloc with ⟨j,e',_⟩ | ⟨b3,o3,e',hf⟩
  ·rw[e] at e'
   obtain⟨o',e1,_⟩:=Src.Yar e'.symm
   cases hkk:R.k with
   |reg=>obtain⟨cs,e2⟩:=I.str.reg r R hR hkk;rw[e1] at e2;cases e2
   |mem=>
    obtain⟨b',off',e2,h3,_⟩:=I.str.mem r R hR hkk;rw[e1] at e2;cases e2;exact⟨.inr ⟨hkk,o',e1⟩,fun h=>h3 (b1 _ h)⟩
  ·rw[e] at e';cases e';exact⟨.inl (b2 _ hf),fun h=>d1 _ h hf⟩
 generalize hMz:(fun b=>Fo b∨(v=.loc r q∧∃ off,s'=.mem b off):Ya)=Mz
 have hMzT:∀ b,Mz b→Tot C r R b:=by
  intro b hb;rw[←hMz] at hb;rcases hb with hb | ⟨h1,off,h2⟩
  ·exact .inl (b1 b hb)
  ·exact(hblk b off h2 h1).1
 have hMzM:∀ b,Mz b→Mt Z C S.root noB b:=fun b hb=>.inl ⟨r,R,hR,hMzT b hb⟩;generalize hKz:(fun b i=>v=.loc r q∧∃ off,s'=.mem b off∧(i<off∨off+old.size≤i):Nat→Nat→Prop)=Kz
 have key:∀ X:Ya,(∀ b,X b→Mt Z C S.root noB b∧¬ Mz b)→((Yf7 ms vs).all TV.Ybp=true∨∀ b,¬ X b)→((∀ b,Mt Z C S.root noB b→¬ Mz b→X b)∨(out.res.all TV.noSh=true∧out.outs.all TV.noSh=true))→
   Calls P f us w fun e w'=>∃ u,e=.returned u∧∃ C',Inv Z (S.ap p) C' (a.put o.dst u) w':=by
  intro X hX hXs hcase
  have hroom:∀ b off,s'=.mem b off→Room w b off old.size:=by
   intro b off e
   have hr0:Yeh w (C.L r) R.tv.size:=by
    cases hk:R.k with
    |reg=>obtain⟨x,e⟩:=I.str.reg r R hR hk;rw[e];trivial
    |mem=>obtain⟨b',off',e,_,_,h,_⟩:=I.str.mem r R hR hk;rw[e];exact h
   exact Ylu q (I.str.rep r R hR) (by rw[hnav,e]) hget hset hr0
  have hsubM:∀ M':Ya,Ye M' (fun b=>Mz b∨X b)→Ye M' (Mt Z C S.root noB):=fun M' hm b hb=>(hm b hb).elim (hMzM b) (fun h=>(hX b h).1);have hplainc:(∀ tv,c≠.op tv)→c.plain=true∨True:=fun _=>.inr trivial
  have hinv:=Yip (w:=w) (Mz:=Mz) (X:=X) (Kz:=Kz) (cs:=cs) (us:=us) (k:=Y6 0 ms vs) (sk:=Yby v s' u) (Fo:=Fo) (by omega)
   (Ykg I (rl:=r) hargs (by rw[hl];exact Nat.le_refl _) (fun b hb=>⟨hMzM b hb,R,hR,hMzT b hb⟩) (fun b hb=>(hX b hb).1) (.inl hrd) hXs)
   (by
    rw[hk]
    refine⟨fun b hb=>⟨by rw[←hMz];exact .inl hb,(hFo b hb).1,fun i hi=>?_,fun hx=>(hX b hx).2 (by rw[←hMz];exact .inl hb)⟩,fun tv h=>?_,fun c' h hop=>?_⟩
    ·rw[←hKz] at hi;obtain⟨h1,off,h2,_⟩:=hi;exact(hblk b off h2 h1).2 hb
    ·rw[hck] at h;cases h
     rcases hform with ⟨rfl,hf,e1,b,off,e2,e3⟩ | ⟨rfl,rfl,hrow,_⟩ | ⟨x,y,rfl,hH⟩
     ·cases e1
      obtain⟨k1,k2⟩:=hblk b off e2 rfl
      refine⟨b,off,e2,by rw[hukd];exact e3,k2,Ydu I hR k1,hroom b off e2,by rw[←hMz];exact .inr ⟨rfl,off,e2⟩,fun i hi=>?_,fun hx=>(hX b hx).2 (by rw[←hMz];exact .inr ⟨rfl,off,e2⟩),fun M' L ρ hm=>?_⟩
      ·rw[←hKz];rintro⟨_,off',e4,h5⟩;rw[e2] at e4;cases e4;omega
      ·exact Yc.shut (hsubM M' hm) (fun v u hv hl=>Yi.shut (hsubM M' hm) hv hl) hcsh ro
     ·obtain⟨_,_,_,e,_⟩:=Yfx hrow;cases e
     ·exact absurd rfl ((Ykf (Lf:=Yi w (Mt Z C S.root noB) C.L S.root) hR _ hH hnav hget ro (hVu.rep (fun l e=>by cases e)).1).2.2.2 tv)
    ·rw[hck] at h;cases h
     rcases hform with ⟨rfl,hf,rfl,_⟩ | ⟨rfl,rfl,hrow,hcell,A,nn,cc,hu'⟩ | ⟨x,y,rfl,hH⟩
     ·exact absurd rfl (hop _)
     ·obtain⟨ow,e,xs,rfl,how⟩:=Yfx hrow
      rw[hukd]
      refine⟨rfl,by rw[hu'];rfl,by rw[hu'];exact⟨fun h=>(by cases h),fun⟨_,h⟩=>(by cases h)⟩,rfl,fun M' L ρ hm=>?_⟩
      have h1:Rep w (Mt Z C S.root noB) (.sl e) ow xs (.reg u.cells.toList 0) Fo:=Rep.mv ro (fun i hi=>by
       have:i=0:=by simp[Ty.size] at hi;exact hi
       subst this;rw[hcell,hu'];rfl)
      exact Yc.mono (Lf:=Yi w M' L ρ) (tv:=.cl ow (.sl e) xs) h1 (hsubM M' hm)
     ·obtain⟨r1,r2,_,_⟩:=Ykf (Lf:=Yi w (Mt Z C S.root noB) C.L S.root) hR _ hH hnav hget ro (hVu.rep (fun l e=>by cases e)).1
      have hv2:=hVu.val (fun l e=>by cases e)
      rw[hukd]
      have hagg:c.isAgg=true∧c.plain=true:=by
       simp only[Ycz] at hH
       split at hH
       ·split at hH
        ·cases hH
         exact Yiu _ _
        ·cases hH
       ·cases hH
      refine⟨rfl,by rw[r2];exact hv2.2.1,by rw[hagg.1];have:=hv2.2.2;simpa [TV.isAgg] using this,hagg.2,fun M' L ρ hm=>?_⟩
      exact Yc.shut (hsubM M' hm) (fun v u hv hl=>Yi.shut (hsubM M' hm) hv (hl.elim id id)) hcsh r1)
   (fun b hb=>hMlt b (hX b hb).1) (fun b i hb=>by rw[←hKz] at hb;obtain⟨h1,off,h2,_⟩:=hb;exact Ydu I hR (hblk b off h2 h1).1)
  refine(hC.calls _ _ us (by omega) rfl (fun i hi=>if_neg (by omega)) (fun i hi=>if_pos hi) hinv).mono ?_
  rintro e w' ⟨vr,rfl,C2,G2,ρ2,Fres,J,hO,hFr,hres,hrsh,hosh⟩;refine⟨vr,rfl,?_⟩;obtain⟨R2,hR2,hlo⟩:=houts ρ2 out.outs hO;rw[hoo] at hlo;have hoo':oo=R2.out:=Option.some.inj hlo
  have hkz:k<us.size:=by
   rcases Nat.lt_or_ge k us.size with h | h
   ·exact h
   ·rw[Array.getElem?_toList,Array.getElem?_eq_none h] at hu;cases hu
  have hL2:C2.L k=Yby v s' u:=(J.plc k R2 hR2).1 _ (by show(if k<us.size then _ else _)=_;rw[if_pos hkz,if_pos hk.symm])
  have hsame:∀ b,b<w.heap.size→¬ Mz b→Same w w' b:=fun b hb hm=>J.old b hb hm
  have hFn:∀ b,C2.F k b→(noB b∨Fo b∨w.heap.size≤b)∧b<w'.heap.size:=by
   intro b hb;obtain⟨h1,_,_,h2⟩:=J.bnd k R2 b hR2 hb;refine⟨.inr ?_,h1⟩;rcases h2 with h2 | h2
   ·left
    have h2:Mz b:=h2;rw[←hMz] at h2;rcases h2 with h2 | ⟨e1,off,e2⟩
    ·exact h2
    ·exfalso
     subst e1
     cases hkk:R2.k with
     |reg=>obtain⟨cs',e3⟩:=J.reg k R2 hR2 hkk;rw[hL2] at e3;simp only[Yby] at e3;rw[e2] at e3;cases e3
     |mem=>obtain⟨b',off',e3,h4,_⟩:=J.mem k R2 hR2 hkk;rw[hL2] at e3;simp only[Yby] at e3;rw[e2] at e3;cases e3;exact h4 hb
   ·exact .inr h2
  have hG2:∀ b,G2 b→(noB b∨Fo b∨w.heap.size≤b)∧b<w'.heap.size:=by
   intro b hb;obtain⟨h1,_,_,h2⟩:=J.gbnd b hb;refine⟨.inr ?_,h1⟩;rcases h2 with h2 | h2
   ·left
    have h2:Mz b:=h2;rw[←hMz] at h2;rcases h2 with h2 | ⟨e1,off,e2⟩
    ·exact h2
    ·exfalso
     subst e1
     cases hkk:R2.k with
     |reg=>obtain⟨cs',e3⟩:=J.reg k R2 hR2 hkk;rw[hL2] at e3;simp only[Yby] at e3;rw[e2] at e3;cases e3
     |mem=>exact J.gdis k R2 hR2 b (.inr ⟨hkk,off,by rw[hL2];exact e2⟩) hb
   ·exact .inr h2
  have hRsz:v=.loc r q→R2.tv.size=old.size:=by
   rintro rfl
   cases hkk:R2.k with
   |reg=>
    exfalso;rcases hform with ⟨_,_,_,b,off,e2,_⟩ | ⟨e,_⟩ | ⟨_,_,e,_⟩
    ·obtain⟨cs',e3⟩:=J.reg k R2 hR2 hkk;rw[hL2] at e3;simp only[Yby] at e3;rw[e2] at e3;cases e3
    ·cases e
    ·cases e
   |mem=>
    rw[hoo'] at hn;simp only[Root.out,hkk,Yhq,Option.some.injEq,Prod.mk.injEq] at hn;rw[hn.1,TV.Yak hlay]
  have hwr:Wr2 w w' s' old.size (fun b=>noB b∨Fo b):=by
   refine⟨J.sz,fun b hb hnf=>?_⟩;have hnf:¬ Fo b:=fun h=>hnf (.inr h)
   by_cases hm:Mz b
   ·rw[←hMz] at hm
    rcases hm with hm | ⟨e1,off,e2⟩
    ·exact absurd hm hnf
    ·have hK:∀ i,(i<off∨off+old.size≤i)→Kz b i:=fun i hi=>by rw[←hKz];exact⟨e1,off,e2,hi⟩
     rw[e2];simp only[Kp,if_true];have hout:∀ i,(i<off∨off+old.size≤i)→w'.cell? ⟨b,i,none⟩=w.cell? ⟨b,i,none⟩:=fun i hi=>J.kp b i (hK i hi);refine⟨hout,fun i=>J.kf b (off+old.size) i (hK _ (.inr (Nat.le_refl _))),fun i hi=>?_⟩
     by_cases hin:i<off∨off+old.size≤i
     ·rw[hout i hin];exact hi
     ·have hL2':C2.L k=.mem b off:=by rw[hL2,e1];exact e2
      have hkk:R2.k=.mem:=by
       cases hkk:R2.k with
       |reg=>obtain⟨cs',e3⟩:=J.reg k R2 hR2 hkk;rw[hL2'] at e3;cases e3
       |mem=>rfl
      obtain⟨b',off',e3,_,_,h4,_⟩:=J.mem k R2 hR2 hkk;rw[hL2'] at e3;cases e3
      have:=(h4 (i-off) (by rw[hRsz e1];omega)).1
      rwa [show off+(i-off)=i by omega] at this
   ·exact Kp.Yul (hsame b hb hm)
  generalize hCf:C.Ydf r (fun b=>Fr b∨C2.F k b)=Cf
  have hBr:Bk.roots ([(r,some ⟨R.k,tv'⟩)],ks') S=Yb.set S.root r (some ⟨R.k,tv'⟩):=by
   funext i
   unfold Bk.roots Yb.set
   by_cases e:i=r
   ·subst e;rw[Yl,if_pos rfl]
   ·rw[Yu e,if_neg e];rfl
  generalize hMf:Mt Z Cf (Yb.set S.root r (some ⟨R.k,tv'⟩)) Fres=Mf
  have hMfM:∀ b,Mf b→Mt Z C S.root noB b∨w.heap.size≤b:=by
   intro b hb;rw[←hMf] at hb;rcases hb with ⟨i,R',h1,h2⟩ | h | h
   ·by_cases e:i=r
    ·subst e;rw[Yb.Yo] at h1;cases h1
     rcases h2 with h2 | ⟨hk2,off,h2⟩
     ·rw[←hCf] at h2;simp only[Cx.Ydf,if_true] at h2
      rcases h2 with h2 | h2
      ·exact .inl (.inl ⟨i,R,hR,.inl (b2 b h2)⟩)
      ·rcases(hFn b h2).1 with h | h | h
       ·exact h.elim
       ·exact .inl (.inl ⟨i,R,hR,.inl (b1 b h)⟩)
       ·exact .inr h
     ·rw[←hCf] at h2;exact .inl (.inl ⟨i,R,hR,.inr ⟨hk2,off,h2⟩⟩)
    ·rw[Yb.Ym _ _ e] at h1
     refine .inl (.inl ⟨i,R',h1,?_⟩);unfold Tot at h2;rw[←hCf] at h2;simp only[Cx.Ydf,if_neg e] at h2;exact h2
   ·rcases(hG2 b (hFr b h)).1 with h | h | h
    ·exact h.elim
    ·exact .inl (.inl ⟨r,R,hR,.inl (b1 b h)⟩)
    ·exact .inr h
   ·exact .inl (.inr (.inr h))
  have hMfM2:(∀ b,Mt Z C S.root noB b→¬ Mz b→X b)→Ye Mf (Mt ⟨w,Mz,Kz,X,fun i=>if i<us.size then some (if i=Y6 0 ms vs then Yby v s' u else .reg (us.getD i undef).cells.toList 0) else none,us.size⟩ C2 ρ2 G2):=by
   intro hcase b hb
   have viaX:Mt Z C S.root noB b→¬ Mz b→Mt ⟨w,Mz,Kz,X,fun i=>if i<us.size then some (if i=Y6 0 ms vs then Yby v s' u else .reg (us.getD i undef).cells.toList 0) else none,us.size⟩ C2 ρ2 G2 b:=fun h1 h2=>.inr (.inr (hcase b h1 h2))
   rw[←hMf] at hb;rcases hb with ⟨i,R',h1,h2⟩ | h | h
   ·by_cases e:i=r
    ·subst e;rw[Yb.Yo] at h1;cases h1
     rcases h2 with h2 | ⟨hk2,off,h2⟩
     ·rw[←hCf] at h2;simp only[Cx.Ydf,if_true] at h2
      rcases h2 with h2 | h2
      ·refine viaX (.inl ⟨i,R,hR,.inl (b2 b h2)⟩) (fun hm=>?_)
       rw[←hMz] at hm;rcases hm with hm | ⟨e1,off,e2⟩
       ·exact d1 b hm h2
       ·
        rcases hform with ⟨_,hf,_,b',off',e3,_⟩ | ⟨e,_⟩ | ⟨_,_,e,_⟩
        ·rcases hloc with ⟨j,e',_⟩ | ⟨b3,o3,e',hf3⟩
         ·rw[e2] at e'
          obtain⟨o',e5,_⟩:=Src.Yar e'.symm
          cases hkk:R.k with
          |reg=>obtain⟨cs,e6⟩:=I.str.reg i R hR hkk;rw[e5] at e6;cases e6
          |mem=>obtain⟨b'',off'',e6,h7,_⟩:=I.str.mem i R hR hkk;rw[e5] at e6;cases e6;exact h7 (b2 _ h2)
         ·exact(Yoo (Lf:=Yi w (Mt Z C S.root noB) C.L S.root) q hf hnav (I.str.rep i R hR)).elim (fun⟨j,h⟩=>by
           rw[e2] at h;obtain⟨o',e5,_⟩:=Src.Yar h.symm
           cases hkk:R.k with
           |reg=>obtain⟨cs,e6⟩:=I.str.reg i R hR hkk;rw[e5] at e6;cases e6
           |mem=>obtain⟨b'',off'',e6,h7,_⟩:=I.str.mem i R hR hkk;rw[e5] at e6;cases e6;exact h7 (b2 _ h2)) id
        ·rw[e1] at e;cases e
        ·rw[e1] at e;cases e
      ·exact .inl ⟨k,R2,hR2,.inl h2⟩
     ·rw[←hCf] at h2
      have h2:C.L i=.mem b off:=h2
      by_cases hm:Mz b
      ·have hm':=hm
       rw[←hMz] at hm';rcases hm' with hm' | ⟨e1,off',e2⟩
       ·exact absurd (b1 b hm') (by obtain⟨b'',off'',e6,h7,_⟩:=I.str.mem i R hR hk2;rw[h2] at e6;cases e6;exact h7)
       ·refine .inl ⟨k,R2,hR2,.inr ⟨?_,off',by rw[hL2,e1];exact e2⟩⟩
        cases hkk:R2.k with
        |reg=>obtain⟨cs',e3⟩:=J.reg k R2 hR2 hkk;rw[hL2,e1] at e3;rw[show Yby (TV.loc i q) s' u=s' from rfl,e2] at e3;cases e3
        |mem=>rfl
      ·exact viaX (.inl ⟨i,R,hR,.inr ⟨hk2,off,h2⟩⟩) hm
    ·rw[Yb.Ym _ _ e] at h1
     have h2:Tot C i R' b:=by unfold Tot at h2;rw[←hCf] at h2;simp only[Cx.Ydf,if_neg e] at h2;exact h2
     exact viaX (.inl ⟨i,R',h1,h2⟩) (fun hm=>I.str.dis i r R' R e h1 hR b h2 (hMzT b hm))
   ·exact .inr (.inl (hFr b h))
   ·exact viaX (.inr (.inr h)) (fun hm=>by
     rcases hMzT b hm with h' | ⟨hk2,off,h'⟩
     ·exact(I.str.bnd r R b hR h').2.2.1 h
     ·obtain⟨b'',off'',e6,_,_,_,_,h7,_⟩:=I.str.mem r R hR hk2;rw[h'] at e6;cases e6;exact h7 h)
  have hgoes:Goes w w' (Mt Z C S.root noB) Mf noB:=⟨J.sz,fun b hb=>hb.elim,fun b h1 h2=>⟨hsame b h2 (fun hm=>h1 (hMzM b hm)),fun hf=>(hMfM b hf).elim h1 (fun h=>by omega)⟩⟩
  have hoomem:oo∈out.outs:=Yqz ms vs out.outs hoo
  have hoosh:R2.tv.Ycu=true:=by
   have h1:=List.all_eq_true.1 hosh oo hoomem;rw[hoo'] at h1;unfold Root.out at h1
   split at h1
   ·exact TV.Ymp h1
   ·exact h1
  have hoonsh:out.outs.all TV.noSh=true→R2.tv.noSh=true:=by
   intro h;have h1:=List.all_eq_true.1 h oo hoomem;rw[hoo'] at h1;unfold Root.out at h1
   split at h1<;>exact h1
  have hq2:Yc w' Mf (fun v u=>Yi w (Mt Z C S.root noB) C.L S.root v u∨Q0 Z S w' ([(r,some ⟨R.k,tv'⟩)],ks') Fres Cf v u) R2.tv (C2.L k) (C2.F k):=by
   have h1:=Ysj (w':=w') (Mf:=Mf) hoosh (hcase.imp hMfM2 (fun h=>hoonsh h.2)) Mf (fun _ h=>h) Cf.L (Yb.set S.root r (some ⟨R.k,tv'⟩)) _ _ (J.rep k R2 hR2)
   exact Yc.Ycu (fun _ h=>h) (fun v u hv hl=>.inr ⟨hv,by rw[hBr,hMf];exact hl⟩) hoosh h1
  have hcells:(∀ r' q',v≠.loc r' q')→∀ i,s'.cell w' i=s'.cell w i:=by
   intro hv i
   cases hs':s' with
   |reg cs off=>rfl
   |mem b off=>
    have hb:b<w.heap.size∧¬ Fo b:=by
     rcases hloc with ⟨j,e',_⟩ | ⟨b3,o3,e',hf⟩
     ·rw[hs'] at e'
      obtain⟨o',e1,_⟩:=Src.Yar e'.symm
      cases hkk:R.k with
      |reg=>obtain⟨cs,e2⟩:=I.str.reg r R hR hkk;rw[e1] at e2;cases e2
      |mem=>
       obtain⟨b',off',e2,h3,h4,_⟩:=I.str.mem r R hR hkk;rw[e1] at e2;cases e2;exact⟨h4,fun h=>h3 (b1 _ h)⟩
     ·rw[hs'] at e';cases e';exact⟨(I.str.bnd r R _ hR (b2 _ hf)).1,fun h=>d1 _ h hf⟩
    exact Same.cell (hsame b hb.1 (fun hm=>by
     rw[←hMz] at hm;rcases hm with hm | ⟨e,_⟩
     ·exact hb.2 hm
     ·exact hv _ _ e)) _
  have hN:Yc w' Mf (fun v u=>Yi w (Mt Z C S.root noB) C.L S.root v u∨Q0 Z S w' ([(r,some ⟨R.k,tv'⟩)],ks') Fres Cf v u) n s' (C2.F k)∧Yfk w w' old n s' r q ks':=by
   rcases hform with ⟨rfl,hf,e1,b,off,e2,e3⟩ | ⟨rfl,rfl,hrow,hcell,A,nn,cc,hu'⟩ | ⟨x,y,rfl,hH⟩
   ·rw[hoo'] at hn
    cases hkk:R2.k with
    |reg=>obtain⟨cs',e3⟩:=J.reg k R2 hR2 hkk;rw[hL2] at e3;simp only[Yby] at e3;rw[e2] at e3;cases e3
    |mem=>
     simp only[Root.out,hkk,Yhq,Option.some.injEq,Prod.mk.injEq] at hn;obtain⟨rfl,rfl⟩:=hn
     refine⟨by rw[hL2] at hq2;exact hq2,fun t b off hd hn=>?_,fun t s1 hd=>absurd ⟨_,List.mem_singleton.2 rfl,rfl,Path.Yh0 q t⟩ hd⟩
     have hft:Path.flat t=true:=by
      cases hh:Path.flat t with
      |true=>rfl
      |false=>exact absurd ⟨_,List.mem_singleton.2 rfl,rfl,by show Path.far _ _=true;rw[Path.Yh3,hh];rfl⟩ hd
     exact Yk4 t hft hlay.symm hn
   ·have hcl:=hcells (by simp)
    obtain⟨ow,e,xs,rfl,how⟩:=Yfx hrow
    have hbk:(∃ ys o2,oo=.cl o2 (.sl e) ys∧n=oo∧ks'=[(r,some (q++[.el 0]))])∨(n=.dead 1∧ks'=[(r,some (q++[.el 0])),(r,some q)]):=by
     cases oo with
     |dead m=>
      simp only[Yhq] at hn
      cases hbh:Ydc (.seg r q) (.cl ow (.sl e) xs) (.dead m) with
      |none=>rw[hbh] at hn;cases hn
      |some n'=>
       rw[hbh] at hn;simp only[Option.some.injEq,Prod.mk.injEq] at hn;obtain⟨rfl,rfl⟩:=hn
       by_cases hm1:m=1
       ·subst hm1
        cases hbh;exact .inr ⟨rfl,rfl⟩
       ·exfalso
        match m,hm1,hbh with
        |0,_,h=>cases h
        |k+2,_,h=>cases h
     |cl o2 t2 ys=>
      simp only[Yhq] at hn
      cases hbh:Ydc (.seg r q) (.cl ow (.sl e) xs) (.cl o2 t2 ys) with
      |none=>rw[hbh] at hn;cases hn
      |some n'=>
       rw[hbh] at hn;simp only[Option.some.injEq,Prod.mk.injEq] at hn;obtain⟨rfl,rfl⟩:=hn
       cases t2 with
       |sl e2=>
        simp only[Ydc] at hbh
        split at hbh
        ·have he:e2=e:=by assumption
         subst he;cases hbh;exact .inl ⟨ys,o2,rfl,rfl,rfl⟩
        ·cases hbh
       |_=>cases hbh
     |_=>cases hn
    rcases hbk with ⟨ys,o2,rfl,rfl,rfl⟩ | ⟨rfl,rfl⟩
    case inr=>exact⟨trivial,Yk0.mono (fun k hk=>List.mem_cons_of_mem _ hk)⟩
    have htv:R2.tv=.cl o2 (.sl e) ys∧C2.L k=.reg u.cells.toList 0:=by
     refine⟨?_,hL2⟩;unfold Root.out at hoo'
     split at hoo'
     ·cases hoo'
     ·exact hoo'.symm
    rw[htv.1,htv.2] at hq2
    have hlen:ys.length=xs.length:=by
     obtain⟨A1,c1,q1,_⟩:=(ro:Rep _ _ (.sl _) _ _ _ _);obtain⟨A2,c2,q2,_⟩:=(hq2:Rep _ _ (.sl _) _ _ _ _);rw[hcell,hu'] at q1;rw[hu'] at q2;have q2:some (Value.slice A nn cc)=some (Value.slice A2 ys.length c2):=q2;rw[q1] at q2;have:=Option.some.inj q2
     injection this with _ h _
     exact h.symm
    refine⟨Rep.mv (t:=.sl e) hq2 (fun i hi=>?_),Yns (hcl 0) hlen⟩
    have:i=0:=by simp[Ty.size] at hi;exact hi
    subst this;rw[hcl 0,hcell,hu'];rfl
   ·have hcl:=hcells (by simp)
    have hbk:∃ n',Ydc (.pr x y) old R2.tv=some n'∧n=n'∧ks'=Ygz (.pr x y)++Ye5 (.pr x y) R2.tv∧C2.L k=.reg u.cells.toList 0:=by
     cases hkk:R2.k with
     |mem=>
      rw[hoo'] at hn;simp only[Root.out,hkk,Yhq,Ydc,TV.fst,TV.snd] at hn
      split at hn
      ·rename_i h;split at h
       ·rename_i h1 _;cases h1
       ·cases h
      ·cases hn
     |reg=>
      rw[hoo'] at hn;simp only[Root.out,hkk] at hn
      have hn':(match Ydc (.pr x y) old R2.tv with | some n=>some (n,Ygz (.pr x y)++Ye5 (.pr x y) R2.tv) | none=>none)=some (n,ks'):=by
       cases hx:R2.tv<;>rw[hx] at hn<;>exact hn
      cases hbh:Ydc (.pr x y) old R2.tv with
      |none=>rw[hbh] at hn';cases hn'
      |some n'=>
       rw[hbh] at hn';simp only[Option.some.injEq,Prod.mk.injEq] at hn';exact⟨n',rfl,hn'.1.symm,hn'.2.symm,hL2⟩
    obtain⟨n',hbh,rfl,rfl,hLk⟩:=hbk;rw[hLk] at hq2
    obtain⟨k1,_,_,_,_,k2⟩:=Yp9 (Lf:=Yi w (Mt Z C S.root noB) C.L S.root) hR hgoes _ hH hbh hnav hget ro (hVu.rep (fun l e=>by cases e)).1 hq2 (fun i _=>hcl i)
    exact⟨k1,k2⟩
  obtain⟨W,Wg⟩:=hput (fun v u=>Yi w (Mt Z C S.root noB) C.L S.root v u∨Q0 Z S w' ([(r,some ⟨R.k,tv'⟩)],ks') Fres Cf v u) (fun _ _ h=>.inl h) w' (C2.F k) Fres (ddK ks') hwr (by rw[hCf,hMf];exact hN.1) hFn
   (fun b hb=>⟨hG2 b (hFr b hb),fun hf=>J.gdis k R2 hR2 b (.inl hf) (hFr b hb)⟩) J.os J.tape J.output (fun t b off hd hn=>hN.2.l t b off hd hn) (fun t s1 hd hn o e xs hg=>hN.2.s t s1 hd hn o e xs hg)
  rw[hCf] at W Wg
  have T:Yi6 Z S C w w' ([(r,some ⟨R.k,tv'⟩)],ks') Fres Cf (ddK ks'):=⟨by rw[hBr];exact W,by rw[hBr,show Cf.L=C.L by rw[←hCf];rfl];exact Wg,fun _ _ h=>h,fun _ _ h=>h⟩
  refine Yki I T hres (fun _ h=>h) hrsh (fun c hc=>Ymx (List.all_eq_true.1 hrsh c hc) ?_) hnp hgd hd hp;rw[hBr,hMf];exact hcase.imp hMfM2 (fun h=>List.all_eq_true.1 h.1 c hc)
 rcases hnoSh with h | h
 ·exact key (fun b=>Mt Z C S.root noB b∧¬ Mz b) (fun b h=>h) (.inl h) (.inl fun b h1 h2=>⟨h1,h2⟩)
 ·exact key noB (fun _ h=>h.elim) (.inr fun _ h=>h) (.inr h)
end Mf
namespace Mf
open Go
set_option linter.unusedVariables false
set_option linter.unusedSimpArgs false
variable {Z:W0} {S:St} {C:Cx} {w w':World} {a:Act}
variable {P:Program} {tb:Tb} {g:Gd} {o:Oper} {hn:Hint}
theorem Yoi {np:Nat} {Mo:FuncId→Option (List Md)} {cd cd':Option (Bool×Nat×Bool)} {f:Operand} {args:List Operand} {ats:List TypeId} {f':FuncId} {cs:List TV} {post:Out→RD Patch}
  (h:(Yo7 tb np Mo cd g o f args ats).run S=some (.call cd' f' cs post)) :
  cd'=cd∧∃ c vs ms,(opv g f).run S=some (.clo f' c)∧(Yp8 g args).run S=some vs∧Mo f'=some ms∧∃ K,(Yfl tb .none ats ms (vs++unchain c)).run S=some (cs,K)∧Ynt K ms (vs++unchain c)=true∧cs.all TV.shut=true∧
   ∀ out p,(post out).run S=some p→((Yf7 ms (vs++unchain c)).all TV.Ybp=true∨(out.res.all TV.noSh=true∧out.outs.all TV.noSh=true))∧∃ B,(back K ms (vs++unchain c) out.outs).run S=some B∧(Ybf np o.dst B.1 B.2 out.res).run S=some p:=by
 simp only[Yo7] at h;replace h:=RD.bind_some h;obtain⟨vf,h1,h⟩:=h
 cases vf with
 |clo f0 c=>
  simp only at h;replace h:=RD.bind_some h;obtain⟨vs,h2,h⟩:=h
  split at h
  ·rename_i ms hms
   replace h:=RD.bind_some h;obtain⟨⟨cs',K⟩,h3,h⟩:=h;simp only at h
   split at h
   ·cases h
   ·rename_i hok
    simp only[Bool.and_eq_true] at hok;cases h;refine⟨rfl,c,vs,ms,h1,h2,hms,K,h3,hok.1,hok.2,fun out p hp=>?_⟩
    dsimp only at hp
    split at hp
    ·rename_i hh
     replace hp:=RD.bind_some hp;obtain⟨B,h4,hp⟩:=hp
     exact⟨by simpa [Bool.or_eq_true,Bool.and_eq_true] using hh,B,h4,hp⟩
    ·cases hp
  ·cases h
 |_=>cases h
theorem Ynz (I:Inv Z S C a w) (hg:Yax a g) {np:Nat} {Mo:FuncId→Option (List Md)} {cd cd':Option (Bool×Nat×Bool)} {f:Operand} {args:Array Operand} {ats:Array TypeId} (ho:o.op=.call ⟨.value f,args,ats⟩)
  (hnp:∀ i,np≤i→Z.P i=none) (hgd:Yw S o.dst) (hd:∀ d,o.dst=some d→d<Z.nt) {f':FuncId} {cs:List TV} {post:Out→RD Patch}
  (h:(Yo7 tb np Mo cd g o f args.toList ats.toList).run S=some (.call cd' f' cs post)) {ms:List Md} (hms:Mo f'=some ms) {out:Out} {p:Patch} (hC:Yb5 P f' ms cs out) (hp:(post out).run S=some p) :
  ∃ us,(execOp a.eval o).run P w=.ok (.enter f' us) w∧Calls P f' us w fun e w'=>∃ u,e=.returned u∧∃ C',Inv Z (S.ap p) C' (a.put o.dst u) w':=by
 obtain⟨_,c,vs,ms',h1,h2,hms',K,h3,hok,hsh,hpost⟩:=Yoi h;rw[hms] at hms';cases hms';obtain⟨hnoSh,B,hb,hp'⟩:=hpost out p hp;obtain⟨caps,hf,hcaps⟩:Yi w (Mt Z C S.root noB) C.L S.root (.clo f' c) (a.eval f):=((Yg I hg h1):Yd _ _ _ _ _ _).leaf rfl;obtain⟨v1,v2⟩:=Yod I hg args.toList h2;obtain⟨c1,c2⟩:=Yjw c hcaps;obtain⟨fn,f1,f2,f3⟩:=hC.there
 have hvs:∀ (i:Nat) v u,(vs++unchain c)[i]? = some v→(args.map a.eval++caps).toList[i]? = some u→VOk w (Mt Z C S.root noB) C.L S.root v u:=by
  intro i v u e1 e2;rw[Array.toList_append,Array.toList_map] at e2;rcases Nat.lt_or_ge i vs.length with hlt | hge
  ·rw[List.getElem?_append_left hlt] at e1
   rw[List.getElem?_append_left (by rw[List.length_map,←v1];exact hlt),List.getElem?_map] at e2
   cases hx:args.toList[i]? with
   |none=>rw[hx] at e2;cases e2
   |some x=>rw[hx] at e2;cases e2;exact v2 i v x e1 hx
  ·rw[List.getElem?_append_right hge] at e1
   rw[List.getElem?_append_right (by rw[List.length_map,←v1];exact hge),List.length_map,←v1] at e2
   exact c2 _ v u e1 e2
 have hlen:(vs++unchain c).length=(args.map a.eval++caps).toList.length:=by
  rw[List.length_append,Array.toList_append,List.length_append,Array.toList_map,List.length_map,v1,c1]
 obtain⟨rfl,hargs⟩:=Ylv I ms ats.toList (vs++unchain c) hlen hvs h3;refine⟨args.map a.eval++caps,?_,?_⟩
 ·have g2:fn.name≠"runtime.NumGoroutine":=by simpa using f2
  have g3:fn.body≠none:=by
   intro e;rw[e] at f3;cases f3
  simp[execOp,ho,resolve,Deferred.ofValue,hf,invoke,callFunc,f1,g2,g3]
 ·unfold Ynt at hok
  split at hok
  ·rename_i hl
   have hb':B=([],[]):=by
    unfold back at hb;rw[hl] at hb;simp only[RD.run,Option.some.injEq] at hb;exact hb.symm
   subst hb';exact Yqj I hargs hl hC hnoSh hnp hgd hd hp'
  ·rename_i v hl
   split at hok
   ·rename_i r q hat
    simp only[Bool.and_eq_true,Bool.not_eq_true'] at hok;exact Yp6 I hargs hvs hl hat (Ym1 hok.2.2) hsh hC hnoSh hnp hgd hd hb hp'
   ·cases hok
  ·cases hok
end Mf
namespace Mf
open Go
set_option linter.unusedVariables false
set_option linter.unusedSimpArgs false
variable {Z:W0} {S T:St} {C:Cx} {w w':World} {a:Act}
variable {P:Program} {tb:Tb} {g:Gd} {o:Oper} {np nt:Nat}
theorem Rep.anyM {w:World} {M M':Ya}:∀ {t:Ty} {x:t.El} {s:Src} {F:Ya},Rep w M t .deep x s F→Rep w M' t .deep x s F:=by
 intro t
 induction t with
 |int k=>intro x s F h;exact h
 |bool=>intro x s F h;exact h
 |str=>intro x s F h;exact h
 |unit=>intro x s F h;trivial
 |pair a b iha ihb=>
  intro x s F h;obtain⟨F1,F2,h1,h2,h3⟩:=h
  exact⟨F1,F2,iha h1,ihb h2,h3⟩
 |sl e ih=>
  intro x s F h;obtain⟨A,c,h1,h2,h3⟩:=h;refine⟨A,c,h1,h2,fun hc=>?_⟩;obtain⟨b,off,Fs,e1,e2,e3,e4,e5⟩:=h3 hc
  exact⟨b,off,Fs,e1,e2,e3,fun i hi=>⟨ih (e4 i hi).1,(e4 i hi).2⟩,e5⟩
 |arr n e ih=>
  intro x s F h;obtain⟨h1,Fs,h2,h3⟩:=h;exact⟨h1,Fs,fun i hi=>⟨ih (h2 i hi).1,(h2 i hi).2⟩,h3⟩
theorem Yrh (I:Inv Z S C a w) {d r t:Nat} {f:FuncId} {e e':Ty} {xs:List e.El} {ys:List e'.El} {p:Patch} {args:Array Operand} {ats:Array TypeId}
  (ho:o.op=.call ⟨.value (.func f),args,ats⟩) (hargs:args.toList=[.tmp t]) (hdst:o.dst=some d)
  (hnp:∀ i,np≤i→Z.P i=none) (hgd:Yw S (some d)) (hd:d<Z.nt)
  (ht:lk t S.tm=some (.seg r [])) (hR:S.root r=some ⟨.reg,.cl .deep (.sl e) xs⟩)
  (hC:Yb5 P f [.mv] [.cl .deep (.sl e) xs] ⟨[.cl .deep (.sl e') ys],[]⟩)
  (hp:(Yam np d (.seg d []) ⟨.reg,.cl .deep (.sl e') ys⟩ ⟨[(r,none)],[(r,none)]⟩).run S=some p) :
  ∃ us,(execOp a.eval o).run P w=.ok (.enter f us) w∧Calls P f us w fun e w'=>∃ u,e=.returned u∧∃ C',Inv Z (S.ap p) C' (a.put o.dst u) w':=by
 obtain⟨fn,f1,f2,f3⟩:=hC.there
 have hargs':args=#[.tmp t]:=by rw[←Array.toArray_toList (xs:=args),hargs]
 subst hargs';obtain⟨cs,hcs⟩:=I.str.reg r _ hR rfl;have hrep:Rep w _ (.sl e) .deep xs (C.L r) (C.F r):=I.str.rep r _ hR
 have hval:∃ A n c,a.tmps.getD t undef=.slice A n c∧(C.L r).cell w 0=some (.slice A n c):=by
  have hv:Yd _ _ _ _ (.seg r []) (a.tmps.getD t undef):=I.tm t (.seg r []) ht;obtain⟨u,e1,R,s,oo,e0,zs,q1,q2,q3,q4,A,n,c,q5⟩:=hv.1;rw[hR] at q1;cases q1;rw[Yf] at q2;cases q2
  have hagg:¬ ∃ cs,a.tmps.getD t undef=.agg cs:=fun h=>by have:=hv.2.2.2 h;cases this
  have hone:=Yb6 hagg;simp only[Src.cell,hone] at e1
  have:a.tmps.getD t undef=u:=by simpa using e1
  exact⟨A,n,c,by rw[this,q5],by rw[q4,q5]⟩
 obtain⟨A,n,c,hu,hcell⟩:=hval;refine⟨#[a.tmps.getD t undef],?_,?_⟩
 ·have g2:fn.name≠"runtime.NumGoroutine":=by simpa using f2
  have g3:fn.body≠none:=by intro e;rw[e] at f3;cases f3
  simp[execOp,ho,resolve,Deferred.ofValue,invoke,callFunc,f1,g2,g3,Act.eval]
 let Z':W0:=⟨w,C.F r,fun _ _=>False,noB,fun i=>if i=0 then some (C.L r) else none,1⟩
 let C':Cx:=⟨fun _=>C.L r,fun _=>C.F r⟩
 have hR0:(Yh [.cl .deep (.sl e) xs]).root 0=some ⟨.reg,.cl .deep (.sl e) xs⟩:=rfl
 have hR':∀ i R,(Yh [.cl .deep (.sl e) xs]).root i=some R→i=0∧R=⟨.reg,.cl .deep (.sl e) xs⟩:=by
  intro i R h
  by_cases e0:i=0
  ·subst e0;rw[hR0] at h;refine And.intro rfl ?_;cases h;rfl
  ·exfalso
   rw[Yaa,List.getElem?_eq_none (by simp;omega)] at h;cases h
 have hbnd:=fun b=>I.str.bnd r _ b hR
 have IZ:Inv Z' (Yh [.cl .deep (.sl e) xs]) C' ⟨#[a.tmps.getD t undef],[]⟩ Z'.w:=by
  refine⟨?_,?_,rfl,rfl⟩
  ·refine {rep:=?_,reg:=?_,mem:=?_,bnd:=?_,gbnd:=fun _ h=>h.elim,dis:=?_,gdis:=fun _ _ _ _ _ h=>h,plc:=?_,sz:=Nat.le_refl _,old:=fun _ _ _=>rfl,kp:=fun _ _ h=>h.elim,kf:=fun _ _ _ h=>h.elim,xb:=fun _ h=>h.elim,kb:=fun _ _ h=>h.elim,os:=rfl,tape:=rfl,output:=rfl }
   ·intro i R h
    obtain⟨rfl,rfl⟩:=hR' i R h;exact Rep.anyM hrep
   ·intro i R h _;exact⟨cs,hcs⟩
   ·intro i R h hk;obtain⟨rfl,rfl⟩:=hR' i R h;cases hk
   ·intro i R b h hb
    exact⟨(hbnd b hb).1,fun _ h=>h.elim,fun h=>h.elim,.inl hb⟩
   ·intro i j R1 R2 hne h1 h2
    exact absurd ((hR' i R1 h1).1.trans (hR' j R2 h2).1.symm) hne
   ·intro i R h
    obtain⟨rfl,rfl⟩:=hR' i R h
    exact⟨fun s' h=>by
      have:some (C.L r)=some s':=h
      cases this;rfl,fun hk=>by cases hk⟩
  ·intro i v hv
   by_cases e0:i=0
   ·subst e0
    have:v=.seg 0 []:=by
     have h1:some (TV.seg 0 [])=some v:=hv;cases h1;rfl
    subst this;show Yd _ _ _ _ _ _;refine Yd.Yah (v:=.seg 0 []) ⟨_,_,.deep,e,xs,hR0,Yf _ _ _,TV.get_nil _,?_,A,n,c,hu⟩;show(C.L r).cell w 0=some (a.tmps.getD t undef);rw[hcell,hu]
   ·exfalso
    rw[Yj2,List.getElem?_eq_none (by simp;omega)] at hv;cases hv
 have hcall:=hC.calls Z' C' #[a.tmps.getD t undef] rfl rfl (fun i hi=>by
   show(if i=0 then some (C.L r) else none)=none
   rw[if_neg (by intro e0;subst e0;simp at hi)]) (fun i hi=>by
   show(if i=0 then some (C.L r) else none)=some (C.L r)
   have h1:i<1:=hi
   rw[if_pos (by omega)]) IZ
 refine hcall.mono fun ee w' hh=>?_;obtain⟨v,rfl,C2,G2,ρ2,Fr,hS,hO,hFr,hres,_⟩:=hh;refine⟨v,rfl,?_⟩;obtain⟨hrv,hsz,hagg⟩:Ygu w' (Mt Z' C2 ρ2 G2) C2.L ρ2 (.cl .deep (.sl e') ys) v Fr:=hres
 have hone:v.cells=#[v]:=Yb6 fun h=>by have:=hagg.2 h;cases this
 have hrv':Rep w' (Mt Z' C2 ρ2 G2) (.sl e') .deep ys (.reg [v] 0) Fr:=by
  have h1:Rep w' (Mt Z' C2 ρ2 G2) (.sl e') .deep ys (.reg v.cells.toList 0) Fr:=hrv;rw[hone] at h1;exact h1
 obtain⟨A2,c2,hv1,hv2,_⟩:=id hrv'
 have hve:v=.slice A2 ys.length c2:=by
  have:some v=some (.slice A2 ys.length c2):=hv1;cases this;rfl
 obtain⟨Tk,hT⟩:=Yy.drop I hR;rw[hdst];refine Yer I Tk (Fn:=Fr) (G1:=Fr) hp hnp hgd hd ⟨hS.sz,fun b h1 h2=>hS.old b h1 h2,fun b hb=>?_,hS.os,hS.tape,hS.output⟩ hve (fun M _=>Rep.anyM hrv') (fun _ h=>h);obtain⟨k1,_,_,k2⟩:=hS.gbnd b (hFr b hb);rcases k2 with h | h
 ·exact .inl h
 ·exact .inr ⟨h,k1⟩
end Mf
namespace Mf
open Go
section
variable (tb:Tb)
inductive Rec | tm (i:Nat) (v:TV) | rt (r:Nat) (x:Option Root) | ck (r:Nat) (c:Chk) (b:Bool)
def RD.Ybj {α:Type} (S:St):RD α→List Rec→Option (α×List Rec)
 |.ret a,l=>some (a,l)
 |.fail,_=>none
 |.ck r c f,l=>match S.root r with | some R=>(f (c.run R.tv)).Ybj S (.ck r c (c.run R.tv)::l) | none=>none
 |.tm i f,l=>match lk i S.tm with | some v=>(f v).Ybj S (.tm i v::l) | none=>none
 |.rt r f,l=>match S.root r with | some R=>(f R).Ybj S (.rt r (some R)::l) | none=>none
 |.rt? r f,l=>match S.root r with | some R=>(f true).Ybj S (.rt r (some R)::l) | none=>(f false).Ybj S (.rt r none::l)
def St.is (S:St) (t:Nat) (b:Bool):St:={S with tm:=(t,.kb b)::S.tm }
def Yr5:Option Nat→Patch
 |some d=>⟨[(d,.dead 1)],[],[]⟩
 |none=>⟨[],[],[]⟩
def Patch.is (p:Patch) (t:Nat) (b:Bool):Patch:={p with tm:=(t,.kb b)::p.tm }
inductive GR | no | do_ (g:Gd) | skip | sym (b:Bool) (t:Nat) (w:Bool) (g:Gd)
def gcl:Nat→Nat→Bool→RD GR
 |0,_,_=>.fail
 |n+1,t,w=>.tm t fun v=>match v with
  |.kb b=>match b,w with
   |true,true=>.ret (.do_ [(t,w)])
   |false,false=>.ret (.do_ [(t,w)])
   |_,_=>.ret .skip
  |.cl _ .bool b=>.ret (.sym (match w with | true=>b | false=>!b) t w [(t,w)])
  |.gd t2 w2 (.cl _ .bool b)=>(gcl n t2 w2).bind fun r=>match r with
   |.sym b2 _ _ l=>.ret (.sym (b2&&(match w with | true=>b | false=>!b)) t w ((t,w)::l))
   |_=>.fail
  |_=>.fail
def Ybh (all:List Oper) (o:Oper):Option Nat:=match o.guard with
 |none=>none
 |some (j,_)=>match all[j]? with
  |some o'=>o'.dst
  |none=>none
def Yjc (all:List Oper) (o:Oper):RD GR:=match o.guard with
 |none=>.ret .no
 |some (_,w)=>match Ybh all o with
  |some t=>gcl 4 t w
  |none=>.fail
def Ypn (t:Nat):List Oper→Bool
 |[]=>true
 |o::l=>(match o.dst with | some d=>!Nat.beq d t | none=>true)&&Ypn t l
def Yv3:Option Nat→List Oper→Bool
 |some t,l=>Ypn t l
 |none,_=>true
def Yma (gt:Option Nat):List (Nat×TV)→Bool
 |[]=>true
 |(_,.gd t _ _)::l=>(match gt with | some u=>Nat.beq t u | none=>false)&&Yma gt l
 |_::l=>Yma gt l
def Ye7 {α:Type} (i:Nat):List (Nat×α)→Bool
 |[]=>false
 |(j,_)::l=>Nat.beq i j || Ye7 i l
def Yku:Option Nat→List (Nat×TV)→Bool
 |some d,l=>Ye7 d l
 |none,_=>true
def Yk3 (G:Gam) (f:FuncId):Option (List Md):=match G f with | some fs=>some fs.modes | none=>none
def Ydy (o:Oper):Option (Operand×List Operand×List TypeId):=match o.op with
 |.call {callee:=.value f,args,argTypes }=>some (f,args.toList,argTypes.toList)
 |_=>none
structure MvA where
 r:Nat
 e:Ty
 xs:List e.El
def Yvb (t:Nat):RD MvA:=.tm t fun v=>match v with
 |.seg r []=>.rt r fun R=>match R with
  |⟨.reg,.cl .deep (.sl e) xs⟩=>.ret ⟨r,e,xs⟩
  |_=>.fail
 |_=>.fail
def Yrc (np d r:Nat) (out:Out):RD Patch:=match out with
 |⟨[.cl .deep (.sl e) ys],[]⟩=>Yam np d (.seg d []) ⟨.reg,.cl .deep (.sl e) ys⟩ ⟨[(r,none)],[(r,none)]⟩
 |_=>.fail
def Yv5 (G:Gam) (o:Oper) (x:Operand×List Operand×List TypeId):Option (FuncId×Nat×Nat×FS):=match x.1,x.2.1,o.dst with
 |.func f,[.tmp t],some d=>match G f with
  |some ⟨[.mv],F⟩=>some (f,t,d,⟨[.mv],F⟩)
  |_=>none
 |_,_,_=>none
def Yls (np:Nat) (G:Gam) (g:Gd) (o:Oper) {R:Type} (x:Operand×List Operand×List TypeId) (S:St) (l:List Rec) (k:Patch→List Rec→Option R):Option R:=
 match (Yo7 tb np (Yk3 G) none g o x.1 x.2.1 x.2.2).Ybj S l with
 |some (.call _ f cs post,l)=>match G f with
  |some fs=>fs.F cs R fun out=>match (post out).Ybj S l with
   |some (p,l)=>k p l
   |none=>none
  |none=>none
 |_=>none
def Yob (np:Nat) (G:Gam) (g:Gd) (o:Oper) {R:Type} (x:Operand×List Operand×List TypeId) (S:St) (l:List Rec) (k:Patch→List Rec→Option R):Option R:=
 match Yv5 G o x with
 |some (_,t,d,fs)=>match (Yvb t).Ybj S l with
  |some (m,l)=>fs.F [.cl .deep (.sl m.e) m.xs] R fun out=>match (Yrc np d m.r out).Ybj S l with
   |some (p,l)=>k p l
   |none=>none
  |none=>none
 |none=>Yls tb np G g o x S l k
def Ymb {R:Type} (m:RD Yc1) (S:St) (l:List Rec) (k:Patch→List Rec→Option R):Option R:=match m.Ybj S l with
 |some (.step (some b) p,l)=>cond b (k p l) none
 |some (.step none p,l)=>k p l
 |_=>none
def Ysu (h:Hint) (np:Nat) (G:Gam) (g:Gd) (o:Oper) {R:Type} (S:St) (l:List Rec) (k:Patch→List Rec→Option R):Option R:=
 match Ydy o with
 |some x=>Yob tb np G g o x S l k
 |none=>Ymb (doR tb h np g o) S l k
def Yua (b:Bool) (t:Nat) (w:Bool) (g:Gd) (o:Oper) {R:Type} (S:St) (l:List Rec) (k:Patch→List Rec→Option R):Option R:=
 match Ydy o with
 |some _=>none
 |none=>Ymb (Yhj tb (some (b,t,w)) g o) S l k
def Yur (h:Hint) (np:Nat) (G:Gam) (all:List Oper) (o:Oper) {R:Type} (S:St) (k:Patch→List Rec→Option R):Option R:=
 match (Yjc all o).Ybj S [] with
 |some (.no,l)=>Ysu tb h np G [] o S l k
 |some (.do_ g,l)=>Ysu tb h np G g o S l k
 |some (.skip,l)=>k (Yr5 o.dst) l
 |some (.sym b t w g,l)=>Yua tb b t w g o S l k
 |none=>none
structure Rc where
 l:List Rec
 p:Patch
def hangs (all:List Oper) (t:Nat):List Oper→Bool
 |[]=>false
 |o::l=>(match Ydy o with
  |some _=>(match Ybh all o with | some u=>Nat.beq t u | none=>false)
  |none=>false) || hangs all t l
def Ynx (all l:List Oper) (d:Option Nat) (p:Patch):Option (Nat×Bool):=match d with
 |some t=>match hangs all t l with
  |true=>match lk t p.tm with
   |some (.cl _ .bool e)=>some (t,e)
   |_=>none
  |false=>none
 |none=>none
def Yhc (h:Hint) (np:Nat) (G:Gam) (all:List Oper) {R:Type}:List Oper→St→List Rc→(St→List Rc→Option R)→Option R
 |[],S,T,k=>k S T
 |o::l,S,T,k=>match Yv3 (Ybh all o) (o::l) with
  |true=>Yur tb h np G all o S fun p r=>match Yma (Ybh all o) p.tm&&Yku o.dst p.tm with
   |true=>match Ynx all l o.dst p with
    |none=>Yhc h np G all l (S.ap p) (⟨r,p⟩::T) k
    |some (t,e)=>cond e (Yhc h np G all l (S.ap (p.is t true)) (⟨r,p.is t true⟩::T) k) (Yhc h np G all l (S.ap (p.is t false)) (⟨r,p.is t false⟩::T) k)
   |false=>none
  |false=>none
def TV.keeps (r:Nat) (p:Option Path):TV→Bool
 |.pr a b=>a.keeps r p&&b.keeps r p
 |.loc r' q=>!(Nat.beq r r'&&(match p with | some p=>Path.far p q | none=>true))
 |.seg r' q=>!(Nat.beq r r'&&(match p with | some p=>Path.pre p q | none=>true))
 |.sub r' q _ _=>!(Nat.beq r r'&&(match p with | some p=>Path.pre p q | none=>true))
 |.clo _ c=>c.live&&c.keeps r p
 |.tup l=>l.keeps r p
 |.gd _ _ v=>v.keeps r p
 |_=>true
def TV.Ye3:TV→Bool
 |.pr a b=>a.Ye3&&b.Ye3
 |.tup l=>l.Ye3
 |.gd _ _ v=>v.Ye3
 |.dead _=>false
 |_=>true
def Ycf:Ks→TV→Bool
 |[],_=>true
 |(r,p)::ks,v=>v.keeps r p&&Ycf ks v
def Rec.keeps (ks:Ks):Rec→Bool
 |.tm _ v=>Ycf ks v
 |.rt _ (some R)=>Ycf ks R.tv
 |.rt _ none=>true
 |.ck _ _ _=>true
def Rec.Ye3:Rec→Bool
 |.tm _ v=>v.Ye3
 |.rt _ (some R)=>R.tv.Ye3
 |.rt _ none=>true
 |.ck _ _ _=>true
def Yln (ks:Ks):List (Nat×TV)→Bool
 |[]=>true
 |(_,v)::l=>Ycf ks v&&Yln ks l
def Ygx (ks:Ks):List (Nat×Option Root)→Bool
 |[]=>true
 |(_,some R)::l=>Ycf ks R.tv&&Ygx ks l
 |(_,none)::l=>Ygx ks l
def Ygm {α:Type} (a:List (Nat×α)):List (Nat×α)→Bool
 |[]=>true
 |(j,_)::l=>!Ye7 j a&&Ygm a l
def Rec.off (p:Patch):Rec→Bool
 |.tm i _=>!Ye7 i p.tm
 |.rt r _=>!Ye7 r p.rt
 |.ck r _ _=>!Ye7 r p.rt
def Rec.off2 (p:Patch):Rec→Bool
 |.ck r c b=>match lk r p.rt with
  |some (some R)=>match c.run R.tv,b with
   |true,true=>true
   |false,false=>true
   |_,_=>false
  |some none=>false
  |none=>true
 |x=>x.off p
def Yf8 (p:Patch):List Rec→Bool
 |[]=>true
 |x::l=>x.off2 p&&Yf8 p l
def Yh6 (p:Patch):List Rec→Bool
 |[]=>true
 |x::l=>x.off p&&Yh6 p l
def Yf5 (ks:Ks):List Rec→Bool
 |[]=>true
 |x::l=>x.keeps ks&&Yf5 ks l
def Yf3:List Rec→Bool
 |[]=>true
 |x::l=>x.Ye3&&Yf3 l
def clear (ks:Ks) (b:Rc):Bool:=match ks with
 |[]=>true
 |ks=>Yf5 ks b.l&&(Yf3 b.l&&(Yln ks b.p.tm&&Ygx ks b.p.rt))
def apart (a b:Rc):Bool:=
 Yh6 a.p b.l&&(Yf8 b.p a.l&&(Ygm a.p.tm b.p.tm&&(Ygm a.p.rt b.p.rt&&(clear a.p.ks b&&clear b.p.ks a))))
def Ysk (bj:Nat) (t:Rc):Nat→List Rc→Bool
 |_,[]=>true
 |n,u::l=>(apart u t || bj.testBit (n-1))&&Ysk bj t (n-1) l
def Ypg (acc:List (Nat×Nat)):List Edge→Nat→Nat
 |[],s=>s
 |e::l,s=>Ypg acc l (match Region.binds .any e with
  |true=>s ||| (2 ^ e.on ||| (match lk e.on acc with | some m=>m | none=>0))
  |false=>s)
def Ys1:Nat→List Oper→List (Nat×Nat)→List (Nat×Nat)
 |_,[],acc=>acc
 |n,o::l,acc=>Ys1 (n+1) l ((n,Ypg acc o.after.toList 0)::acc)
def Ymv (bs:List (Nat×Nat)):Nat→List Rc→Bool
 |_,[]=>true
 |n,t::l=>Ysk (match lk (n-1) bs with | some m=>m | none=>0) t (n-1) l&&Ymv bs (n-1) l
def Yeq:Nat→List Oper→Bool
 |_,[]=>true
 |n,o::l=>edges n o.after.toList&&Yeq (n+1) l
 where
 edges (n:Nat):List Edge→Bool
  |[]=>true
  |e::l=>(!Region.binds .any e || Nat.blt e.on n)&&edges n l
def Yio:List (Nat×TV)→List (Nat×TV)
 |[]=>[]
 |(i,.gd _ _ _)::l=>(i,.dead 1)::Yio l
 |x::l=>x::Yio l
def guarded:List Oper→Bool
 |[]=>false
 |o::l=>o.guard.isSome || guarded l
def Yk9 (nt:Nat):List Oper→Bool
 |[]=>true
 |o::l=>(match o.dst with | some d=>Nat.blt d nt | none=>true)&&Yk9 nt l
def Yfh (ops:List Oper) (S:St):St:=match guarded ops with
 |true=>{S with tm:=Yio S.tm }
 |false=>S
def Ysc (h:Hint) (nt np:Nat) (G:Gam) (draw:Bool) {R:Type} (ops:Array Oper) (S:St) (k:St→Option R):Option R:=
 match Yk9 nt ops.toList with
 |false=>none
 |true=>Yhc tb h np G ops.toList ops.toList S [] fun S' T=>
  match (match draw with | true=>Yeq 0 ops.toList&&Ymv (Ys1 0 ops.toList []) ops.toList.length T | false=>true) with
   |true=>k (Yfh ops.toList S')
   |false=>none
def ev (hn:Hint) (nt np:Nat) (G:Gam) (L:Lam) {R:Type}:Code→Hi→St→(Ex→St→Option R)→Option R
 |_,.fr l,S,k=>match L l with | some f=>f S R k | none=>none
 |.skip,_,S,k=>k .nm S
 |.region _ ops draw,_,S,k=>Ysc tb hn nt np G draw ops S fun S'=>k .nm S'
 |.seq a b,h,S,k=>ev hn nt np G L a h.l S fun e S'=>match e with
  |.nm=>ev hn nt np G L b h.r S' k
  |e=>k e S'
 |.cond c a b,h,S,k=>match (opv [] c).run S with
  |some (.cl _ .bool t)=>match c with
   |.tmp u=>cond t (ev hn nt np G L a h.l (S.is u true) k) (ev hn nt np G L b h.r (S.is u false) k)
   |_=>none
  |_=>none
 |.block id c,h,S,k=>ev hn nt np G L c h.i S fun e S'=>match e with
  |.ex j=>match Nat.beq j id with | true=>k .nm S' | false=>k (.ex j) S'
  |e=>k e S'
 |.exit id,_,S,k=>k (.ex id) S
 |.ret,_,S,k=>k .rt S
 |_,_,_,_=>none
end
end Mf
