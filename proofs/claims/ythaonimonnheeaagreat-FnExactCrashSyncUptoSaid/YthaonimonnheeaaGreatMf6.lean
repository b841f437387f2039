import Derived.Test.YthaonimonnheeaaGreatMf5
import Derived.Below
import Derived.Calls
import Derived.ChangeSame
import Derived.ChangeShapes
import Derived.DataReads
import Derived.Deep.AppendSrc
import Derived.Deep.Draws
import Derived.Deep.MidRow
import Derived.Deep.Upon
import Derived.KernelRfl
import Derived.Laws.AppendOwn
import Derived.Laws.BytesString
import Derived.Laws.Entries
import Derived.Laws.IdiomCopy
import Derived.Laws.IdiomStrings
import Derived.Laws.Strings
import Derived.Laws.StructEq
import Derived.Laws.Tables
import Derived.Lay
import Derived.Lib.SliceRun
import Derived.Orders
import Derived.Sort.Grow
import Derived.Sort.Row
import GoSem.Core.Region
import GoSem.Core.View
set_option linter.unusedVariables false
set_option linter.unusedSimpArgs false
namespace Mf
open Go
set_option linter.unusedVariables false
set_option linter.unusedSimpArgs false
def Rec.ok (S:St):Rec→Prop
 |.tm i v=>lk i S.tm=some v
 |.rt r x=>S.root r=x
 |.ck r c b=>∃ R,S.root r=some R∧c.run R.tv=b
def Fits (S:St) (l:List Rec):Prop:=∀ x∈l,x.ok S
theorem Y0 {α:Type} {S:St}:∀ (m:RD α) {l l':List Rec} {x:α},m.Ybj S l=some (x,l')→∀ e∈l,e∈l'
 |.ret a,l,l',x,h,e,he=>by cases h;exact he
 |.fail,l,l',x,h,e,he=>by cases h
 |.ck r c f,l,l',x,h,e,he=>by
  simp only[RD.Ybj] at h
  split at h
  ·exact Y0 (f _) h e (List.mem_cons_of_mem _ he)
  ·cases h
 |.tm i f,l,l',x,h,e,he=>by
  simp only[RD.Ybj] at h
  split at h
  ·exact Y0 (f _) h e (List.mem_cons_of_mem _ he)
  ·cases h
 |.rt r f,l,l',x,h,e,he=>by
  simp only[RD.Ybj] at h
  split at h
  ·exact Y0 (f _) h e (List.mem_cons_of_mem _ he)
  ·cases h
 |.rt? r f,l,l',x,h,e,he=>by
  simp only[RD.Ybj] at h
  split at h
  ·exact Y0 (f _) h e (List.mem_cons_of_mem _ he)
  ·exact Y0 (f _) h e (List.mem_cons_of_mem _ he)
theorem Yav {α:Type} {S T:St}:∀ (m:RD α) {l l':List Rec} {x:α},m.Ybj S l=some (x,l')→Fits T l'→m.run T=some x
 |.ret a,l,l',x,h,ht=>by cases h;rfl
 |.fail,l,l',x,h,ht=>by cases h
 |.ck r c f,l,l',x,h,ht=>by
  simp only[RD.Ybj] at h
  split at h
  ·rename_i R hR
   obtain⟨R1,h1,h2⟩:∃ R1,T.root r=some R1∧c.run R1.tv=c.run R.tv:=ht _ (Y0 (f _) h _ (List.mem_cons_self));simp only[RD.run,h1,h2];exact Yav (f _) h ht
  ·cases h
 |.tm i f,l,l',x,h,ht=>by
  simp only[RD.Ybj] at h
  split at h
  ·rename_i v hv
   have h1:lk i T.tm=some v:=ht _ (Y0 (f _) h _ (List.mem_cons_self));simp only[RD.run,h1];exact Yav (f _) h ht
  ·cases h
 |.rt r f,l,l',x,h,ht=>by
  simp only[RD.Ybj] at h
  split at h
  ·rename_i v hv
   have h1:T.root r=some v:=ht _ (Y0 (f _) h _ (List.mem_cons_self));simp only[RD.run,h1];exact Yav (f _) h ht
  ·cases h
 |.rt? r f,l,l',x,h,ht=>by
  simp only[RD.Ybj] at h
  split at h
  ·rename_i v hv
   have h1:T.root r=some v:=ht _ (Y0 (f _) h _ (List.mem_cons_self));simp only[RD.run,h1];exact Yav (f _) h ht
  ·have h1:T.root r=none:=ht _ (Y0 (f _) h _ (List.mem_cons_self))
   simp only[RD.run,h1];exact Yav (f _) h ht
theorem Yao {α:Type} {S:St}:∀ (m:RD α) {l l':List Rec} {x:α},m.Ybj S l=some (x,l')→Fits S l→Fits S l'
 |.ret a,l,l',x,h,hl=>by cases h;exact hl
 |.fail,l,l',x,h,hl=>by cases h
 |.ck r c f,l,l',x,h,hl=>by
  simp only[RD.Ybj] at h
  split at h
  ·rename_i R hR
   refine Yao (f _) h (fun e he=>?_);rcases List.mem_cons.1 he with rfl | he
   ·exact⟨R,hR,rfl⟩
   ·exact hl e he
  ·cases h
 |.tm i f,l,l',x,h,hl=>by
  simp only[RD.Ybj] at h
  split at h
  ·rename_i v hv
   refine Yao (f _) h (fun e he=>?_);rcases List.mem_cons.1 he with rfl | he
   ·exact hv
   ·exact hl e he
  ·cases h
 |.rt r f,l,l',x,h,hl=>by
  simp only[RD.Ybj] at h
  split at h
  ·rename_i v hv
   refine Yao (f _) h (fun e he=>?_);rcases List.mem_cons.1 he with rfl | he
   ·exact hv
   ·exact hl e he
  ·cases h
 |.rt? r f,l,l',x,h,hl=>by
  simp only[RD.Ybj] at h
  split at h
  ·rename_i v hv
   refine Yao (f _) h (fun e he=>?_);rcases List.mem_cons.1 he with rfl | he
   ·exact hv
   ·exact hl e he
  ·rename_i hv
   refine Yao (f _) h (fun e he=>?_);rcases List.mem_cons.1 he with rfl | he
   ·exact hv
   ·exact hl e he
theorem Fits.nil (S:St):Fits S []:=fun _ h=>by cases h
structure Eqv (S T:St):Prop where
 tm:∀ i,lk i S.tm=lk i T.tm
 rt:∀ r,S.root r=T.root r
theorem Eqv.refl (S:St):Eqv S S:=⟨fun _=>rfl,fun _=>rfl⟩
theorem Eqv.symm {S T:St} (h:Eqv S T):Eqv T S:=⟨fun i=>(h.tm i).symm,fun r=>(h.rt r).symm⟩
theorem Eqv.trans {S T U:St} (h:Eqv S T) (g:Eqv T U):Eqv S U:=⟨fun i=>(h.tm i).trans (g.tm i),fun r=>(h.rt r).trans (g.rt r)⟩
theorem Eqv.fits {S T:St} (h:Eqv S T) {l:List Rec} (hl:Fits S l):Fits T l:=fun x hx=>by
 have:=hl x hx
 cases x with
 |tm i v=>exact(h.tm i).symm.trans this
 |rt r v=>exact(h.rt r).symm.trans this
 |ck r c b=>obtain⟨R,h1,h2⟩:=this;exact⟨R,(h.rt r).symm.trans h1,h2⟩
theorem Eqv.inv {Z:W0} {S T:St} {C:Cx} {a:Act} {w:World} (h:Eqv S T) (I:Inv Z S C a w):Inv Z T C a w:=by
 have e:S.root=T.root:=funext h.rt;exact⟨e▸I.str,fun i v hv=>e▸I.tm i v ((h.tm i).trans hv),I.df,I.ts⟩
theorem Yta {α:Type} (f:α→α) (i:Nat):∀ (a:List (Nat×α)),lk i (a.map fun x=>(x.1,f x.2))=(lk i a).map f
 |[]=>rfl
 |(j,x)::a=>by
  simp only[List.map_cons,lk]
  split
  ·rfl
  ·exact Yta f i a
theorem Yji (S:St) (p:Patch) (r:Nat):(S.ap p).root r=(match lk r p.rt with | some x=>x | none=>S.root r).map (Root.kill p.ks):=by
 rw[Yet];rfl
theorem Eqv.ap {S T:St} (h:Eqv S T) (p:Patch):Eqv (S.ap p) (T.ap p):=by
 refine⟨fun i=>?_,fun r=>?_⟩
 ·rw[Yd8,Yd8,h.tm i]
 ·rw[Yji,Yji,h.rt r]
def Yo1 (r:Nat) (p:Option Path) (q:Nat) (s:Path):Bool:=Nat.beq r q&&(match p with | some p=>Path.far p s | none=>true)
def Ygc (r:Nat) (p:Option Path) (q:Nat) (s:Path):Bool:=Nat.beq r q&&(match p with | some p=>Path.pre p s | none=>true)
theorem Ydi (r:Nat) (p:Option Path) (f:FuncId) (c:TV):(TV.clo f c).kill r p=match (c.kill r p).live with | true=>.clo f c | false=>.dead 1:=rfl
theorem Yqk (r:Nat) (p:Option Path) (r':Nat) (p':Option Path):∀ v:TV,(v.kill r p).kill r' p'=(v.kill r' p').kill r p:=by
 intro v
 induction v with
 |pr a b iha ihb=>simp only[TV.kill,iha,ihb]
 |tup l ih=>simp only[TV.kill,ih]
 |gd t w v ih=>simp only[TV.kill,ih]
 |loc q s=>
  have e:∀ r p,(TV.loc q s).kill r p=match Yo1 r p q s with | true=>.dead 1 | false=>.loc q s:=fun _ _=>rfl
  cases h1:Yo1 r p q s<;>cases h2:Yo1 r' p' q s<;>simp only[e,h1,h2]<;>rfl
 |seg q s=>
  have e:∀ r p,(TV.seg q s).kill r p=match Ygc r p q s with | true=>.dead 1 | false=>.seg q s:=fun _ _=>rfl
  cases h1:Ygc r p q s<;>cases h2:Ygc r' p' q s<;>simp only[e,h1,h2]<;>rfl
 |sub q s lo n=>
  have e:∀ r p,(TV.sub q s lo n).kill r p=match Ygc r p q s with | true=>.dead 1 | false=>.sub q s lo n:=fun _ _=>rfl
  cases h1:Ygc r p q s<;>cases h2:Ygc r' p' q s<;>simp only[e,h1,h2]<;>rfl
 |clo f c ih=>
  simp only[Ydi]
  cases h1:(c.kill r p).live<;>cases h2:(c.kill r' p').live<;>simp[TV.kill,h1,h2]
 |_=>rfl
theorem Ym4 (ks:Ks) (r:Nat) (p:Option Path) (v:TV):Yt ks (v.kill r p)=(Yt ks v).kill r p:=by
 induction ks generalizing v with
 |nil=>rfl
 |cons k ks ih=>
  obtain⟨r',p'⟩:=k;simp only[Yt];rw[Yqk,ih]
theorem Yhs (a b:Ks) (v:TV):Yt a (Yt b v)=Yt b (Yt a v):=by
 induction a generalizing v with
 |nil=>rfl
 |cons k a ih=>
  obtain⟨r,p⟩:=k;simp only[Yt];rw[←Ym4,ih]
theorem Yoq {r:Nat} {p:Option Path}:∀ {v:TV},v.keeps r p=true→v.kill r p=v:=by
 intro v
 induction v with
 |pr a b iha ihb=>intro h;simp only[TV.keeps,Bool.and_eq_true] at h;simp only[TV.kill,iha h.1,ihb h.2]
 |tup l ih=>intro h;simp only[TV.keeps] at h;simp only[TV.kill,ih h]
 |gd t w v ih=>intro h;simp only[TV.keeps] at h;simp only[TV.kill,ih h]
 |loc q s=>
  intro h;have h:(!Yo1 r p q s)=true:=h
  show(match Yo1 r p q s with | true=>TV.dead 1 | false=>TV.loc q s)=_
  rw[Bool.not_eq_true'] at h;rw[h]
 |seg q s=>
  intro h;have h:(!Ygc r p q s)=true:=h
  show(match Ygc r p q s with | true=>TV.dead 1 | false=>TV.seg q s)=_
  rw[Bool.not_eq_true'] at h;rw[h]
 |sub q s lo n=>
  intro h;have h:(!Ygc r p q s)=true:=h
  show(match Ygc r p q s with | true=>TV.dead 1 | false=>TV.sub q s lo n)=_
  rw[Bool.not_eq_true'] at h;rw[h]
 |clo f c ih=>
  intro h;simp only[TV.keeps,Bool.and_eq_true] at h
  rw[Ydi,ih h.2,h.1]
 |_=>intro h;rfl
theorem Ybn:∀ {ks:Ks} {v:TV},Ycf ks v=true→Yt ks v=v
 |[],v,h=>rfl
 |(r,p)::ks,v,h=>by
  simp only[Ycf,Bool.and_eq_true] at h;simp only[Yt,Yoq h.1];exact Ybn h.2
theorem Yqr {r:Nat} {p:Option Path}:∀ {v:TV},(v.kill r p).Ye3=true→v.kill r p=v:=by
 intro v
 induction v with
 |pr a b iha ihb=>intro h;simp only[TV.kill,TV.Ye3,Bool.and_eq_true] at h;simp only[TV.kill,iha h.1,ihb h.2]
 |tup l ih=>intro h;simp only[TV.kill,TV.Ye3] at h;simp only[TV.kill,ih h]
 |gd t w v ih=>intro h;simp only[TV.kill,TV.Ye3] at h;simp only[TV.kill,ih h]
 |loc q s=>
  have e:(TV.loc q s).kill r p=match Yo1 r p q s with | true=>.dead 1 | false=>.loc q s:=rfl
  rw[e];cases Yo1 r p q s<;>intro h<;>first | rfl | cases h
 |seg q s=>
  have e:(TV.seg q s).kill r p=match Ygc r p q s with | true=>.dead 1 | false=>.seg q s:=rfl
  rw[e];cases Ygc r p q s<;>intro h<;>first | rfl | cases h
 |sub q s lo n=>
  have e:(TV.sub q s lo n).kill r p=match Ygc r p q s with | true=>.dead 1 | false=>.sub q s lo n:=rfl
  rw[e];cases Ygc r p q s<;>intro h<;>first | rfl | cases h
 |clo f c ih=>rw[Ydi];cases (c.kill r p).live<;>intro h<;>first | rfl | cases h
 |_=>intro h;rfl
theorem Yel:∀ {ks:Ks} {v:TV},(Yt ks v).Ye3=true→Yt ks v=v
 |[],v,h=>rfl
 |(r,p)::ks,v,h=>by
  simp only[Yt] at h ⊢;have h1:=Yel h;rw[h1] at h ⊢;exact Yqr h
end Mf
namespace Mf
open Go
set_option linter.unusedVariables false
set_option linter.unusedSimpArgs false
theorem Ycv {α:Type} {i:Nat}:∀ {l:List (Nat×α)},Ye7 i l=false↔lk i l=none
 |[]=>by simp[Ye7,lk]
 |(j,x)::l=>by
  simp only[Ye7,lk]
  cases h:Nat.beq i j with
  |true=>simp
  |false=>simpa using Ycv
theorem Ye9 {α:Type} {a:List (Nat×α)}:∀ {b:List (Nat×α)},Ygm a b=true→∀ i x,lk i b=some x→lk i a=none
 |[],h,i,x,hx=>by cases hx
 |(j,y)::b,h,i,x,hx=>by
  simp only[Ygm,Bool.and_eq_true,Bool.not_eq_true'] at h;simp only[lk] at hx
  split at hx
  ·rename_i e
   rw[Nat.beq_eq] at e;subst e;exact Ycv.1 h.1
  ·exact Ye9 h.2 i x hx
theorem Yht {p:Patch}:∀ {l:List Rec},Yh6 p l=true→∀ x∈l,x.off p=true
 |[],h,x,hx=>by cases hx
 |y::l,h,x,hx=>by
  simp only[Yh6,Bool.and_eq_true] at h;rcases List.mem_cons.1 hx with rfl | hx
  ·exact h.1
  ·exact Yht h.2 x hx
theorem Ygi {p:Patch}:∀ {l:List Rec},Yf8 p l=true→∀ x∈l,x.off2 p=true
 |[],h,x,hx=>by cases hx
 |y::l,h,x,hx=>by
  simp only[Yf8,Bool.and_eq_true] at h;rcases List.mem_cons.1 hx with rfl | hx
  ·exact h.1
  ·exact Ygi h.2 x hx
theorem Yt4 {P:TV→Prop}:∀ (f:Nat) {v v':TV},Kd P v v'→v'.Ycc f=v.Ycc f:=by
 intro f
 induction f with
 |zero=>
  intro v v' h
  cases v with
  |pr a b=>obtain⟨a',b',rfl,_⟩:=h;rfl
  |cl o t x=>rw[show v'=_ from h]
  |tup l=>obtain⟨l',rfl,_⟩:=h;rfl
  |gd t w v=>obtain⟨l',rfl,_⟩:=h;rfl
  |dead n=>rw[show v'=_ from h]
  |kb b=>rw[show v'=_ from h]
  |op b=>rw[show v'=_ from h]
  |rw o e xs i v=>rw[show v'=_ from h]
  |_=>rcases h with ⟨rfl,_⟩ | rfl<;>rfl
 |succ f ih=>
  intro v v' h
  cases v with
  |pr a b=>obtain⟨a',b',rfl,h1,h2⟩:=h;simp only[TV.Ycc,ih h2,h1.size]
  |cl o t x=>rw[show v'=_ from h]
  |tup l=>obtain⟨l',rfl,_⟩:=h;rfl
  |gd t w v=>obtain⟨l',rfl,_⟩:=h;rfl
  |dead n=>rw[show v'=_ from h]
  |kb b=>rw[show v'=_ from h]
  |op b=>rw[show v'=_ from h]
  |rw o e xs i v=>rw[show v'=_ from h]
  |_=>rcases h with ⟨rfl,_⟩ | rfl<;>rfl
theorem Yru {P:TV→Prop} (hp:∀ v,P v∨True):∀ (p:Path) {v v':TV},Kd P v v'→(v'.get p=v.get p)∨(∃ u u',v.get p=some u∧v'.get p=some u'∧Kd P u u'):=by
 intro p
 induction p with
 |nil=>intro v v' h;exact .inr ⟨v,v',TV.get_nil _,TV.get_nil _,h⟩
 |cons a p ih=>
  intro v v' h
  cases v with
  |pr x y=>
   obtain⟨x',y',rfl,h1,h2⟩:=h
   cases a with
   |f1=>exact ih h1
   |f2=>exact ih h2
   |el i=>exact .inl rfl
  |cl o t x=>left;rw[show v'=_ from h]
  |tup l=>obtain⟨l',rfl,_⟩:=h;left;cases a<;>rfl
  |gd t w v=>obtain⟨l',rfl,_⟩:=h;left;cases a<;>rfl
  |dead n=>left;rw[show v'=_ from h]
  |kb b=>left;rw[show v'=_ from h]
  |op b=>left;rw[show v'=_ from h]
  |rw o e xs i v=>left;rw[show v'=_ from h]
  |_=>rcases h with ⟨rfl,_⟩ | rfl<;>(left;cases a<;>rfl)
theorem Yjf (c:Chk) (ks:Ks) (v:TV):c.run (Yt ks v)=c.run v:=by
 have hk:=Ya1 ks v
 cases c with
 |Ycc p f n=>
  simp only[Chk.run];rcases Yru (fun _=>.inr trivial) p hk with e | ⟨u,u',e1,e2,e3⟩
  ·rw[e]
  ·rw[e1,e2];simp only;rw[Yt4 f e3]
 |row p=>
  simp only[Chk.run];rcases Yru (fun _=>.inr trivial) p hk with e | ⟨u,u',e1,e2,e3⟩
  ·rw[e]
  ·rw[e1,e2]
   cases u with
   |pr a b=>obtain⟨a',b',rfl,_⟩:=e3;rfl
   |cl o t x=>rw[show u'=_ from e3]
   |tup l=>obtain⟨l',rfl,_⟩:=e3;rfl
   |gd t w v=>obtain⟨l',rfl,_⟩:=e3;rfl
   |dead n=>rw[show u'=_ from e3]
   |kb b=>rw[show u'=_ from e3]
   |op b=>rw[show u'=_ from e3]
   |rw o e xs i v=>rw[show u'=_ from e3]
   |_=>rcases e3 with ⟨rfl,_⟩ | rfl<;>rfl
theorem Yds {ks:Ks}:∀ {l:List Rec},Yf5 ks l=true→∀ x∈l,x.keeps ks=true
 |[],h,x,hx=>by cases hx
 |y::l,h,x,hx=>by
  simp only[Yf5,Bool.and_eq_true] at h;rcases List.mem_cons.1 hx with rfl | hx
  ·exact h.1
  ·exact Yds h.2 x hx
theorem Yd2:∀ {l:List Rec},Yf3 l=true→∀ x∈l,x.Ye3=true
 |[],h,x,hx=>by cases hx
 |y::l,h,x,hx=>by
  simp only[Yf3,Bool.and_eq_true] at h;rcases List.mem_cons.1 hx with rfl | hx
  ·exact h.1
  ·exact Yd2 h.2 x hx
theorem Ykn {ks:Ks}:∀ {l:List (Nat×TV)},Yln ks l=true→∀ i v,lk i l=some v→Ycf ks v=true
 |[],h,i,v,hv=>by cases hv
 |(j,y)::l,h,i,v,hv=>by
  simp only[Yln,Bool.and_eq_true] at h;simp only[lk] at hv
  split at hv
  ·cases hv;exact h.1
  ·exact Ykn h.2 i v hv
theorem Ygo {ks:Ks}:∀ {l:List (Nat×Option Root)},Ygx ks l=true→∀ i R,lk i l=some (some R)→Ycf ks R.tv=true
 |[],h,i,v,hv=>by cases hv
 |(j,none)::l,h,i,v,hv=>by
  simp only[Ygx] at h;simp only[lk] at hv
  split at hv
  ·cases hv
  ·exact Ygo h i v hv
 |(j,some y)::l,h,i,v,hv=>by
  simp only[Ygx,Bool.and_eq_true] at h;simp only[lk] at hv
  split at hv
  ·cases hv;exact h.1
  ·exact Ygo h.2 i v hv
structure Clear (ks:Ks) (b:Rc):Prop where
 tm:∀ i v,Rec.tm i v∈b.l→Yt ks v=v
 rt:∀ r R,Rec.rt r (some R)∈b.l→Yt ks R.tv=R.tv
 bk:∀ i v v0,Rec.tm i v∈b.l→Yt ks v0=v→v0=v
 br:∀ r R v0,Rec.rt r (some R)∈b.l→Yt ks v0=R.tv→v0=R.tv
 ptm:∀ i v,lk i b.p.tm=some v→Yt ks v=v
 prt:∀ i R,lk i b.p.rt=some (some R)→Yt ks R.tv=R.tv
theorem Yni {ks:Ks} {b:Rc} (h:clear ks b=true):Clear ks b:=by
 unfold clear at h
 split at h
 ·exact⟨fun _ _ _=>rfl,fun _ _ _=>rfl,fun _ _ _ _ h=>h,fun _ _ _ _ h=>h,fun _ _ _=>rfl,fun _ _ _=>rfl⟩
 ·simp only[Bool.and_eq_true] at h
  obtain⟨h1,h2,h3,h4⟩:=h;refine⟨fun i v hm=>?_,fun r R hm=>?_,fun i v v0 hm e=>?_,fun r R v0 hm e=>?_,fun i v hm=>?_,fun i R hm=>?_⟩
  ·exact Ybn (Yds h1 _ hm)
  ·exact Ybn (Yds h1 _ hm)
  ·have:=Yd2 h2 _ hm
   simp only[Rec.Ye3] at this;rw[←e] at this;rw[←e];exact(Yel this).symm
  ·have:=Yd2 h2 _ hm
   simp only[Rec.Ye3] at this;rw[←e] at this;rw[←e];exact(Yel this).symm
  ·exact Ybn (Ykn h3 _ _ hm)
  ·exact Ybn (Ygo h4 _ _ hm)
structure Apart (a b:Rc):Prop where
 ab:∀ x∈b.l,x.off a.p=true
 ba:∀ x∈a.l,x.off2 b.p=true
 tm:∀ i x,lk i b.p.tm=some x→lk i a.p.tm=none
 rt:∀ i x,lk i b.p.rt=some x→lk i a.p.rt=none
 ca:Clear a.p.ks b
 cb:Clear b.p.ks a
theorem Yrr {a b:Rc} (h:apart a b=true):Apart a b:=by
 simp only[apart,Bool.and_eq_true] at h;obtain⟨h1,h2,h3,h4,h5,h6⟩:=h;exact⟨Yht h1,Ygi h2,Ye9 h3,Ye9 h4,Yni h5,Yni h6⟩
theorem Ypq (ks:Ks) {R:Root} (h:Yt ks R.tv=R.tv):Root.kill ks R=R:=by
 obtain⟨k,v⟩:=R;simp only[Root.kill] at h ⊢;rw[h]
theorem Yfq (a b:Ks) (R:Root):Root.kill a (Root.kill b R)=Root.kill b (Root.kill a R):=by
 simp only[Root.kill,Yhs a b]
theorem Apart.fits {a b:Rc} (h:Apart a b) {S:St} (hb:Fits (S.ap a.p) b.l):Fits S b.l:=by
 intro x hx;have h1:=hb x hx;have h2:=h.ab x hx
 cases x with
 |tm i v=>
  simp only[Rec.ok,Rec.off,Bool.not_eq_true'] at h1 h2 ⊢;rw[Yd8,Ycv.1 h2] at h1;simp only at h1
  cases hv:lk i S.tm with
  |none=>rw[hv] at h1;cases h1
  |some v0=>
   rw[hv] at h1;simp only[Option.map_some,Option.some.injEq] at h1
   rw[h.ca.bk i v v0 hx h1]
 |rt r y=>
  simp only[Rec.ok,Rec.off,Bool.not_eq_true'] at h1 h2 ⊢;rw[Yji,Ycv.1 h2] at h1;simp only at h1
  cases hv:S.root r with
  |none=>rw[hv] at h1;exact h1
  |some R0=>
   rw[hv] at h1;simp only[Option.map_some] at h1;subst h1;have e:R0.tv=Yt a.p.ks R0.tv:=h.ca.br r (Root.kill a.p.ks R0) R0.tv hx rfl
   rw[Ypq _ e.symm]
 |ck r c y=>
  simp only[Rec.off,Bool.not_eq_true'] at h2;obtain⟨R,h3,h4⟩:=h1;rw[Yji,Ycv.1 h2] at h3;simp only at h3
  cases hv:S.root r with
  |none=>rw[hv] at h3;cases h3
  |some R0=>
   rw[hv] at h3;simp only[Option.map_some,Option.some.injEq] at h3;subst h3
   exact⟨R0,hv,by rw[←h4];exact(Yjf c a.p.ks R0.tv).symm⟩
theorem Apart.fits' {a b:Rc} (h:Apart a b) {S:St} (ha:Fits S a.l):Fits (S.ap b.p) a.l:=by
 intro x hx;have h1:=ha x hx;have h2:=h.ba x hx
 cases x with
 |tm i v=>
  simp only[Rec.ok,Rec.off2,Rec.off,Bool.not_eq_true'] at h1 h2 ⊢;rw[Yd8,Ycv.1 h2,h1];simp only[Option.map_some]
  rw[h.cb.tm i v hx]
 |rt r y=>
  simp only[Rec.ok,Rec.off2,Rec.off,Bool.not_eq_true'] at h1 h2 ⊢;rw[Yji,Ycv.1 h2];simp only;rw[h1]
  cases y with
  |none=>rfl
  |some R=>rw[Option.map_some,Ypq _ (h.cb.rt r R hx)]
 |ck r c y=>
  obtain⟨R,h3,h4⟩:=h1;simp only[Rec.off2] at h2;show ∃ R,(S.ap b.p).root r=some R∧c.run R.tv=y;rw[Yji]
  split at h2
  ·rename_i R1 hR1
   rw[hR1];refine⟨_,rfl,?_⟩;show c.run (Yt b.p.ks R1.tv)=y;rw[Yjf]
   split at h2<;>first | (rename_i e1;exact e1) | (rename_i e1 _;exact e1) | cases h2
  ·cases h2
  ·rename_i hn
   rw[hn,h3]
   exact⟨_,rfl,by show c.run (Yt b.p.ks R.tv)=y;rw[Yjf];exact h4⟩
theorem Apart.eqv {a b:Rc} (h:Apart a b) (S:St):Eqv ((S.ap a.p).ap b.p) ((S.ap b.p).ap a.p):=by
 refine⟨fun i=>?_,fun r=>?_⟩
 ·simp only[Yd8]
  cases hb:lk i b.p.tm with
  |some v=>
   have ha:=h.tm i v hb;simp only[ha,Option.map_some]
   rw[h.ca.ptm i v hb]
  |none=>
   cases ha:lk i a.p.tm with
   |some v=>
    simp only[Option.map_some]
    rw[h.cb.ptm i v ha]
   |none=>
    cases hS:lk i S.tm with
    |none=>rfl
    |some v=>simp only[Option.map_some];rw[Yhs]
 ·simp only[Yji]
  cases hb:lk r b.p.rt with
  |some y=>
   have ha:=h.rt r y hb;simp only[ha]
   cases y with
   |none=>rfl
   |some R=>
    simp only[Option.map_some]
    rw[Yfq,Ypq a.p.ks (h.ca.prt r R hb)]
  |none=>
   cases ha:lk r a.p.rt with
   |some y=>
    simp only
    cases y with
    |none=>rfl
    |some R=>
     simp only[Option.map_some]
     rw[Yfq,Ypq b.p.ks (h.cb.prt r R ha)]
   |none=>
    simp only
    cases hS:S.root r with
    |none=>rfl
    |some R=>simp only[Option.map_some];rw[Yfq]
end Mf
namespace Mf
open Go
set_option linter.unusedVariables false
set_option linter.unusedSimpArgs false
variable {Z:W0} {S T:St} {C:Cx} {w w':World} {a:Act}
variable {P:Program} {tb:Tb} {g:Gd} {o:Oper} {hn:Hint} {np:Nat} {G:Gam}
def Yui (a:Act) (t:Nat) (w:Bool):GR→Prop
 |.no=>False
 |.do_ g=>Yax a g∧a.tmps.getD t undef=.bool w
 |.skip=>a.tmps.getD t undef≠.bool w
 |.sym b t' w' g=>t'=t∧w'=w∧(b=true→Yax a g∧a.tmps.getD t undef=.bool w)∧(b=false→a.tmps.getD t undef≠.bool w)∧
   g≠[]∧(∀ x,g=[x]→∃ b',a.tmps.getD t undef=.bool b')
theorem Yjj (b:Bool):undef≠.bool b:=by intro h;cases h
theorem Ykb (I:Inv Z T C a w):∀ (n t:Nat) (b:Bool) (gr:GR),(gcl n t b).run T=some gr→Yui a t b gr
 |0,t,b,gr,h=>by cases h
 |n+1,t,b,gr,h=>by
  simp only[gcl,RD.run] at h
  split at h
  ·rename_i v hv
   have ht:=I.tm t v hv
   split at h
   ·rename_i b'
    have hu:a.tmps.getD t undef=.bool b':=ht
    cases b'<;>cases b<;>cases h<;>simp only[Yui]
    ·exact⟨(Yax.nil a).cons hu,hu⟩
    ·rw[hu];intro e;cases e
    ·rw[hu];intro e;cases e
    ·exact⟨(Yax.nil a).cons hu,hu⟩
   ·rename_i ow b'
    have hu:a.tmps.getD t undef=.bool b':=(ht:Yd _ _ _ _ _ _).bool;cases h
    refine⟨rfl,rfl,fun hb=>?_,fun hb=>?_,by simp,fun x _=>⟨b',hu⟩⟩
    ·have:b'=b:=by cases b<;>cases b'<;>first | rfl | cases hb
     subst this;exact⟨(Yax.nil a).cons hu,hu⟩
    ·rw[hu];cases b<;>cases b'<;>first | (intro e;cases e;done) | cases hb
   ·rename_i t2 w2 ow b'
    replace h:=RD.bind_some h;obtain⟨r,h1,h⟩:=h;have ih:=Ykb I n t2 w2 r h1
    split at h
    ·rename_i b2 t2' w2' l
     cases h;obtain⟨rfl,rfl,i1,i2,i3,i4⟩:=ih;obtain⟨g1,g2⟩:(a.tmps.getD t2' undef=.bool w2'→TV.cl ow .bool b'=.dead 1∨Yd _ _ _ _ (TV.cl ow .bool b') _)∧(a.tmps.getD t2' undef≠.bool w2'→a.tmps.getD t undef=undef):=ht
     refine⟨rfl,rfl,fun hb=>?_,fun hb=>?_,by simp,fun x e=>?_⟩
     ·rw[Bool.and_eq_true] at hb
      obtain⟨j1,j2⟩:=i1 hb.1
      have hu:a.tmps.getD t undef=.bool b':=by
       rcases g1 j2 with h | h
       ·cases h
       ·exact h.bool
      have:b'=b:=by cases b<;>cases b'<;>first | rfl | cases hb.2
      subst this;exact⟨j1.cons hu,hu⟩
     ·by_cases hw:a.tmps.getD t2' undef=.bool w2'
      ·have hu:a.tmps.getD t undef=.bool b':=by
        rcases g1 hw with h | h
        ·cases h
        ·exact h.bool
       have hb2:b2=true:=by
        cases b2
        ·exact absurd hw (i2 rfl)
        ·rfl
       rw[hb2] at hb
       rw[hu];cases b<;>cases b'<;>first | (intro e;cases e;done) | cases hb
      ·rw[g2 hw];exact Yjj b
     ·cases l with
      |nil=>exact absurd rfl i3
      |cons y l=>cases e
    ·cases h
   ·cases h
  ·cases h
def Sound (P:Program) (ops:Array Oper) (Q:Exit→Act→World→Prop) (i:Nat) (o:Oper) (np:Nat) (T:St) (p:Patch):Prop:=
 ∀ (Z:W0) (C:Cx) (a:Act) (w:World) (K:Act→World→Prop),Inv Z T C a w→(∀ i,np≤i→Z.P i=none)→Yw T o.dst→(∀ d,o.dst=some d→d<Z.nt)→
  (∀ C' a' w',Inv Z (T.ap p) C' a' w'→K a' w')→wpOp P ops Q i K a w
def Yfv (P:Program) (o:Oper) (np:Nat) (T:St) (p:Patch) (Z:W0) (C:Cx) (a:Act) (w:World):Prop:=
 ∀ (Q:Exit→Act→World→Prop) (K:Act→World→Prop),(∀ C' u w',Inv Z (T.ap p) C' (a.put o.dst u) w'→K (a.put o.dst u) w')→o.wp P a w K Q
theorem Done.at {p:Patch} (h:Done P o a w fun u w'=>∃ C',Inv Z (T.ap p) C' (a.put o.dst u) w'):Yfv P o np T p Z C a w:=by
 intro Q K hK;rcases h with ⟨u,w',he,C',hi⟩ | h
 ·unfold Oper.wp
  rcases he with he | ⟨rfl,he⟩
  ·rw[he];exact hK C' u w' hi
  ·rw[he];exact hK C' undef w' hi
 ·exact h.elim
def GOk (P:Program) (G:Gam):Prop:=∀ f fs,G f=some fs→∀ (cs:List TV) (R:Type) (k:Out→Option R) (r:R),fs.F cs R k=some r→∃ out,k out=some r∧Yb5 P f fs.modes cs out
theorem Yge {x:Operand×List Operand×List TypeId} (h:Ydy o=some x):∃ (f:Operand) (args:Array Operand) (ats:Array TypeId),o.op=.call ⟨.value f,args,ats⟩∧x=(f,args.toList,ats.toList):=by
 unfold Ydy at h
 split at h
 ·rename_i f args ats ho;cases h;exact⟨f,args,ats,ho,rfl⟩
 ·cases h
theorem Yjx (hG:GOk P G) {R:Type} {x:Operand×List Operand×List TypeId} (hx:Ydy o=some x) {l:List Rec} {k:Patch→List Rec→Option R} {r:R}
  (h:Yls tb np G g o x S l k=some r):∃ p l',k p l'=some r∧(Fits S l→Fits S l')∧(∀ e∈l,e∈l')∧∀ T,Fits T l'→∀ Z C a w,Inv Z T C a w→Yax a g→(∀ i,np≤i→Z.P i=none)→
   Yw T o.dst→(∀ d,o.dst=some d→d<Z.nt)→Yfv P o np T p Z C a w:=by
 obtain⟨f,args,ats,ho,rfl⟩:=Yge hx;unfold Yls at h
 split at h
 ·rename_i cd f' cs post l1 h1
  split at h
  ·rename_i fs hfs
   obtain⟨out,h2,hout⟩:=hG f' fs hfs cs R _ r h
   split at h2
   ·rename_i p l2 h3
    refine⟨p,l2,h2,fun hf=>Yao _ h3 (Yao _ h1 hf),fun e he=>Y0 _ h3 e (Y0 _ h1 e he),fun T hT Z C a w I hg hnp hgd hd=>?_⟩;have hT1:Fits T l1:=fun e he=>hT e (Y0 _ h3 e he);have e1:=Yav _ h1 hT1;have e2:=Yav _ h3 hT
    obtain⟨us,g1,g2⟩:=Ynz I hg ho hnp hgd hd e1 (Mo:=Yk3 G) (by simp only[Yk3,hfs]) hout e2
    intro Q K hK;unfold Oper.wp;rw[g1];refine g2.mono fun e w' he=>?_;obtain⟨u,rfl,C',hi⟩:=he;exact hK C' u w' hi
   ·cases h2
  ·cases h
 ·cases h
theorem Yrk {t:Nat} {m:MvA} (h:(Yvb t).run S=some m):lk t S.tm=some (.seg m.r [])∧S.root m.r=some ⟨.reg,.cl .deep (.sl m.e) m.xs⟩:=by
 unfold Yvb at h;simp only[RD.run] at h
 split at h
 ·rename_i v hv
  split at h
  ·rename_i r
   simp only[RD.run] at h
   split at h
   ·rename_i R hR
    split at h
    ·cases h;exact⟨hv,hR⟩
    ·cases h
   ·cases h
  ·cases h
 ·cases h
theorem Yk8 (hG:GOk P G) {R:Type} {x:Operand×List Operand×List TypeId} (hx:Ydy o=some x) {l:List Rec} {k:Patch→List Rec→Option R} {r:R}
  (h:Yob tb np G g o x S l k=some r):∃ p l',k p l'=some r∧(Fits S l→Fits S l')∧(∀ e∈l,e∈l')∧∀ T,Fits T l'→∀ Z C a w,Inv Z T C a w→Yax a g→(∀ i,np≤i→Z.P i=none)→
   Yw T o.dst→(∀ d,o.dst=some d→d<Z.nt)→Yfv P o np T p Z C a w:=by
 unfold Yob at h
 split at h
 ·rename_i f t d fs hmv
  obtain⟨f0,args,ats,ho,rfl⟩:=Yge hx;unfold Yv5 at hmv
  split at hmv
  ·rename_i f1 t1 d1 e1 e2 e3
   split at hmv
   ·rename_i F hF
    cases hmv
    split at h
    ·rename_i m l1 h1
     obtain⟨out,h2,hout⟩:=hG f _ hF _ R _ r h
     split at h2
     ·rename_i p l2 h3
      refine⟨p,l2,h2,fun hf=>Yao _ h3 (Yao _ h1 hf),fun e he=>Y0 _ h3 e (Y0 _ h1 e he),fun T hT Z C a w I hg hnp hgd hd=>?_⟩;have hT1:Fits T l1:=fun e he=>hT e (Y0 _ h3 e he);obtain⟨q1,q2⟩:=Yrk (Yav _ h1 hT1);have q3:=Yav _ h3 hT;unfold Yrc at q3
      split at q3
      ·rename_i e' ys
       have e1':f0=.func f:=e1;subst e1';rw[e3] at hgd hd;obtain⟨us,g1,g2⟩:=Yrh I ho e2 e3 hnp hgd (hd d rfl) q1 q2 hout q3;intro Q K hK;unfold Oper.wp;rw[g1];refine g2.mono fun e w' he=>?_;obtain⟨u,rfl,C',hi⟩:=he;exact hK C' u w' hi
      ·cases q3
     ·cases h2
    ·cases h
   ·cases hmv
  ·cases hmv
 ·exact Yjx hG hx h
theorem Yg7 {R:Type} {m:RD Yc1} {l:List Rec} {k:Patch→List Rec→Option R} {r:R} (h:Ymb m S l k=some r) :
  ∃ b p l',k p l'=some r∧m.Ybj S l=some (.step b p,l')∧b≠some false:=by
 unfold Ymb at h
 split at h
 ·rename_i b p l' h1
  cases b with
  |true=>exact⟨_,p,l',h,h1,by simp⟩
  |false=>cases h
 ·rename_i p l' h1
  exact⟨_,p,l',h,h1,by simp⟩
 ·cases h
theorem Yin (ht:Yag P tb) (hG:GOk P G) {R:Type} {l:List Rec} {k:Patch→List Rec→Option R} {r:R}
  (h:Ysu tb hn np G g o S l k=some r):∃ p l',k p l'=some r∧(Fits S l→Fits S l')∧(∀ e∈l,e∈l')∧∀ T,Fits T l'→∀ Z C a w,Inv Z T C a w→Yax a g→(∀ i,np≤i→Z.P i=none)→
   Yw T o.dst→(∀ d,o.dst=some d→d<Z.nt)→Yfv P o np T p Z C a w:=by
 unfold Ysu at h
 split at h
 ·rename_i x hx;exact Yk8 hG hx h
 ·obtain⟨b,p,l',h1,h2,hb⟩:=Yg7 h
  refine⟨p,l',h1,Yao _ h2,Y0 _ h2,fun T hT Z C a w I hg hnp hgd hd=>?_⟩;exact(Yrq ht I hg hnp hgd hd (Yav _ h2 hT) hb).at
theorem Inv.Ytp {p:Patch} {t:Nat} {b:Bool} (I:Inv Z (S.ap p) C a w) (h:a.tmps.getD t undef=.bool b):Inv Z (S.ap (p.is t b)) C a w:=by
 have hr:(S.ap (p.is t b)).root=(S.ap p).root:=by rw[Yet,Yet];rfl
 refine⟨hr▸I.str,fun i v hv=>?_,I.df,I.ts⟩;rw[hr];rw[Yd8] at hv;simp only[Patch.is,lk] at hv
 by_cases e:i=t
 ·subst e
  rw[show Nat.beq i i=true from Nat.beq_refl i] at hv;cases hv;exact h
 ·rw[show Nat.beq i t=false from by rw[←Bool.not_eq_true,Nat.beq_eq];exact e] at hv
  refine I.tm i v ?_;rw[Yd8];exact hv
theorem Yn2 (I:Inv Z T C a w) (hgd:Yw T o.dst) (hd:∀ d,o.dst=some d→d<Z.nt) (u:Value):Inv Z (T.ap (Yr5 o.dst)) C (a.put o.dst u) w:=by
 have:=I.slot? (o:=o) (v:=.dead 1) (u:=u) hgd hd (.inl ⟨1,rfl⟩)
 cases hdst:o.dst with
 |none=>rw[hdst] at this;exact this
 |some d=>rw[hdst] at this;exact this
theorem Yol {ops:Array Oper} {j t:Nat} {o':Oper} (hj:ops[j]? = some o') (ht:o'.dst=some t) (a:Act) (b:Bool) :
  (yielded ops a.tmps j == some b)=true↔a.tmps.getD t undef=.bool b:=by
 unfold yielded;rw[hj];simp only[Option.bind_some,ht];rw[Array.getD_eq_getD_getElem?]
 cases hv:a.tmps[t]? with
 |none=>simp[undef]
 |some v=>
  cases v<;>simp
end Mf
namespace Mf
open Go
set_option linter.unusedVariables false
set_option linter.unusedSimpArgs false
variable {Z:W0} {S T:St} {C:Cx} {w w':World} {a:Act}
variable {P:Program} {tb:Tb} {g:Gd} {o:Oper} {hn:Hint} {np:Nat} {G:Gam}
def Want (all:List Oper) (o:Oper) (a:Act):Prop:=match o.guard with
 |none=>True
 |some (_,b)=>∃ t,Ybh all o=some t∧a.tmps.getD t undef=.bool b
theorem Yot {ops:Array Oper} {j:Nat} {b:Bool} {t:Nat} (hg:o.guard=some (j,b)) (h:Ybh ops.toList o=some t):∃ o',ops[j]? = some o'∧o'.dst=some t:=by
 unfold Ybh at h;rw[hg] at h;simp only[Array.getElem?_toList] at h
 split at h
 ·rename_i o' ho;exact⟨o',ho,h⟩
 ·cases h
theorem Yfs {ops:Array Oper} {Q:Exit→Act→World→Prop} {i:Nat} (hi:ops[i]? = some o) {K:Act→World→Prop} (hw:Region.wanted o (yielded ops a.tmps)=true)
  (h:o.wp P a w K Q):wpOp P ops Q i K a w:=by
 unfold wpOp;rw[hi];simp only[hw,if_true];exact .inl h
theorem Yms {ops:Array Oper} {Q:Exit→Act→World→Prop} {i:Nat} (hi:ops[i]? = some o) {K:Act→World→Prop} (hw:Region.wanted o (yielded ops a.tmps)=false)
  (h:K (a.put o.dst undef) w):wpOp P ops Q i K a w:=by
 unfold wpOp;rw[hi];simp only[hw];exact h
theorem Ycd {ops:Array Oper} {j:Nat} {b:Bool} {t:Nat} (hg:o.guard=some (j,b)) (h:Ybh ops.toList o=some t) :
  Region.wanted o (yielded ops a.tmps)=true↔a.tmps.getD t undef=.bool b:=by
 obtain⟨o',h1,h2⟩:=Yot hg h;unfold Region.wanted;rw[hg];exact Yol h1 h2 a b
theorem Act.Ynn {d:Option Nat} {t:Nat} {u:Value} (h:d≠some t):(a.put d u).tmps.getD t undef=a.tmps.getD t undef:=by
 cases d with
 |none=>rfl
 |some d=>
  simp only[Act.put,Array.getD_eq_getD_getElem?];rw[Array.getElem?_setIfInBounds_ne]
  intro e;exact h (by rw[e])
theorem Yke {t:Nat}:∀ {l:List Oper},Ypn t l=true→∀ o∈l,o.dst≠some t
 |[],h,o,ho=>by cases ho
 |x::l,h,o,ho=>by
  simp only[Ypn,Bool.and_eq_true] at h;rcases List.mem_cons.1 ho with rfl | ho
  ·intro e
   rw[e] at h;simp only[Bool.not_eq_true'] at h;have:=h.1;rw[show Nat.beq t t=true from Nat.beq_refl t] at this;cases this
  ·exact Yke h.2 o ho
theorem Yt5 (ht:Yag P tb) (I:Inv Z T C a w) {c:Bool} {t:Nat} {b:Bool} {x:Option Bool} {p:Patch} (hgd:Yw T o.dst) (hd:∀ d,o.dst=some d→d<Z.nt)
  (hdt:o.dst≠some t) (h:(Yhj tb (some (c,t,b)) g o).run T=some (.step x p)) (hx:x≠some false) :
  (c=true→Yax a g→a.tmps.getD t undef=.bool b→Yfv P o np T p Z C a w)∧(a.tmps.getD t undef≠.bool b→Inv Z (T.ap p) C (a.put o.dst undef) w):=by
 simp only[Yhj] at h;replace h:=RD.bind_some h;obtain⟨⟨b',v⟩,h1,h⟩:=h;simp only at h
 have main:∃ v',(∀ l,v'≠.tup l)∧(∀ n,v'≠.dead n)∧v=v'∧(c=true→b'=some false→x=some false)∧p=⟨match o.dst with | some d=>[(d,.gd t b v')] | none=>[],[],[]⟩:=by
  split at h
  ·cases h
  ·cases h
  ·rename_i hn1 hn2
   cases b' with
   |none=>cases h;exact⟨v,hn1,hn2,rfl,(fun _ e=>by cases e),rfl⟩
   |some b'=>cases h;exact⟨v,hn1,hn2,rfl,(fun hc e=>by subst hc;cases e;rfl),rfl⟩
 obtain⟨v',hv',hv2,rfl,hcb,rfl⟩:=main;refine⟨fun hc hg htb=>?_,fun htb=>?_⟩
 ·subst hc
  have hb':b'≠some false:=by
   intro e;exact hx (hcb rfl e)
  obtain⟨u,hu,hv⟩:=Yi1 Z T C a w ht I hg _ v h1 hb';refine Done.at (.inl ⟨u,w,.inl hu,C,?_⟩)
  cases hdst:o.dst with
  |none=>exact I.Yox
  |some d=>
   rw[hdst] at hgd hd hdt;refine I.slot hgd (hd d rfl) ⟨fun _=>?_,fun hne=>?_⟩
   ·rcases hv with ⟨n,rfl⟩ | hv
    ·exact absurd rfl (hv2 n)
    ·exact .inr (hv.val hv')
   ·rw[Act.Ynn hdt] at hne
    exact absurd htb hne
 ·cases hdst:o.dst with
  |none=>exact I.Yox
  |some d=>
   rw[hdst] at hgd hd hdt;refine I.slot hgd (hd d rfl) ⟨fun he=>?_,fun _=>rfl⟩;rw[Act.Ynn hdt] at he;exact absurd he htb
theorem Ywo {x:Value} {b:Bool} (h:∃ b',x=.bool b') (hn:x≠.bool b):x=.bool (!b):=by
 obtain⟨b',rfl⟩:=h
 cases b<;>cases b'<;>first | rfl | exact absurd rfl hn
theorem Yu9 {S:St}:∀ (n t:Nat) (b:Bool),(gcl n t b).run S≠some .no
 |0,t,b,h=>by cases h
 |n+1,t,b,h=>by
  simp only[gcl,RD.run] at h
  split at h
  ·split at h
   ·split at h<;>cases h
   ·cases h
   ·replace h:=RD.bind_some h;obtain⟨r,h1,h⟩:=h
    split at h<;>cases h
   ·cases h
  ·cases h
theorem Yn5 (ht:Yag P tb) (hG:GOk P G) {ops:Array Oper} {i:Nat} (hi:ops[i]? = some o) {R:Type} {k:Patch→List Rec→Option R} {r:R}
  (hgt:∀ t,Ybh ops.toList o=some t→o.dst≠some t)
  (h:Yur tb hn np G ops.toList o S k=some r):∃ p l,k p l=some r∧Fits S l∧(∀ t,Ybh ops.toList o=some t→∃ v,Rec.tm t v∈l)∧∀ T Q,Fits T l→Sound P ops Q i o np T p:=by
 unfold Yur at h
 have guard:∀ gr l,(Yjc ops.toList o).Ybj S []=some (gr,l)→Fits S l∧(o.guard=none∧gr=.no∨∃ j b t v,o.guard=some (j,b)∧Ybh ops.toList o=some t∧Rec.tm t v∈l∧
   ∀ T l',(∀ e∈l,e∈l')→Fits T l'→∀ Z C a w,Inv Z T C a w→Yui a t b gr):=by
  intro gr l hh;refine⟨Yao _ hh (Fits.nil S),?_⟩;have hh0:=hh;unfold Yjc at hh
  split at hh
  ·rename_i hg
   cases hh;exact .inl ⟨hg,rfl⟩
  ·rename_i j b hg
   split at hh
   ·rename_i t hgs
    refine .inr ⟨j,b,t,?_⟩
    have hl:∃ v,Rec.tm t v∈l:=by
     simp only[gcl,RD.Ybj] at hh
     split at hh
     ·rename_i v hv
      exact⟨v,Y0 _ hh _ (List.mem_cons_self)⟩
     ·cases hh
    obtain⟨v,hv⟩:=hl;refine⟨v,hg,hgs,hv,fun T l' hll hT Z C a w I=>?_⟩;exact Ykb I 4 t b gr (Yav _ hh (fun e he=>hT e (hll e he)))
   ·cases hh
 have recs:∀ gr l,(Yjc ops.toList o).Ybj S []=some (gr,l)→∀ t,Ybh ops.toList o=some t→∃ v,Rec.tm t v∈l:=by
  intro gr l hh t hs;obtain⟨_,⟨hg,_⟩ | ⟨j,b,t',v,hg,hgs,hv,_⟩⟩:=guard gr l hh
  ·unfold Ybh at hs;rw[hg] at hs;cases hs
  ·rw[hgs] at hs;cases hs;exact⟨v,hv⟩
 split at h
 ·rename_i l hl
  obtain⟨hf,hh⟩:=guard _ _ hl
  have hng:o.guard=none:=by
   rcases hh with ⟨h1,_⟩ | ⟨j,b,t,v,h1,h2,h3,h4⟩
   ·exact h1
   ·simp only[Yjc,h1,h2] at hl
    exact absurd (Yav _ hl hf) (Yu9 4 t b)
  obtain⟨p,l',h1,h2,h3,h4⟩:=Yin ht hG h;refine⟨p,l',h1,h2 hf,fun t hs=>?_,fun T Q hT Z C a w K I hnp hgd hd hK=>?_⟩
  ·unfold Ybh at hs;rw[hng] at hs;cases hs
  ·refine Yfs hi (by simp[Region.wanted,hng]) ?_
   exact h4 T hT Z C a w I (Yax.nil a) hnp hgd hd Q K (fun C' u w' hi=>hK C' _ w' hi)
 ·rename_i g l hl
  obtain⟨hf,hh⟩:=guard _ _ hl;rcases hh with ⟨_,hh⟩ | ⟨j,b,t,v,h1,h2,h3,hgr⟩
  ·cases hh
  obtain⟨p,l',g1,g2,g3,g4⟩:=Yin ht hG h;refine⟨p,l',g1,g2 hf,fun t' hs=>?_,fun T Q hT Z C a w K I hnp hgd hd hK=>?_⟩
  ·rw[h2] at hs;cases hs;exact⟨v,g3 _ h3⟩
  ·obtain⟨q1,q2⟩:=hgr T l' g3 hT Z C a w I
   refine Yfs hi ((Ycd h1 h2).2 q2) ?_;exact g4 T hT Z C a w I q1 hnp hgd hd Q K (fun C' u w' hi=>hK C' _ w' hi)
 ·rename_i l hl
  obtain⟨hf,hh⟩:=guard _ _ hl;rcases hh with ⟨_,hh⟩ | ⟨j,b,t,v,h1,h2,h3,hgr⟩
  ·cases hh
  refine⟨Yr5 o.dst,l,h,hf,fun t' hs=>?_,fun T Q hT Z C a w K I hnp hgd hd hK=>?_⟩
  ·rw[h2] at hs;cases hs;exact⟨v,h3⟩
  ·have q:=hgr T l (fun _ h=>h) hT Z C a w I
   refine Yms hi ?_ (hK C _ w (Yn2 I hgd hd _));rw[←Bool.not_eq_true];exact fun e=>q ((Ycd h1 h2).1 e)
 ·rename_i c t' b' g l hl
  obtain⟨hf,hh⟩:=guard _ _ hl;rcases hh with ⟨_,hh⟩ | ⟨j,b,t,v,h1,h2,h3,hgr⟩
  ·cases hh
  have hdt:=hgt t h2;unfold Yua at h
  split at h
  ·cases h
  ·obtain⟨b2,p,l',g1,g2,g3⟩:=Yg7 h
   refine⟨p,l',g1,Yao _ g2 hf,fun t'' hs=>?_,fun T Q hT Z C a w K I hnp hgd hd hK=>?_⟩
   ·rw[h2] at hs;cases hs;exact⟨v,Y0 _ g2 _ h3⟩
   ·obtain⟨rfl,rfl,q1,q2,q3,q4⟩:=hgr T l' (Y0 _ g2) hT Z C a w I
    obtain⟨s1,s2⟩:=Yt5 ht I (np:=np) hgd hd hdt (Yav _ g2 hT) g3
    by_cases hw:a.tmps.getD t' undef=.bool b'
    ·refine Yfs hi ((Ycd h1 h2).2 hw) ?_
     have hc:c=true:=by
      cases c
      ·exact absurd hw (q2 rfl)
      ·rfl
     exact s1 hc (q1 hc).1 hw Q K (fun C' u w' hi=>hK C' _ w' hi)
    ·refine Yms hi ?_ (hK C _ w (s2 hw))
     rw[←Bool.not_eq_true];exact fun e=>hw ((Ycd h1 h2).1 e)
 ·cases h
theorem Sound.is {ops:Array Oper} {Q:Exit→Act→World→Prop} {i:Nat} {p:Patch} {t:Nat} {ow:Ow} {e:Bool} (h:Sound P ops Q i o np T p) (hl:lk t p.tm=some (.cl ow .bool e)):Sound P ops Q i o np T (p.is t e):=by
 intro Z C a w K I hnp hgd hd hK;refine h Z C a w K I hnp hgd hd (fun C' a' w' I'=>hK C' a' w' (I'.Ytp ?_))
 have:=I'.tm t (.cl ow .bool e) (by rw[Yd8,hl])
 exact(this:Yd _ _ _ _ _ _).bool
theorem Ynr {all l:List Oper} {d:Option Nat} {p:Patch} {t:Nat} {e:Bool} (h:Ynx all l d p=some (t,e)):∃ ow,lk t p.tm=some (.cl ow .bool e):=by
 unfold Ynx at h
 split at h
 ·split at h
  ·split at h
   ·rename_i hl;cases h;exact⟨_,hl⟩
   ·cases h
  ·cases h
 ·cases h
end Mf
namespace Mf
open Go
set_option linter.unusedVariables false
set_option linter.unusedSimpArgs false
variable {Z:W0} {S T:St} {C:Cx} {w w':World} {a:Act}
variable {P:Program} {tb:Tb} {g:Gd} {o:Oper} {hn:Hint} {np:Nat} {G:Gam} {ops:Array Oper}
abbrev Ac:=Nat×Rc
def Run:St→List Ac→St→Prop
 |S,[],S'=>Eqv S S'
 |S,x::A,S'=>Fits S x.2.l∧Run (S.ap x.2.p) A S'
theorem Run.eqv:∀ {A:List Ac} {S T S':St},Eqv S T→Run S A S'→Run T A S'
 |[],S,T,S',e,h=>e.symm.trans h
 |x::A,S,T,S',e,h=>⟨e.fits h.1,Run.eqv (e.ap _) h.2⟩
theorem Run.bubble {x:Ac}:∀ {A:List Ac} {B:List Ac} {S S':St},(∀ y∈A,Apart y.2 x.2)→Run S (A++x::B) S'→Fits S x.2.l∧Run (S.ap x.2.p) (A++B) S'
 |[],B,S,S',_,h=>h
 |y::A,B,S,S',hA,h=>by
  obtain⟨h1,h2⟩:=h;obtain⟨h3,h4⟩:=Run.bubble (fun z hz=>hA z (List.mem_cons_of_mem _ hz)) h2;have hy:=hA y (List.mem_cons_self);exact⟨hy.fits h3,hy.fits' h1,Run.eqv (hy.eqv S) h4⟩
structure Yoa (P:Program) (ops:Array Oper) (np:Nat) (x:Ac) (o:Oper):Prop where
 op:ops[x.1]? = some o
 so:∀ T Q,Fits T x.2.l→Sound P ops Q x.1 o np T x.2.p
 tm:Yma (Ybh ops.toList o) x.2.p.tm=true
 ds:Yku o.dst x.2.p.tm=true
 gl:∀ t,Ybh ops.toList o=some t→(∃ v,Rec.tm t v∈x.2.l)∧o.dst≠some t
def Yl1 (ops:Array Oper) (x y:Ac):Prop:=∀ o o' t,ops[x.1]? = some o→ops[y.1]? = some o'→Ybh ops.toList o=some t→o'.dst≠some t
def GdI (ops:Array Oper) (S:St) (A:List Ac):Prop:=∀ s t b v,lk s S.tm=some (.gd t b v)→∀ y∈A,∀ o,ops[y.1]? = some o→o.dst≠some t
theorem GdI.free {A:List Ac} (h:GdI ops S A) {x:Ac} (hx:x∈A) (ho:ops[x.1]? = some o):Yw S o.dst:=fun s t b v hv=>h s t b v hv x hx o ho
theorem Ygq {ks:Ks} {v u:TV} {t:Nat} {b:Bool} (h:Yt ks v=.gd t b u):∃ u',v=.gd t b u':=by
 have hk:=Ya1 ks v;rw[h] at hk
 cases v with
 |gd t' b' v'=>obtain⟨u',e,_⟩:=hk;cases e;exact⟨_,rfl⟩
 |pr=>obtain⟨_,_,e,_⟩:=hk;cases e
 |tup=>obtain⟨_,e,_⟩:=hk;cases e
 |cl=>cases (show _=_ from hk)
 |dead=>cases (show _=_ from hk)
 |kb=>cases (show _=_ from hk)
 |op=>cases (show _=_ from hk)
 |_=>rcases hk with ⟨e,_⟩ | e<;>cases e
theorem Ylq {gt:Option Nat}:∀ {l:List (Nat×TV)},Yma gt l=true→∀ s t b v,lk s l=some (.gd t b v)→gt=some t
 |[],h,s,t,b,v,hv=>by cases hv
 |(j,y)::l,h,s,t,b,v,hv=>by
  have h2:Yma gt l=true:=by
   cases y<;>simp only[Yma,Bool.and_eq_true] at h<;>first | exact h | exact h.2
  simp only[lk] at hv
  split at hv
  ·cases hv
   simp only[Yma,Bool.and_eq_true] at h
   cases gt with
   |none=>cases h.1
   |some u=>rw[Nat.beq_eq] at h;rw[h.1]
  ·exact Ylq h2 s t b v hv
theorem GdI.step {A B:List Ac} {x:Ac} (h:GdI ops S (A++x::B)) (hx:Yoa P ops np x o) (hA:∀ y∈A,Apart y.2 x.2) (hB:∀ y∈B,Yl1 ops x y)
  (hok:∀ y∈A,∃ o,Yoa P ops np y o):GdI ops (S.ap x.2.p) (A++B):=by
 intro s t b v hv y hy oy hoy;rw[Yd8] at hv
 split at hv
 ·rename_i v' hv'
  cases hv;have hgs:=Ylq hx.tm s t b v hv';rcases List.mem_append.1 hy with hy | hy
  ·obtain⟨v2,hv2⟩:=(hx.gl t hgs).1
   have h1:=(hA y hy).ab _ hv2;simp only[Rec.off,Bool.not_eq_true'] at h1;obtain⟨o',ho'⟩:=hok y hy
   have e:o'=oy:=by have:=ho'.op;rw[hoy] at this;exact(Option.some.inj this).symm
   subst e;intro hd;have h2:=ho'.ds;rw[hd] at h2;simp only[Yku] at h2;rw[h1] at h2;cases h2
  ·exact hB y hy o oy t hx.op hoy hgs
 ·cases hS:lk s S.tm with
  |none=>rw[hS] at hv;cases hv
  |some v0=>
   rw[hS] at hv;simp only[Option.map_some,Option.some.injEq] at hv;obtain⟨u',rfl⟩:=Ygq hv;refine h s t b u' hS y ?_ oy hoy;rcases List.mem_append.1 hy with hy | hy
   ·exact List.mem_append_left _ hy
   ·exact List.mem_append_right _ (List.mem_cons_of_mem _ hy)
def Num:Nat→List Ac→Prop
 |_,[]=>True
 |n,x::A=>x.1=n∧Num (n+1) A
def Later (ops:Array Oper):List Ac→Prop
 |[]=>True
 |x::A=>(∀ y∈A,Yl1 ops x y)∧Later ops A
theorem Num.mem:∀ {A:List Ac} {n:Nat},Num n A→∀ x∈A,n≤x.1∧x.1<n+A.length
 |[],n,h,x,hx=>by cases hx
 |y::A,n,h,x,hx=>by
  rcases List.mem_cons.1 hx with rfl | hx
  ·rw[h.1];simp
  ·have:=h.2.mem x hx
   simp only[List.length_cons];omega
theorem Yqv {t:Nat} {l:List Oper} (h:Yv3 (some t) l=true):∀ o∈l,o.dst≠some t:=Yke h
theorem Yhe (ht:Yag P tb) (hG:GOk P G):∀ (l:List Oper) (n:Nat) (S:St) (T:List Rc) {R:Type} {k:St→List Rc→Option R} {r:R},
  (∀ m:Nat,l[m]? = ops[n+m]?)→Yhc tb hn np G ops.toList l S T k=some r→
  ∃ A S',k S' ((A.map (·.2)).reverse++T)=some r∧Run S A S'∧Num n A∧A.length=l.length∧(∀ x∈A,∃ o,Yoa P ops np x o)∧Later ops A
 |[],n,S,T,R,k,r,hl,h=>⟨[],S,by simp only[Yhc] at h;simpa using h,.refl S,trivial,rfl,by simp,trivial⟩
 |o::l,n,S,T,R,k,r,hl,h=>by
  simp only[Yhc] at h
  have hi:ops[n]? = some o:=by have:=hl 0;simpa using this.symm
  have hl':∀ m:Nat,l[m]? = ops[n+1+m]?:=fun m=>by
   have:=hl (m+1);rw[List.getElem?_cons_succ] at this
   rw[this,show n+(m+1)=n+1+m by omega]
  split at h
  ·rename_i hgt
   have hgt':∀ t,Ybh ops.toList o=some t→∀ o'∈o::l,o'.dst≠some t:=fun t e=>by rw[e] at hgt;exact Yqv hgt
   obtain⟨p,lg,h1,h2,h3,h4⟩:=Yn5 ht hG hi (fun t e=>hgt' t e o (List.mem_cons_self)) h
   split at h1
   ·rename_i hok
    simp only[Bool.and_eq_true] at hok
    have main:∀ p:Patch,(∀ T Q,Fits T lg→Sound P ops Q n o np T p)→Yma (Ybh ops.toList o) p.tm=true→Yku o.dst p.tm=true→
      Yhc tb hn np G ops.toList l (S.ap p) (⟨lg,p⟩::T) k=some r→
      ∃ A S',k S' ((A.map (·.2)).reverse++T)=some r∧Run S A S'∧Num n A∧A.length=(o::l).length∧(∀ x∈A,∃ o,Yoa P ops np x o)∧Later ops A:=by
     intro p h4 hok1 hok2 h1;obtain⟨A,S',g1,g2,g3,g4,g5,g6⟩:=Yhe ht hG l (n+1) (S.ap p) _ hl' h1
     refine⟨(n,⟨lg,p⟩)::A,S',?_,⟨h2,g2⟩,⟨rfl,g3⟩,by simp[g4],?_,?_,g6⟩
     ·simpa using g1
     ·intro x hx
      rcases List.mem_cons.1 hx with rfl | hx
      ·exact⟨o,hi,h4,hok1,hok2,fun t e=>⟨h3 t e,hgt' t e o (List.mem_cons_self)⟩⟩
      ·exact g5 x hx
     ·intro y hy o1 o2 t e1 e2 e3
      have:o1=o:=by
       rw[show ops[((n,⟨lg,p⟩):Ac).1]? = ops[n]? from rfl,hi] at e1;exact(Option.some.inj e1).symm
      subst this;have hb:=g3.mem y hy;refine hgt' t e3 o2 (List.mem_cons_of_mem _ ?_);have:=hl' (y.1-(n+1))
      rw[show n+1+(y.1-(n+1))=y.1 by omega,e2] at this
      exact List.mem_of_getElem? this
    split at h1
    ·exact main p h4 hok.1 hok.2 h1
    ·rename_i t e hsp
     obtain⟨ow,hsl⟩:=Ynr hsp
     have hds:∀ b,Yku o.dst (p.is t b).tm=true:=fun b=>by
      have:=hok.2
      cases hd:o.dst with
      |none=>rfl
      |some d=>
       rw[hd] at this;simp only[Yku,Patch.is,Ye7] at this ⊢;rw[this,Bool.or_true]
     cases e with
     |true=>exact main (p.is t true) (fun T Q hT=>(h4 T Q hT).is hsl) hok.1 (hds true) h1
     |false=>exact main (p.is t false) (fun T Q hT=>(h4 T Q hT).is hsl) hok.1 (hds false) h1
   ·cases h1
  ·cases h
end Mf
namespace Mf
open Go
set_option linter.unusedVariables false
set_option linter.unusedSimpArgs false
variable {Z:W0} {S T:St} {C:Cx} {w w':World} {a:Act}
variable {P:Program} {tb:Tb} {g:Gd} {o:Oper} {hn:Hint} {np:Nat} {G:Gam} {ops:Array Oper}
theorem Yka {acc:List (Nat×Nat)} {i:Nat}:∀ (l:List Edge) (s:Nat),(Ypg acc l s).testBit i=true→
  s.testBit i=true∨∃ e∈l,Region.binds .any e=true∧(i=e.on∨∃ m,lk e.on acc=some m∧m.testBit i=true)
 |[],s,h=>.inl h
 |e::l,s,h=>by
  simp only[Ypg] at h;rcases Yka l _ h with h | ⟨e',he,hb,h⟩
  ·split at h
   ·rename_i hb
    rw[Nat.testBit_or,Nat.testBit_or,Bool.or_eq_true,Bool.or_eq_true] at h;rcases h with h | h | h
    ·exact .inl h
    ·rw[Nat.testBit_two_pow,decide_eq_true_eq] at h
     exact .inr ⟨e,List.mem_cons_self,hb,.inl h.symm⟩
    ·split at h
     ·rename_i m hm
      exact .inr ⟨e,List.mem_cons_self,hb,.inr ⟨m,hm,h⟩⟩
     ·simp at h
   ·exact .inl h
  ·exact .inr ⟨e',List.mem_cons_of_mem _ he,hb,h⟩
def Bok (ops:Array Oper) (bs:List (Nat×Nat)):Prop:=∀ j m,lk j bs=some m→∀ i,m.testBit i=true→
 ∃ o,ops[j]? = some o∧∃ e∈o.after,Region.binds .any e=true∧(i=e.on∨(e.on<j∧∃ m',lk e.on bs=some m'∧m'.testBit i=true))
theorem Ybz {α:Type} (i j:Nat) (x:α) (l:List (Nat×α)):lk i ((j,x)::l)=if i=j then some x else lk i l:=by
 by_cases e:i=j
 ·subst e;simp[lk]
 ·rw[if_neg e]
  simp only[lk]
  rw[show Nat.beq i j=false from by rw[←Bool.not_eq_true,Nat.beq_eq];exact e]
theorem Ypd:∀ (l:List Oper) (n:Nat) (acc:List (Nat×Nat)),(∀ m:Nat,l[m]? = ops[n+m]?)→(∀ j m,lk j acc=some m→j<n)→Bok ops acc→Bok ops (Ys1 n l acc)
 |[],n,acc,hl,hn,h=>h
 |o::l,n,acc,hl,hn,h=>by
  have hi:ops[n]? = some o:=by have:=hl 0;simpa using this.symm
  refine Ypd l (n+1) _ (fun m=>?_) (fun j m hj=>?_) ?_
  ·have:=hl (m+1)
   rw[List.getElem?_cons_succ] at this
   rw[this,show n+(m+1)=n+1+m by omega]
  ·rw[Ybz] at hj
   split at hj
   ·omega
   ·have:=hn j m hj;omega
  ·intro j m hj i hi'
   rw[Ybz] at hj
   split at hj
   ·rename_i e;subst e
    cases hj;rcases Yka _ _ hi' with h0 | ⟨e,he,hb,h0⟩
    ·simp at h0
    ·refine⟨o,hi,e,by simpa using he,hb,?_⟩
     rcases h0 with h0 | ⟨m',h1,h2⟩
     ·exact .inl h0
     ·have:=hn _ _ h1
      exact .inr ⟨this,m',by rw[Ybz,if_neg (by omega)];exact h1,h2⟩
   ·obtain⟨o',h1,e,he,hb,h2⟩:=h j m hj i hi'
    refine⟨o',h1,e,he,hb,?_⟩;rcases h2 with h2 | ⟨h3,m',h4,h5⟩
    ·exact .inl h2
    ·have:=hn _ _ h4
     exact .inr ⟨h3,m',by rw[Ybz,if_neg (by omega)];exact h4,h5⟩
def Closed (ops:Array Oper) (listed:Array Bool):Prop:=∀ (j:Nat) o,ops[j]? = some o→listed.getD j false=true→∀ e∈o.after,Region.binds .any e=true→listed.getD e.on false=true
theorem Yje {bs:List (Nat×Nat)} (hb:Bok ops bs) {listed:Array Bool} (hc:Closed ops listed):∀ (n j:Nat),j<n→∀ o,ops[j]? = some o→(∀ e∈o.after,Region.binds .any e=true→listed.getD e.on false=true)→
  ∀ m,lk j bs=some m→∀ i,m.testBit i=true→listed.getD i false=true
 |0,j,hj,o,ho,he,m,hm,i,hi=>by omega
 |n+1,j,hj,o,ho,he,m,hm,i,hi=>by
  obtain⟨o',h1,e,h2,h3,h4⟩:=hb j m hm i hi
  have:o'=o:=by rw[ho] at h1;exact(Option.some.inj h1).symm
  subst this;have hl:=he e h2 h3;rcases h4 with rfl | ⟨h5,m',h6,h7⟩
  ·exact hl
  ·obtain⟨o2,g1,_⟩:=hb _ _ h6 _ h7
   exact Yje hb hc n e.on (by omega) o2 g1 (hc e.on o2 g1 hl) m' h6 i h7
def Ord (bs:List (Nat×Nat)):List Ac→Prop
 |[]=>True
 |x::A=>(∀ y∈A,Apart x.2 y.2∨∃ m,lk y.1 bs=some m∧m.testBit x.1=true)∧Ord bs A
theorem Ord.append {bs:List (Nat×Nat)}:∀ {A B:List Ac},Ord bs A→Ord bs B→(∀ x∈A,∀ y∈B,Apart x.2 y.2∨∃ m,lk y.1 bs=some m∧m.testBit x.1=true)→Ord bs (A++B)
 |[],B,h1,h2,h3=>h2
 |x::A,B,h1,h2,h3=>by
  refine⟨fun y hy=>?_,Ord.append h1.2 h2 (fun x hx=>h3 x (List.mem_cons_of_mem _ hx))⟩;rcases List.mem_append.1 hy with hy | hy
  ·exact h1.1 y hy
  ·exact h3 x List.mem_cons_self y hy
theorem Num.append:∀ {A B:List Ac} {n:Nat},Num n (A++B)↔Num n A∧Num (n+A.length) B
 |[],B,n=>by simp[Num]
 |x::A,B,n=>by
  simp only[List.cons_append,Num,List.length_cons,Num.append (A:=A)]
  rw[show n+1+A.length=n+(A.length+1) by omega,and_assoc]
theorem Ypu {α:Type} {p:List α→Prop} (h0:p []) (h1:∀ l x,p l→p (l++[x])) (l:List α):p l:=by
 have:∀ l:List α,p l.reverse:=by
  intro l
  induction l with
  |nil=>exact h0
  |cons x l ih=>rw[List.reverse_cons];exact h1 _ _ ih
 have h:=this l.reverse
 rwa [List.reverse_reverse] at h
theorem Ys8 {bj:Nat} {t:Rc}:∀ (A:List Ac) (n:Nat),Num n A→Ysk bj t (n+A.length) (A.map (·.2)).reverse=true→∀ x∈A,Apart x.2 t∨bj.testBit x.1=true:=by
 intro A
 refine Ypu (p:=fun A=>∀ n:Nat,Num n A→Ysk bj t (n+A.length) (A.map (·.2)).reverse=true→∀ x∈A,Apart x.2 t∨bj.testBit x.1=true) ?_ ?_ A
 ·intro n _ _ x hx;cases hx
 ·intro A y ih
  intro n hN h x hx;rw[List.map_append,List.reverse_append] at h
  simp only[List.map_cons,List.map_nil,List.reverse_cons,List.reverse_nil,List.nil_append,List.cons_append,Ysk,Bool.and_eq_true,Bool.or_eq_true,
   List.length_append,List.length_cons,List.length_nil] at h
  obtain⟨h1,h2⟩:=Num.append.1 hN
  rw[show n+(A.length+(0+1))-1=n+A.length by omega] at h
  rcases List.mem_append.1 hx with hx | hx
  ·exact ih n h1 h.2 x hx
  ·rw[List.mem_singleton] at hx;subst hx
   rcases h.1 with h | h
   ·exact .inl (Yrr h)
   ·rw[h2.1];exact .inr h
theorem Yss {bs:List (Nat×Nat)}:∀ (A:List Ac) (n:Nat),Num n A→Ymv bs (n+A.length) (A.map (·.2)).reverse=true→Ord bs A:=by
 intro A
 refine Ypu (p:=fun A=>∀ n:Nat,Num n A→Ymv bs (n+A.length) (A.map (·.2)).reverse=true→Ord bs A) ?_ ?_ A
 ·intro n _ _;trivial
 ·intro A y ih n hN h
  rw[List.map_append,List.reverse_append] at h
  simp only[List.map_cons,List.map_nil,List.reverse_cons,List.reverse_nil,List.nil_append,List.cons_append,Ymv,Bool.and_eq_true,
   List.length_append,List.length_cons,List.length_nil] at h
  obtain⟨h1,h2⟩:=Num.append.1 hN
  rw[show n+(A.length+(0+1))-1=n+A.length by omega] at h
  refine Ord.append (ih n h1 h.2) ⟨by simp,trivial⟩ (fun x hx z hz=>?_)
  rw[List.mem_singleton] at hz;subst hz;rcases Ys8 A n h1 h.1 x hx with h3 | h3
  ·exact .inl h3
  ·rw[h2.1]
   cases hm:lk (n+A.length) bs with
   |none=>rw[hm] at h3;simp at h3
   |some m=>rw[hm] at h3;exact .inr ⟨m,rfl,h3⟩
theorem Ykl {n:Nat}:∀ {l:List Edge},Yeq.edges n l=true→∀ e∈l,Region.binds .any e=true→e.on<n
 |[],h,e,he,hb=>by cases he
 |x::l,h,e,he,hb=>by
  simp only[Yeq.edges,Bool.and_eq_true] at h;rcases List.mem_cons.1 he with rfl | he
  ·have:=h.1;rw[hb] at this;simpa [Nat.blt_eq] using this
  ·exact Ykl h.2 e he hb
theorem Yhl:∀ {l:List Oper} {n:Nat},Yeq n l=true→(∀ m:Nat,l[m]? = ops[n+m]?)→∀ j o,n≤j→ops[j]? = some o→∀ e∈o.after,Region.binds .any e=true→e.on<j
 |[],n,h,hl,j,o,hj,ho,e,he,hb=>by
  have:=hl (j-n)
  rw[show n+(j-n)=j by omega,ho] at this
  cases this
 |x::l,n,h,hl,j,o,hj,ho,e,he,hb=>by
  simp only[Yeq,Bool.and_eq_true] at h
  by_cases e1:j=n
  ·subst e1
   have:=hl 0;simp only[Nat.add_zero,List.getElem?_cons_zero] at this;rw[ho] at this;cases this
   exact Ykl h.1 e (by simpa using he) hb
  ·refine Yhl h.2 (fun m=>?_) j o (by omega) ho e he hb
   have:=hl (m+1);rw[List.getElem?_cons_succ] at this
   rw[this,show n+(m+1)=n+1+m by omega]
end Mf
namespace Mf
open Go
set_option linter.unusedVariables false
set_option linter.unusedSimpArgs false
variable {Z:W0} {S T:St} {C:Cx} {w w':World} {a:Act}
variable {P:Program} {tb:Tb} {g:Gd} {o:Oper} {hn:Hint} {np:Nat} {G:Gam} {ops:Array Oper}
theorem Yfr (n:Nat) (s:Src) (i:Nat):s.cell {w with drawn:=n } i=s.cell w i:=by cases s<;>rfl
theorem Ykv (n:Nat):∀ (p:Path) (v:TV) (s:Src),nav {w with drawn:=n } v s p=nav w v s p:=by
 intro p
 induction p with
 |nil=>intro v s;rw[Yf,Yf]
 |cons x p ih=>
  intro v s
  cases x<;>cases v<;>first | rfl | (simp only[nav,ih];done) | (rename_i o t x;cases t<;>first | rfl | simp only[nav,ih,Yfr])
theorem Gs.drawn (M:Ya) (ρ:Yb) (L:Nat→Src) (n:Nat):Gs w {w with drawn:=n } M M ρ ρ L L Dd.none where
 size:=Nat.le_refl _
 st:=fun b h _=>⟨rfl,h⟩
 rl:=fun r q R b off _ h1 h2=>⟨R,h1,by rw[Ykv];exact h2⟩
 rs:=fun r q R s _ h1 h2 o e xs h3=>⟨R,h1,by rw[Ykv];exact h2,Yfr n s 0,o,xs,h3,rfl⟩
theorem Y3.never:∀ v:TV,Y3 Dd.none v:=by
 intro v
 induction v with
 |pr a b iha ihb=>exact⟨iha,ihb⟩
 |clo f c ih=>exact ih
 |loc=>exact fun h=>h
 |seg=>exact fun h=>h
 |sub=>exact fun h=>h
 |_=>trivial
theorem Inv.drawn (I:Inv Z S C a w) (n:Nat):Inv Z S C a {w with drawn:=n }:=by
 have g:=Gs.drawn (w:=w) (Mt Z C S.root noB) S.root C.L n;refine⟨?_,fun i v hv=>?_,I.df,I.ts⟩
 ·refine {I.str with
   rep:=fun r R hr=>(I.str.rep r R hr).go ⟨Nat.le_refl _,fun _ _=>rfl,fun b h _=>⟨rfl,h⟩⟩ (fun i _=>Yfr n _ i) (fun v u h=>Yi.go g (Y3.never v) h)
   mem:=fun r R hr hk=>I.str.mem r R hr hk }
 ·exact(I.tm i v hv).go g (Kd.refl (fun v=>Y3.never v) v) (fun _ _ _ _=>rfl)
theorem Yj8 (hnp:∀ i,np≤i→Z.P i=none) (hd:∀ (i:Nat) o d,ops[i]? = some o→o.dst=some d→d<Z.nt) {Q:Exit→Act→World→Prop} {S':St}
  (hQ:∀ C a w,Inv Z S' C a w→Q .normal a w):∀ (A:List Ac) (S:St) (C:Cx) (a:Act) (w:World),Run S A S'→(∀ x∈A,∃ o,Yoa P ops np x o)→Later ops A→GdI ops S A→Inv Z S C a w→
  wpOps P ops Q (A.map (·.1)) a w
 |[],S,C,a,w,hr,ho,hl,hg,I=>hQ C a w ((show Eqv S S' from hr).inv I)
 |x::A,S,C,a,w,hr,ho,hl,hg,I=>by
  rw[List.map_cons,wpOps_cons];obtain⟨o,hx⟩:=ho x List.mem_cons_self;refine hx.so S Q hr.1 Z C a w _ I hnp (hg.free List.mem_cons_self hx.op) (fun d e=>hd x.1 o d hx.op e) (fun C' a' w' I'=>?_)
  exact Yj8 hnp hd hQ A _ C' a' w' hr.2 (fun y hy=>ho y (List.mem_cons_of_mem _ hy)) hl.2 (GdI.step (A:=[]) hg hx (by simp) hl.1 (by simp)) I'
theorem Later.drop:∀ {A:List Ac} {x:Ac} {B:List Ac},Later ops (A++x::B)→Later ops (A++B)∧∀ y∈B,Yl1 ops x y
 |[],x,B,h=>⟨h.2,h.1⟩
 |z::A,x,B,h=>by
  obtain⟨h1,h2⟩:=Later.drop h.2;refine⟨⟨fun y hy=>h.1 y ?_,h1⟩,h2⟩;rcases List.mem_append.1 hy with hy | hy
  ·exact List.mem_append_left _ hy
  ·exact List.mem_append_right _ (List.mem_cons_of_mem _ hy)
theorem Ord.drop {bs:List (Nat×Nat)}:∀ {A:List Ac} {x:Ac} {B:List Ac},Ord bs (A++x::B)→Ord bs (A++B)∧∀ y∈A,Apart y.2 x.2∨∃ m,lk x.1 bs=some m∧m.testBit y.1=true
 |[],x,B,h=>⟨h.2,by simp⟩
 |z::A,x,B,h=>by
  obtain⟨h1,h2⟩:=Ord.drop h.2;refine⟨⟨fun y hy=>h.1 y ?_,h1⟩,fun y hy=>?_⟩
  ·rcases List.mem_append.1 hy with hy | hy
   ·exact List.mem_append_left _ hy
   ·exact List.mem_append_right _ (List.mem_cons_of_mem _ hy)
  ·rcases List.mem_cons.1 hy with rfl | hy
   ·exact h.1 x (by simp)
   ·exact h2 y hy
def Yoe:List Ac→Prop
 |[]=>True
 |x::A=>(∀ y∈A,x.1<y.1)∧Yoe A
theorem Num.rise:∀ {A:List Ac} {n:Nat},Num n A→Yoe A
 |[],n,h=>trivial
 |x::A,n,h=>⟨fun y hy=>by have:=h.2.mem y hy;have:=h.1;omega,h.2.rise⟩
theorem Yoe.drop:∀ {A:List Ac} {x:Ac} {B:List Ac},Yoe (A++x::B)→Yoe (A++B)∧(∀ y∈A,y.1≠x.1)∧(∀ y∈B,y.1≠x.1)
 |[],x,B,h=>⟨h.2,by simp,fun y hy=>by have:=h.1 y hy;omega⟩
 |z::A,x,B,h=>by
  obtain⟨h1,h2,h3⟩:=Yoe.drop h.2;refine⟨⟨fun y hy=>h.1 y ?_,h1⟩,fun y hy=>?_,h3⟩
  ·rcases List.mem_append.1 hy with hy | hy
   ·exact List.mem_append_left _ hy
   ·exact List.mem_append_right _ (List.mem_cons_of_mem _ hy)
  ·rcases List.mem_cons.1 hy with rfl | hy
   ·have:=h.1 x (by simp);omega
   ·exact h2 y hy
theorem Ykt (hnp:∀ i,np≤i→Z.P i=none) (hd:∀ (i:Nat) o d,ops[i]? = some o→o.dst=some d→d<Z.nt) {Q:Exit→Act→World→Prop} {S':St}
  (hQ:∀ C a w,Inv Z S' C a w→Q .normal a w) {bs:List (Nat×Nat)} (hb:Bok ops bs) (he:∀ (j:Nat) o,ops[j]? = some o→∀ e∈o.after,Region.binds .any e=true→e.on<j) :
  ∀ (n:Nat) (A:List Ac) (listed:Array Bool) (S:St) (C:Cx) (a:Act) (w:World),A.length=n→listed.size=ops.size→(∀ i,i<ops.size→(listed.getD i true=false↔∃ x∈A,x.1=i))→
   Closed ops listed→Yoe A→Ord bs A→Run S A S'→(∀ x∈A,∃ o,Yoa P ops np x o)→Later ops A→GdI ops S A→Inv Z S C a w→wpAny P .any ops Q n listed a w
 |0,A,listed,S,C,a,w,hA,hs,hl,hc,hri,hor,hr,ho,hla,hg,I=>by
  have e:=List.eq_nil_of_length_eq_zero hA;subst e;refine⟨?_,hQ C a w ((show Eqv S S' from hr).inv I)⟩
  cases hR:Region.ready .any ops listed with
  |nil=>rfl
  |cons i l=>
   have hi:i∈Region.ready .any ops listed:=by rw[hR];exact List.mem_cons_self
   obtain⟨h1,o,h2,_⟩:=mem_ready.1 hi;obtain⟨x,hx,_⟩:=(hl i (Array.getElem?_eq_some_iff.1 h2).1).1 h1
   cases hx
 |n+1,A,listed,S,C,a,w,hA,hs,hl,hc,hri,hor,hr,ho,hla,hg,I=>by
  have inA:∀ i,i<ops.size→listed.getD i false=false→∃ x∈A,x.1=i:=by
   intro i hi h0;refine(hl i hi).1 ?_;simp[hs,hi] at h0 ⊢;exact h0
  refine⟨fun hR=>?_,fun i hi=>?_⟩
  ·cases A with
   |nil=>cases hA
   |cons x A=>
    exfalso;obtain⟨o,hx⟩:=ho x List.mem_cons_self;have hlt:=(Array.getElem?_eq_some_iff.1 hx.op).1
    have:x.1∈Region.ready .any ops listed:=by
     refine mem_ready.2 ⟨(hl x.1 hlt).2 ⟨x,List.mem_cons_self,rfl⟩,o,hx.op,fun e hee hbb=>?_⟩;have h1:=he x.1 o hx.op e hee hbb
     cases hv:listed.getD e.on false with
     |true=>rfl
     |false=>
      obtain⟨y,hy,hy2⟩:=inA e.on (by omega) hv
      rcases List.mem_cons.1 hy with rfl | hy
      ·omega
      ·have:=hri.1 y hy;omega
    rw[hR] at this;cases this
  ·obtain⟨h1,o,h2,h3⟩:=mem_ready.1 hi
   have hlt:=(Array.getElem?_eq_some_iff.1 h2).1;obtain⟨x,hx,rfl⟩:=(hl i hlt).1 h1;obtain⟨pre,post,rfl⟩:=List.append_of_mem hx;obtain⟨or1,or2⟩:=hor.drop;obtain⟨la1,la2⟩:=hla.drop;obtain⟨ri1,ri2,ri3⟩:=hri.drop
   have hpre:∀ y∈pre,Apart y.2 x.2:=by
    intro y hy;rcases or2 y hy with h | ⟨m,hm,hbit⟩
    ·exact h
    ·exfalso
     have:=Yje hb hc (x.1+1) x.1 (by omega) o h2 h3 m hm y.1 hbit
     obtain⟨oy,hoy⟩:=ho y (List.mem_append_left _ hy);have hyl:=(hl y.1 (Array.getElem?_eq_some_iff.1 hoy.op).1).2 ⟨y,List.mem_append_left _ hy,rfl⟩;have hyt:=(Array.getElem?_eq_some_iff.1 hoy.op).1;simp[hs,hyt] at this hyl;rw[this] at hyl;cases hyl
   obtain⟨f1,f2⟩:=hr.bubble hpre;obtain⟨o',hx'⟩:=ho x hx
   have:o'=o:=by have:=hx'.op;rw[h2] at this;exact(Option.some.inj this).symm
   subst this;refine hx'.so S Q f1 Z C a w _ I hnp (hg.free hx h2) (fun d e=>hd x.1 o' d h2 e) (fun C' a' w' I'=>?_)
   have hsub:∀ y∈pre++post,y∈pre++x::post:=by
    intro y hy;rcases List.mem_append.1 hy with hy | hy
    ·exact List.mem_append_left _ hy
    ·exact List.mem_append_right _ (List.mem_cons_of_mem _ hy)
   refine Ykt hnp hd hQ hb he n (pre++post) _ _ C' a' w' ?_ (by simp[hs]) (fun j hj=>?_) ?_ ri1 or1 f2 (fun y hy=>ho y (hsub y hy)) la1
    (GdI.step hg hx' hpre la2 (fun y hy=>ho y (List.mem_append_left _ hy))) I'
   ·simp at hA ⊢;omega
   ·by_cases e:x.1=j
    ·subst e
     constructor
     ·intro hh;simp[hs,hj] at hh
     ·rintro⟨y,hy,hy2⟩
      rcases List.mem_append.1 hy with hy | hy
      ·exact absurd hy2 (ri2 y hy)
      ·exact absurd hy2 (ri3 y hy)
    ·rw[getD_set_ne true e,hl j hj]
     constructor
     ·rintro⟨y,hy,rfl⟩
      rcases List.mem_append.1 hy with hy | hy
      ·exact⟨y,List.mem_append_left _ hy,rfl⟩
      ·rcases List.mem_cons.1 hy with rfl | hy
       ·exact absurd rfl e
       ·exact⟨y,List.mem_append_right _ hy,rfl⟩
     ·rintro⟨y,hy,rfl⟩;exact⟨y,hsub y hy,rfl⟩
   ·intro j oj hj hjl e hee hbb
    by_cases e1:x.1=j
    ·subst e1
     rw[h2] at hj;cases hj;exact getD_set_true (h3 e hee hbb)
    ·rw[getD_set_ne false e1] at hjl
     exact getD_set_true (hc j oj hj hjl e hee hbb)
end Mf
namespace Mf
open Go
set_option linter.unusedVariables false
set_option linter.unusedSimpArgs false
variable {Z:W0} {S T:St} {C:Cx} {w w':World} {a:Act}
variable {P:Program} {tb:Tb} {g:Gd} {o:Oper} {hn:Hint} {np nt:Nat} {G:Gam} {ops:Array Oper}
def Ybd (S:St):Prop:=∀ s t b v,lk s S.tm≠some (.gd t b v)
theorem Ylh:∀ (l:List (Nat×TV)) (i:Nat) (v:TV),lk i (Yio l)=some v→(lk i l=some v∧∀ t b u,v≠.gd t b u)∨v=.dead 1
 |[],i,v,h=>by cases h
 |(j,y)::l,i,v,h=>by
  have ih:=Ylh l i v
  have key:∀ y',(∀ t b u,y'≠.gd t b u)→lk i ((j,y')::Yio l)=some v→(y'=y∨y'=.dead 1)→(lk i ((j,y)::l)=some v∧∀ t b u,v≠.gd t b u)∨v=.dead 1:=by
   intro y' hy' hh he;rw[Ybz] at hh ⊢
   split at hh
   ·cases hh
    rcases he with rfl | rfl
    ·rename_i e;rw[if_pos e];exact .inl ⟨rfl,hy'⟩
    ·exact .inr rfl
   ·rename_i e;rw[if_neg e];exact ih hh
  cases y with
  |gd t b u=>exact key (.dead 1) (fun _ _ _ e=>by cases e) h (.inr rfl)
  |_=>exact key _ (fun _ _ _ e=>by cases e) h (.inl rfl)
theorem Inv.Yio (I:Inv Z S C a w):Inv Z {S with tm:=Yio S.tm } C a w:=by
 refine⟨I.str,fun i v hv=>?_,I.df,I.ts⟩;rcases Ylh _ _ _ hv with ⟨h,_⟩ | rfl
 ·exact I.tm i v h
 ·trivial
theorem Ygf:∀ {l:List Oper},guarded l=false→∀ o∈l,o.guard=none
 |[],h,o,ho=>by cases ho
 |x::l,h,o,ho=>by
  simp only[guarded,Bool.or_eq_false_iff] at h;rcases List.mem_cons.1 ho with rfl | ho
  ·cases hg:o.guard with
   |none=>rfl
   |some y=>rw[hg] at h;cases h.1
  ·exact Ygf h.2 o ho
theorem Run.Yio:∀ {A:List Ac} {S S':St},Run S A S'→Ybd S→(∀ x∈A,∃ o,Yoa P ops np x o∧o.guard=none)→Ybd S'
 |[],S,S',h,hS,hA=>fun s t b v hv=>hS s t b v (((show Eqv S S' from h).tm s).trans hv)
 |x::A,S,S',h,hS,hA=>by
  refine Run.Yio h.2 (fun s t b v hv=>?_) (fun y hy=>hA y (List.mem_cons_of_mem _ hy));obtain⟨o,hx,hg⟩:=hA x List.mem_cons_self;rw[Yd8] at hv
  split at hv
  ·rename_i v' hv'
   cases hv;have:=Ylq hx.tm s t b v hv';unfold Ybh at this;rw[hg] at this;cases this
  ·cases hs:lk s S.tm with
   |none=>rw[hs] at hv;cases hv
   |some v0=>
    rw[hs] at hv;simp only[Option.map_some,Option.some.injEq] at hv;obtain⟨u',rfl⟩:=Ygq hv;exact hS s t b u' hs
theorem Yn1 {l:List Oper} (I:Inv Z S C a w):Inv Z (Yfh l S) C a w:=by
 unfold Yfh
 split
 ·exact I.Yio
 ·exact I
theorem Yqa {l:List Oper} (h:guarded l=true):Ybd (Yfh l S):=by
 unfold Yfh;rw[h];intro s t b v hv;rcases Ylh _ _ _ hv with ⟨_,h⟩ | h
 ·exact h t b v rfl
 ·cases h
theorem Yh9:∀ {l:List Oper},Yk9 nt l=true→∀ o∈l,∀ d,o.dst=some d→d<nt
 |[],h,o,ho,d,hd=>by cases ho
 |x::l,h,o,ho,d,hd=>by
  simp only[Yk9,Bool.and_eq_true] at h;rcases List.mem_cons.1 ho with rfl | ho
  ·have:=h.1;rw[hd] at this;simpa [Nat.blt_eq] using this
  ·exact Yh9 h.2 o ho d hd
theorem Num.range:∀ {A:List Ac} {n:Nat},Num n A→A.map (·.1)=List.range' n A.length
 |[],n,h=>rfl
 |x::A,n,h=>by
  rw[List.map_cons,List.length_cons,List.range'_succ,h.1,h.2.range]
theorem Num.ex:∀ {A:List Ac} {n:Nat},Num n A→∀ i,n≤i→i<n+A.length→∃ x∈A,x.1=i
 |[],n,h,i,h1,h2=>by simp at h2;omega
 |x::A,n,h,i,h1,h2=>by
  simp only[List.length_cons] at h2
  by_cases e:i=n
  ·exact⟨x,List.mem_cons_self,by rw[h.1,e]⟩
  ·obtain⟨y,hy,hy2⟩:=h.2.ex i (by omega) (by omega)
   exact⟨y,List.mem_cons_of_mem _ hy,hy2⟩
theorem Ymy (ht:Yag P tb) (hG:GOk P G) (hm:P.follows .mixedOrders=true) {draw:Bool} {R:Type} {k:St→Option R} {r:R} (hS:Ybd S)
  (h:Ysc tb hn nt np G draw ops S k=some r):∃ S',k S'=some r∧Ybd S'∧∀ (Z:W0) (C:Cx) (a:Act) (w:World) (id:Nat) (Q:Exit→Act→World→Prop),Z.nt=nt→(∀ i,np≤i→Z.P i=none)→
   Inv Z S C a w→(∀ C a w,Inv Z S' C a w→Q .normal a w)→(Code.region id ops draw).wp P Q a w:=by
 unfold Ysc at h
 split at h
 ·cases h
 ·rename_i hdst
  have hl:∀ m:Nat,ops.toList[m]? = ops[0+m]?:=fun m=>by simp
  obtain⟨A,S',h1,h2,h3,h4,h5,h6⟩:=Yhe ht hG ops.toList 0 S [] hl h
  split at h1
  ·rename_i hord
   rw[List.append_nil] at hord;have hgd0:GdI ops S A:=fun s t b v hv=>absurd hv (hS s t b v)
   have hds:∀ (i:Nat) o d,ops[i]? = some o→o.dst=some d→d<nt:=fun i o d ho hd=>
    Yh9 hdst o (by simpa using Array.mem_of_getElem? ho) d hd
   refine⟨_,h1,?_,fun Z C a w id Q hnt hnp I hQ=>?_⟩
   ·cases hg:guarded ops.toList with
    |true=>exact Yqa hg
    |false=>
     rw[show Yfh ops.toList S'=S' by unfold Yfh;rw[hg]]
     refine Run.Yio (P:=P) (np:=np) (ops:=ops) h2 hS (fun x hx=>?_);obtain⟨o,ho⟩:=h5 x hx
     exact⟨o,ho,Ygf hg o (by simpa using Array.mem_of_getElem? ho.op)⟩
   ·subst hnt
    have hQ':∀ C a w,Inv Z S' C a w→Q .normal a w:=fun C a w I=>hQ C a w (Yn1 I)
    have hlen:A.length=ops.size:=by rw[h4];simp
    cases draw with
    |false=>
     refine wp_region ?_;have:=Yj8 hnp hds hQ' A S C a w h2 h5 h6 hgd0 I;rw[h3.range,hlen] at this
     rw[List.range_eq_range'];exact this
    |true=>
     simp only[Bool.and_eq_true] at hord;refine wp_region_any hm ?_;have hN:Num 0 A:=h3
     refine Ykt hnp hds hQ' (bs:=Ys1 0 ops.toList []) ?_ ?_ ops.size A _ S C a _ hlen (by simp) (fun i hi=>?_) ?_ h3.rise ?_ h2 h5 h6 hgd0 (I.drawn _)
     ·exact Ypd ops.toList 0 [] hl (fun j m hj=>by cases hj) (fun j m hj=>by cases hj)
     ·exact fun j o ho e he hb=>Yhl hord.1 hl j o (Nat.zero_le _) ho e he hb
     ·constructor
      ·intro _;exact h3.ex i (Nat.zero_le _) (by omega)
      ·intro _;simp[hi]
     ·intro j o ho hj;exfalso
      simp only[Array.getD_eq_getD_getElem?] at hj
      cases hh:(Array.replicate ops.size false)[j]? with
      |none=>rw[hh] at hj;cases hj
      |some b=>
       rw[hh] at hj;rw[Array.getElem?_replicate] at hh
       split at hh<;>cases hh
       cases hj
     ·refine Yss A 0 h3 ?_
      rw[show 0+A.length=ops.toList.length by rw[h4,Nat.zero_add]]
      exact hord.2
  ·cases h1
end Mf
namespace Mf
open Go
set_option linter.unusedVariables false
set_option linter.unusedSimpArgs false
variable {Z:W0} {S T:St} {C:Cx} {w w':World} {a:Act}
def Yr2 (b:List Nat):Dd:=⟨fun r _=>Ya0 r b=false,fun r _=>Ya0 r b=false⟩
theorem Ydz (b:List Nat):∀ v:TV,Kd (Y3 (Yr2 b)) v (v.only b):=by
 have key:∀ v v':TV,∀ r,(v'=match Ya0 r b with | true=>v | false=>.dead 1)→(Ya0 r b=true→Y3 (Yr2 b) v)→(v'=v∧Y3 (Yr2 b) v)∨v'=.dead 1:=by
  intro v v' r e h
  cases hr:Ya0 r b with
  |true=>rw[hr] at e;exact .inl ⟨e,h hr⟩
  |false=>rw[hr] at e;exact .inr e
 intro v
 induction v with
 |pr a b iha ihb=>exact⟨_,_,rfl,iha,ihb⟩
 |tup l ih=>exact⟨_,rfl,ih⟩
 |gd t w v ih=>exact⟨_,rfl,ih⟩
 |cl o t x=>rfl
 |dead n=>rfl
 |rw o e xs i v=>rfl
 |kb n=>rfl
 |op n=>rfl
 |nl=>exact .inl ⟨rfl,trivial⟩
 |pt t x=>exact .inl ⟨rfl,trivial⟩
 |loc r q=>exact key (.loc r q) _ r rfl (fun h e=>by rw[show Ya0 r b=false from e] at h;cases h)
 |seg r q=>exact key (.seg r q) _ r rfl (fun h e=>by rw[show Ya0 r b=false from e] at h;cases h)
 |sub r q lo n=>exact key (.sub r q lo n) _ r rfl (fun h e=>by rw[show Ya0 r b=false from e] at h;cases h)
 |clo f c ih=>
  have h0:(TV.clo f c).only b=match (c.only b).live with | true=>.clo f c | false=>.dead 1:=rfl
  rw[h0]
  have al:∀ c:TV,(c.only b).live=true→Y3 (Yr2 b) c:=by
   intro c
   induction c with
   |pr x y ihx ihy=>intro h;simp only[TV.only,TV.live,Bool.and_eq_true] at h;exact⟨ihx h.1,ihy h.2⟩
   |loc r q=>intro h e;have e:Ya0 r b=false:=e;simp only[TV.only,e] at h;cases h
   |seg r q=>intro h e;have e:Ya0 r b=false:=e;simp only[TV.only,e] at h;cases h
   |sub r q lo n=>intro h e;have e:Ya0 r b=false:=e;simp only[TV.only,e] at h;cases h
   |clo f c ih=>
    intro h
    cases hc:(c.only b).live with
    |true=>exact ih hc
    |false=>simp only[TV.only,hc] at h;cases h
   |_=>intro _;trivial
  cases hc:(c.only b).live with
  |true=>exact .inl ⟨rfl,al c hc⟩
  |false=>exact .inr rfl
theorem Yeu {b:List Nat}:∀ (l:List Nat) {i:Nat} {v:TV},lk i (Yfi S b l)=some v→∃ v0,lk i S.tm=some v0∧v=v0.only b
 |[],i,v,h=>by cases h
 |j::l,i,v,h=>by
  simp only[Yfi] at h
  split at h
  ·rename_i v0 hv0
   rw[Ybz] at h
   split at h
   ·rename_i e;subst e;cases h;exact⟨v0,hv0,rfl⟩
   ·exact Yeu l h
  ·exact Yeu l h
theorem Ygp {b:List Nat}:∀ (l:List Nat) (r:Nat),(Ya0 r l=true→lk r (Yb7 S b l)=(S.root r).map fun R=>some {R with tv:=R.tv.only b })∧(Ya0 r l=false→lk r (Yb7 S b l)=none)
 |[],r=>⟨(fun h=>by cases h),fun _=>rfl⟩
 |j::l,r=>by
  have ih:=Ygp (b:=b) l r
  by_cases e:r=j
  ·subst e
   have hb:Ya0 r (r::l)=true:=by simp[Ya0]
   refine⟨fun _=>?_,fun h=>by rw[hb] at h;cases h⟩
   simp only[Yb7]
   cases hR:S.root r with
   |some R=>simp only;rw[Ybz,if_pos rfl];rfl
   |none=>
    simp only
    cases hl:Ya0 r l with
    |true=>rw[ih.1 hl,hR]
    |false=>rw[ih.2 hl];rfl
  ·have hb:Ya0 r (j::l)=Ya0 r l:=by
    simp only[Ya0];rw[show Nat.beq r j=false from by rw[←Bool.not_eq_true,Nat.beq_eq];exact e,Bool.false_or]
   rw[hb]
   have hk:lk r (Yb7 S b (j::l))=lk r (Yb7 S b l):=by
    simp only[Yb7]
    split
    ·rw[Ybz,if_neg e]
    ·rfl
   rw[hk];exact ih
def Root.only (b:List Nat) (R:Root):Root:={R with tv:=R.tv.only b }
theorem Yg1 (A b:List Nat) (r:Nat):(S.keep A b).root r=match Ya0 r b with | true=>(S.root r).map (Root.only b) | false=>none:=by
 unfold St.keep
 show(match lk r (Yb7 S b b) with | some (some R)=>some R | _=>none)=_
 cases hb:Ya0 r b with
 |true=>
  rw[(Ygp b r).1 hb]
  cases S.root r<;>rfl
 |false=>rw[(Ygp b r).2 hb]
theorem Y4 {A b:List Nat} {r:Nat} {R':Root} (h:(S.keep A b).root r=some R'):∃ R,S.root r=some R∧R'=Root.only b R∧Ya0 r b=true:=by
 rw[Yg1] at h
 split at h
 ·rename_i hb
  cases hR:S.root r with
  |none=>rw[hR] at h;cases h
  |some R=>rw[hR] at h;cases h;exact⟨R,rfl,rfl,hb⟩
 ·cases h
theorem Yps (Z:W0) (C:Cx) (A b:List Nat) (G:Ya):Ye (Mt Z C (S.keep A b).root G) (Mt Z C S.root G):=by
 intro x hx;rcases hx with ⟨r,R',hr,ht⟩ | hx
 ·obtain⟨R,h1,rfl,_⟩:=Y4 hr
  exact .inl ⟨r,R,h1,ht⟩
 ·exact .inr hx
theorem Gs.keep (Z:W0) (C:Cx) (A b:List Nat):Gs w w (Mt Z C S.root noB) (Mt Z C (S.keep A b).root noB) S.root (S.keep A b).root C.L C.L (Yr2 b) where
 size:=Nat.le_refl _
 st:=fun x hx _=>⟨rfl,fun h=>hx (Yps Z C A b noB x h)⟩
 rl:=fun r q R bb off hd hr hn=>by
  have hb:Ya0 r b=true:=by cases h:Ya0 r b with | true=>rfl | false=>exact absurd h hd
  exact⟨Root.only b R,by rw[Yg1,hb,hr];rfl,Kd.nav w q (Ydz b R.tv) hn⟩
 rs:=fun r q R s hd hr hn o e xs hg=>by
  have hb:Ya0 r b=true:=by cases h:Ya0 r b with | true=>rfl | false=>exact absurd h hd
  exact⟨Root.only b R,by rw[Yg1,hb,hr];rfl,Kd.nav w q (Ydz b R.tv) hn,rfl,o,xs,Kd.gr q (Ydz b R.tv) hg,rfl⟩
theorem Yp1 (b:List Nat) (v:TV):(v.only b).size=v.size:=(Ydz b v).size
theorem Inv.keep (I:Inv Z S C a w) (A b:List Nat):Inv Z (S.keep A b) C a w:=by
 have g:=Gs.keep (w:=w) (S:=S) Z C A b;refine⟨?_,fun i v hv=>?_,I.df,I.ts⟩
 ·have st:=I.str
  refine {st with rep:=?_,reg:=?_,mem:=?_,bnd:=?_,dis:=?_,gdis:=?_,plc:=?_ }
  ·intro r R' hr
   obtain⟨R,h1,rfl,h2⟩:=Y4 hr;have h3:=(st.rep r R h1).kd (Lf':=Yi w (Mt Z C (S.keep A b).root noB) C.L (S.keep A b).root) (fun _ _ h=>h.Yjh) (fun v u hv h=>Yi.go g hv h) (Ydz b R.tv);exact h3.mono (Yps Z C A b noB)
  ·intro r R' hr hk
   obtain⟨R,h1,rfl,h2⟩:=Y4 hr;exact st.reg r R h1 hk
  ·intro r R' hr hk
   obtain⟨R,h1,rfl,h2⟩:=Y4 hr;obtain⟨bb,off,g1,g2,g3,g4,g5,g6⟩:=st.mem r R h1 hk;have e:(Root.only b R).tv.size=R.tv.size:=Yp1 b R.tv;rw[e];exact⟨bb,off,g1,g2,g3,g4,g5,g6⟩
  ·intro r R' x hr hF
   obtain⟨R,h1,rfl,h2⟩:=Y4 hr;exact st.bnd r R x h1 hF
  ·intro r r' R1 R2 hne hr hr'
   obtain⟨Ra,h1,rfl,_⟩:=Y4 hr;obtain⟨Rb,h2,rfl,_⟩:=Y4 hr';exact st.dis r r' Ra Rb hne h1 h2
  ·intro r R' hr
   obtain⟨R,h1,rfl,h2⟩:=Y4 hr;exact st.gdis r R h1
  ·intro r R' hr
   obtain⟨R,h1,rfl,h2⟩:=Y4 hr;exact st.plc r R h1
 ·obtain⟨v0,h1,rfl⟩:=Yeu A hv
  exact(I.tm i v0 h1).go g (Ydz b v0) (fun _ _ _ _=>rfl)
theorem Ytj {b:List Nat} {v u:TV} {t:Nat} {x:Bool} (h:v.only b=.gd t x u):∃ u',v=.gd t x u':=by
 have hk:=Ydz b v;rw[h] at hk
 cases v with
 |gd t' b' v'=>obtain⟨u',e,_⟩:=hk;cases e;exact⟨_,rfl⟩
 |pr=>obtain⟨_,_,e,_⟩:=hk;cases e
 |tup=>obtain⟨_,e,_⟩:=hk;cases e
 |cl=>cases (show _=_ from hk)
 |dead=>cases (show _=_ from hk)
 |kb=>cases (show _=_ from hk)
 |op=>cases (show _=_ from hk)
 |_=>rcases hk with ⟨e,_⟩ | e<;>cases e
theorem Ybd.keep (h:Ybd S) (A b:List Nat):Ybd (S.keep A b):=by
 intro s t x v hv;obtain⟨v0,h1,h2⟩:=Yeu A hv;obtain⟨u',rfl⟩:=Ytj h2.symm;exact h s t x u' h1
end Mf
namespace Mf
open Go
set_option linter.unusedVariables false
set_option linter.unusedSimpArgs false
variable {Z:W0} {S T:St} {C:Cx} {w w':World} {a:Act}
def PT.closed (b:List Nat):PT→Bool
 |.pr x y=>x.closed b&&y.closed b
 |.loc r _ | .seg r _ | .sub r _=>Ya0 r b
 |.clo _ c=>c.closed b
 |.tup l=>l.closed b
 |_=>true
def Ygd (b:List Nat):List (Nat×PT)→Bool
 |[]=>true
 |(_,p)::l=>p.closed b&&Ygd b l
def Yfy (b:List Nat):List (Nat×Kind×PT)→Bool
 |[]=>true
 |(_,_,p)::l=>p.closed b&&Yfy b l
def SP.tk (s:SP):List Nat:=s.tm.map (·.1)
def SP.rk (s:SP):List Nat:=s.rt.map (·.1)
def SP.closed (s:SP):Bool:=Ygd s.rk s.tm&&Yfy s.rk s.rt
theorem PS.Ye4:∀ {p:List PS} {q:Path} {x:PS.Els p},PS.rd p q=some x→PS.mk p x=q
 |[],[],x,h=>rfl
 |[],_::_,x,h=>by cases h
 |.el::p,[],x,h=>by cases h
 |.f1::p,[],x,h=>by cases h
 |.f2::p,[],x,h=>by cases h
 |.el::p,.el i::q,x,h=>by
  simp only[PS.rd] at h
  split at h
  ·rename_i y hy;cases h;simp only[PS.mk,PS.Ye4 hy]
  ·cases h
 |.el::p,.f1::q,x,h=>by cases h
 |.el::p,.f2::q,x,h=>by cases h
 |.f1::p,.f1::q,x,h=>by simp only[PS.mk];rw[PS.Ye4 (show PS.rd p q=some x from h)]
 |.f1::p,.el _::q,x,h=>by cases h
 |.f1::p,.f2::q,x,h=>by cases h
 |.f2::p,.f2::q,x,h=>by simp only[PS.mk];rw[PS.Ye4 (show PS.rd p q=some x from h)]
 |.f2::p,.el _::q,x,h=>by cases h
 |.f2::p,.f1::q,x,h=>by cases h
theorem PT.Ye4:∀ {p:PT} {v:TV} {x:p.El},p.rd v=some x→p.mk x=v:=by
 intro p
 induction p with
 |cl o t=>
  intro v x h
  cases v<;>try cases h
  simp only[PT.rd] at h
  split at h
  ·rename_i h1 h2 _ _;subst h1;subst h2;cases h;rfl
  ·cases h
 |pr a b iha ihb=>
  intro v x h
  cases v<;>try cases h
  simp only[PT.rd] at h
  split at h
  ·rename_i h1 h2;cases h;simp only[PT.mk,iha h1,ihb h2]
  ·cases h
 |nl=>intro v x h;cases v<;>first | rfl | cases h
 |loc r p=>
  intro v x h
  cases v<;>try cases h
  simp only[PT.rd] at h
  split at h
  ·rename_i e;rw[Nat.beq_eq] at e;subst e;simp only[PT.mk,PS.Ye4 h]
  ·cases h
 |seg r p=>
  intro v x h
  cases v<;>try cases h
  simp only[PT.rd] at h
  split at h
  ·rename_i e;rw[Nat.beq_eq] at e;subst e;simp only[PT.mk,PS.Ye4 h]
  ·cases h
 |sub r p=>
  intro v x h
  cases v<;>try cases h
  simp only[PT.rd] at h
  split at h
  ·rename_i e;rw[Nat.beq_eq] at e;subst e
   split at h
   ·rename_i hy;cases h;simp only[PT.mk,PS.Ye4 hy]
   ·cases h
  ·cases h
 |pt t=>
  intro v x h
  cases v<;>try cases h
  simp only[PT.rd] at h
  split at h
  ·rename_i h1 _;subst h1;cases h;rfl
  ·cases h
 |op a ih=>
  intro v x h
  cases v<;>try cases h
  simp only[PT.mk];rw[ih h]
 |clo f c ih=>
  intro v x h
  cases v<;>try cases h
  simp only[PT.rd] at h
  split at h
  ·rename_i e;rw[Nat.beq_eq] at e;subst e;simp only[PT.mk,ih h]
  ·cases h
 |tup l ih=>
  intro v x h
  cases v<;>try cases h
  simp only[PT.mk];rw[ih h]
 |kb b=>
  intro v x h
  cases v<;>try cases h
  simp only[PT.rd] at h;rename_i c
  cases b<;>cases c<;>first | rfl | cases h
theorem PT.Ytu:∀ (p:PT) (x:p.El),(p.mk x).live=true:=by
 intro p
 induction p with
 |pr a b iha ihb=>intro x;simp only[PT.mk,TV.live,iha,ihb];rfl
 |_=>intro x;rfl
theorem PT.only {b:List Nat}:∀ (p:PT) (x:p.El),p.closed b=true→(p.mk x).only b=p.mk x:=by
 intro p
 induction p with
 |pr a c iha ihb=>intro x h;simp only[PT.closed,Bool.and_eq_true] at h;simp only[PT.mk,TV.only,iha _ h.1,ihb _ h.2]
 |loc r p=>intro x h;simp only[PT.closed] at h;simp only[PT.mk,TV.only,h]
 |seg r p=>intro x h;simp only[PT.closed] at h;simp only[PT.mk,TV.only,h]
 |sub r p=>intro x h;simp only[PT.closed] at h;simp only[PT.mk,TV.only,h]
 |clo f c ih=>intro x h;simp only[PT.closed] at h;simp only[PT.mk,TV.only,ih _ h,PT.Ytu]
 |tup l ih=>intro x h;simp only[PT.closed] at h;simp only[PT.mk,TV.only,ih _ h]
 |_=>intro x h;rfl
theorem Yj9 {b:List Nat}:∀ {l:List (Nat×PT)} {x:Ymh l},Ygd b l=true→Ytt S l=some x→Yto l x=Yfi S b (l.map (·.1))
 |[],x,hc,h=>rfl
 |(i,p)::l,x,hc,h=>by
  simp only[Ygd,Bool.and_eq_true] at hc;simp only[Ytt] at h
  split at h
  ·rename_i v hv
   split at h
   ·rename_i y hy
    split at h
    ·rename_i z hz
     cases h;simp only[Yto,List.map_cons,Yfi,hv];rw[Yj9 hc.2 hz,←PT.Ye4 hy,PT.only p y hc.1]
    ·cases h
   ·cases h
  ·cases h
theorem Yj1 {b:List Nat}:∀ {l:List (Nat×Kind×PT)} {x:Yml l},Yfy b l=true→Ys5 S l=some x→Ytz l x=Yb7 S b (l.map (·.1))
 |[],x,hc,h=>rfl
 |(i,k,p)::l,x,hc,h=>by
  simp only[Yfy,Bool.and_eq_true] at hc;simp only[Ys5] at h
  split at h
  ·rename_i R hR
   split at h
   ·rename_i e y e1 hy
    split at h
    ·rename_i z hz
     cases h;simp only[Ytz,List.map_cons,Yb7,hR];rw[Yj1 hc.2 hz];obtain⟨k',tv⟩:=R;simp only at e hy ⊢;subst e;rw[←PT.Ye4 hy,PT.only p y hc.1]
    ·cases h
   ·cases h
  ·cases h
theorem SP.Ypr {sp:SP} (hc:sp.closed=true) {x:sp.El} (h:sp.rd S=some x):sp.mk' x=S.keep sp.tk sp.rk:=by
 simp only[SP.closed,Bool.and_eq_true] at hc;unfold SP.rd at h
 split at h
 ·rename_i y hy
  split at h
  ·rename_i z hz
   cases h;simp only[SP.mk',St.keep];rw[Yj9 hc.1 hy,Yj1 hc.2 hz];rfl
  ·cases h
 ·cases h
end Mf
namespace Mf
open Go
set_option linter.unusedVariables false
set_option linter.unusedSimpArgs false
variable {Z:W0} {S T:St} {C:Cx} {w w':World} {a:Act}
variable {P:Program} {tb:Tb} {g:Gd} {o:Oper} {hn:Hint} {np nt:Nat} {G:Gam} {L:Lam}
def Ex.exit:Ex→Exit
 |.nm=>.normal
 |.ex i=>.exit i
 |.rt=>.ret
def Ya7 (P:Program) (nt np:Nat) (c:Code) (f:St→∀ R:Type,(Ex→St→Option R)→Option R):Prop:=
 ∀ (S:St) (R:Type) (k:Ex→St→Option R) (r:R),Ybd S→f S R k=some r→∃ e S',k e S'=some r∧Ybd S'∧
  ∀ (Z:W0) (C:Cx) (a:Act) (w:World) (Q:Exit→Act→World→Prop),Z.nt=nt→(∀ i,np≤i→Z.P i=none)→Inv Z S C a w→
   (∀ C a w,Inv Z S' C a w→Q e.exit a w)→c.wp P Q a w
def Hok (P:Program) (nt np:Nat) (L:Lam):Hi→Code→Prop
 |.fr l,c=>∀ f,L l=some f→Ya7 P nt np c f
 |.no,_=>True
 |.two x y,.seq a b=>Hok P nt np L x a∧Hok P nt np L y b
 |.two x y,.cond _ a b=>Hok P nt np L x a∧Hok P nt np L y b
 |.two _ _,_=>True
 |.one x,.block _ a=>Hok P nt np L x a
 |.one _,_=>True
theorem Inv.is (I:Inv Z S C a w) {u:Nat} {b:Bool} (h:a.tmps.getD u undef=.bool b):Inv Z (S.is u b) C a w:=by
 refine⟨I.str,fun i v hv=>?_,I.df,I.ts⟩;simp only[St.is,Ybz] at hv
 split at hv
 ·rename_i e;subst e;cases hv;exact h
 ·exact I.tm i v hv
theorem Ybd.is (h:Ybd S) (u:Nat) (b:Bool):Ybd (S.is u b):=by
 intro s t x v hv;simp only[St.is,Ybz] at hv
 split at hv
 ·cases hv
 ·exact h s t x v hv
theorem Hok.l {h:Hi} {c x y:Code} (hc:c=.seq x y∨∃ d,c=.cond d x y) (hh:Hok P nt np L h c) (hf:∀ l,h≠.fr l):Hok P nt np L h.l x∧Hok P nt np L h.r y:=by
 cases h with
 |no=>exact⟨trivial,trivial⟩
 |fr l=>exact absurd rfl (hf l)
 |one i=>exact⟨trivial,trivial⟩
 |two p q=>rcases hc with rfl | ⟨d,rfl⟩<;>exact hh
theorem Yct (ht:Yag P tb) (hG:GOk P G) (hm:P.follows .mixedOrders=true):∀ (c:Code) (h:Hi),Hok P nt np L h c→Ya7 P nt np c fun S R k=>ev tb hn nt np G L c h S k:=by
 intro c
 induction c with
 |skip=>
  intro h hh S R k r hS he
  cases h with
  |fr l=>
   simp only[ev] at he
   split at he
   ·rename_i f hf;exact hh f hf S R k r hS he
   ·cases he
  |_=>
   simp only[ev] at he
   exact⟨.nm,S,he,hS,fun Z C a w Q hnt hnp I hQ=>wp_skip (hQ C a w I)⟩
 |region id ops draw=>
  intro h hh S R k r hS he
  cases h with
  |fr l=>
   simp only[ev] at he
   split at he
   ·rename_i f hf;exact hh f hf S R k r hS he
   ·cases he
  |_=>
   simp only[ev] at he;obtain⟨S',h1,h2,h3⟩:=Ymy ht hG hm hS he
   exact⟨.nm,S',h1,h2,fun Z C a w Q hnt hnp I hQ=>h3 Z C a w id Q hnt hnp I hQ⟩
 |seq x y ihx ihy=>
  intro h hh S R k r hS he
  have main:(∀ l,h≠.fr l)→(ev tb hn nt np G L x h.l S fun e S'=>match e with | .nm=>ev tb hn nt np G L y h.r S' k | e=>k e S')=some r→∃ e S',k e S'=some r∧Ybd S'∧∀ (Z:W0) (C:Cx) (a:Act) (w:World) (Q:Exit→Act→World→Prop),Z.nt=nt→(∀ i,np≤i→Z.P i=none)→Inv Z S C a w→(∀ C a w,Inv Z S' C a w→Q e.exit a w)→(Code.seq x y).wp P Q a w:=fun hne he=>by
   obtain⟨hx,hy⟩:=hh.l (.inl rfl) hne;obtain⟨e,S1,h1,h2,h3⟩:=ihx _ hx S R _ r hS he
   cases e with
   |nm=>
    obtain⟨e2,S2,g1,g2,g3⟩:=ihy _ hy S1 R _ r h2 h1
    exact⟨e2,S2,g1,g2,fun Z C a w Q hnt hnp I hQ=>wp_seq (h3 Z C a w _ hnt hnp I (fun C a w I'=>g3 Z C a w Q hnt hnp I' hQ))⟩
   |ex i=>exact⟨.ex i,S1,h1,h2,fun Z C a w Q hnt hnp I hQ=>wp_seq (h3 Z C a w _ hnt hnp I (fun C a w I'=>hQ C a w I'))⟩
   |rt=>exact⟨.rt,S1,h1,h2,fun Z C a w Q hnt hnp I hQ=>wp_seq (h3 Z C a w _ hnt hnp I (fun C a w I'=>hQ C a w I'))⟩
  cases h with
  |fr l=>
   simp only[ev] at he
   split at he
   ·rename_i f hf;exact hh f hf S R k r hS he
   ·cases he
  |no=>exact main (fun l e=>by cases e) he
  |two p q=>exact main (fun l e=>by cases e) he
  |one p=>exact main (fun l e=>by cases e) he
 |cond d x y ihx ihy=>
  intro h hh S R k r hS he
  have main:(∀ l,h≠.fr l)→(match (generalizing:=false) (opv [] d).run S with
    |some (.cl _ .bool t)=>match (generalizing:=false) d with
     |.tmp u=>cond t (ev tb hn nt np G L x h.l (S.is u true) k) (ev tb hn nt np G L y h.r (S.is u false) k)
     |_=>none
    |_=>none)=some r→∃ e S',k e S'=some r∧Ybd S'∧∀ (Z:W0) (C:Cx) (a:Act) (w:World) (Q:Exit→Act→World→Prop),Z.nt=nt→(∀ i,np≤i→Z.P i=none)→Inv Z S C a w→(∀ C a w,Inv Z S' C a w→Q e.exit a w)→(Code.cond d x y).wp P Q a w:=fun hne he=>by
   obtain⟨hx,hy⟩:=hh.l (.inr ⟨d,rfl⟩) hne
   split at he
   ·rename_i ow t hop
    obtain⟨u,rfl⟩:∃ u,d=.tmp u:=by cases d<;>first | exact⟨_,rfl⟩ | cases he
    ·have key:∀ {Z C a w},Inv Z S C a w→a.eval (.tmp u)=.bool t:=fun I=>(Yg I (Yax.nil _) hop:Yd _ _ _ _ _ _).bool
     cases t with
     |true=>
      obtain⟨e,S1,h1,h2,h3⟩:=ihx _ hx (S.is u true) R k r (hS.is u true) he
      exact⟨e,S1,h1,h2,fun Z C a w Q hnt hnp I hQ=>wp_cond_true (key I) (h3 Z C a w Q hnt hnp (I.is (key I)) hQ)⟩
     |false=>
      obtain⟨e,S1,h1,h2,h3⟩:=ihy _ hy (S.is u false) R k r (hS.is u false) he;exact⟨e,S1,h1,h2,fun Z C a w Q hnt hnp I hQ=>wp_cond_false (key I) (h3 Z C a w Q hnt hnp (I.is (key I)) hQ)⟩
   ·cases he
  cases h with
  |fr l=>
   simp only[ev] at he
   split at he
   ·rename_i f hf;exact hh f hf S R k r hS he
   ·cases he
  |no=>exact main (fun l e=>by cases e) he
  |two p q=>exact main (fun l e=>by cases e) he
  |one p=>exact main (fun l e=>by cases e) he
 |block id x ihx=>
  intro h hh S R k r hS he
  have main:Hok P nt np L h.i x→(ev tb hn nt np G L x h.i S fun e S'=>match e with
    |.ex j=>match Nat.beq j id with | true=>k .nm S' | false=>k (.ex j) S'
    |e=>k e S')=some r→∃ e S',k e S'=some r∧Ybd S'∧∀ (Z:W0) (C:Cx) (a:Act) (w:World) (Q:Exit→Act→World→Prop),Z.nt=nt→(∀ i,np≤i→Z.P i=none)→Inv Z S C a w→(∀ C a w,Inv Z S' C a w→Q e.exit a w)→(Code.block id x).wp P Q a w:=fun hx he=>by
   obtain⟨e,S1,h1,h2,h3⟩:=ihx _ hx S R _ r hS he
   cases e with
   |nm=>exact⟨.nm,S1,h1,h2,fun Z C a w Q hnt hnp I hQ=>wp_block (h3 Z C a w _ hnt hnp I (fun C a w I'=>hQ C a w I'))⟩
   |rt=>exact⟨.rt,S1,h1,h2,fun Z C a w Q hnt hnp I hQ=>wp_block (h3 Z C a w _ hnt hnp I (fun C a w I'=>hQ C a w I'))⟩
   |ex j=>
    simp only at h1
    split at h1
    ·rename_i e
     rw[Nat.beq_eq] at e;refine⟨.nm,S1,h1,h2,fun Z C a w Q hnt hnp I hQ=>wp_block (h3 Z C a w _ hnt hnp I (fun C a w I'=>?_))⟩;simp only[Ex.exit,Exit.inBlock,e,if_true];exact hQ C a w I'
    ·rename_i e
     refine⟨.ex j,S1,h1,h2,fun Z C a w Q hnt hnp I hQ=>wp_block (h3 Z C a w _ hnt hnp I (fun C a w I'=>?_))⟩
     have hne:¬ j=id:=by
      intro hh;rw[←Nat.beq_eq,e] at hh;cases hh
     simp only[Ex.exit,Exit.inBlock,hne,if_false];exact hQ C a w I'
  cases h with
  |fr l=>
   simp only[ev] at he
   split at he
   ·rename_i f hf;exact hh f hf S R k r hS he
   ·cases he
  |no=>exact main trivial he
  |two p q=>exact main trivial he
  |one p=>exact main hh he
 |exit id=>
  intro h hh S R k r hS he
  cases h with
  |fr l=>
   simp only[ev] at he
   split at he
   ·rename_i f hf;exact hh f hf S R k r hS he
   ·cases he
  |_=>
   simp only[ev] at he
   exact⟨.ex id,S,he,hS,fun Z C a w Q hnt hnp I hQ=>wp_exit (hQ C a w I)⟩
 |ret=>
  intro h hh S R k r hS he
  cases h with
  |fr l=>
   simp only[ev] at he
   split at he
   ·rename_i f hf;exact hh f hf S R k r hS he
   ·cases he
  |_=>
   simp only[ev] at he
   exact⟨.rt,S,he,hS,fun Z C a w Q hnt hnp I hQ=>wp_ret (hQ C a w I)⟩
 |_=>
  intro h hh S R k r hS he
  cases h with
  |fr l=>
   simp only[ev] at he
   split at he
   ·rename_i f hf;exact hh f hf S R k r hS he
   ·cases he
  |_=>simp only[ev] at he;cases he
theorem Ysi (p:Nat→Prop):∀ n,p n→∃ m,p m∧∀ i,p i→m≤i:=by
 intro n
 induction n using Nat.strongRecOn with
 |_ n ih=>
  intro h
  by_cases hh:∃ m,m<n∧p m
  ·obtain⟨m,h1,h2⟩:=hh;exact ih m h1 h2
  ·exact⟨n,h,fun i hi=>by
    rcases Nat.lt_or_ge i n with hlt | hge
    ·exact absurd ⟨i,hlt,hi⟩ hh
    ·exact hge⟩
open Classical in
noncomputable def least (p:Nat→Prop):Nat:=if h:∃ m,p m∧∀ i,p i→m≤i then h.choose else 0
theorem Yng {p:Nat→Prop} {n:Nat} (h:p n):p (least p)∧∀ i,p i→least p≤i:=by
 have hh:=Ysi p n h;unfold least;rw[dif_pos hh];exact hh.choose_spec
theorem Yqq {c:Code} {Q:Exit→Act→World→Prop} (J:Nat→Act→World→Prop) (h0:∃ n,J n a w) (hz:∀ a w,¬ J 0 a w)
  (round:∀ n a w,J (n+1) a w→c.wp P (Exit.then (J n) Q) a w):(Code.loop c).wp P Q a w:=by
 refine wp_loop (fun a w=>∃ n,J n a w) (fun a w=>least fun n=>J n a w) h0 (fun a w ⟨n,hn⟩=>?_);obtain⟨h1,h2⟩:=Yng (p:=fun n=>J n a w) hn;generalize least (fun n=>J n a w)=m at h1 h2
 cases m with
 |zero=>exact absurd h1 (hz a w)
 |succ m=>
  refine wp_mono (round m a w h1) (fun e a' w' hq=>?_)
  cases e with
  |normal=>
   have:=(Yng (p:=fun n=>J n a' w') hq).2 m hq
   exact⟨⟨m,hq⟩,Nat.lt_succ_of_le this⟩
  |_=>exact hq
theorem Yog {σ ρ:Type} {f:σ→Option (σ⊕ρ)} {s:σ} {r:ρ} (h:Y9 f s=some r):∃ n,iter f n s=some r:=by
 unfold Y9 at h
 split at h
 ·rename_i hh;cases h;exact hh.choose_spec
 ·cases h
def Yfb (sp:SP) (F:sp.El→∀ R:Type,(Ex→St→Option R)→Option R):St→∀ R:Type,(Ex→St→Option R)→Option R:=
 fun S R k=>match sp.rd S with
  |some x=>F x R k
  |none=>none
theorem Yn3 {body:Code} {sp:SP} (hc:sp.closed=true) {F:sp.El→∀ R:Type,(Ex→St→Option R)→Option R}
  {A b:List Nat} {X:List (Nat×KL)} {Rl:KL} {E:St→∀ R:Type,(Ex→St→Option R)→Option R} (hE:Ya7 P nt np body E)
  (h:∀ x:sp.El,∃ (σ ρ:Type) (B:σ→Option (σ⊕ρ)) (H:σ→St) (wit:ρ→Ex×St) (s0:σ),H s0=sp.mk' x∧
   (∀ s,E (H s) _ (kLp (A,b) X Rl)=(B s).map fun o=>sel o (fun s'=>.inl (H s')) (fun y=>.inr (wit y)))∧
   ∀ R k,F x R k=(Y9 B s0).bind fun t=>k (wit t).1 (wit t).2):Ya7 P nt np (.loop body) (Yfb sp F):=by
 intro S R k r hS he;unfold Yfb at he
 split at he
 ·rename_i x hx
  obtain⟨σ,ρ,B,H,wit,s0,e0,heq,hF⟩:=h x;rw[hF] at he
  cases hl:Y9 B s0 with
  |none=>rw[hl] at he;cases he
  |some t=>
   rw[hl] at he;obtain⟨n,hn⟩:=Yog hl
   have rd:∀ s o,B s=some o→Ybd (H s)→(∀ s',o=.inl s'→Ybd (H s')∧∀ (Z:W0) (C:Cx) (a:Act) (w:World) (Q:Exit→Act→World→Prop),Z.nt=nt→(∀ i,np≤i→Z.P i=none)→Inv Z (H s) C a w→
      (∀ C a w,Inv Z (H s') C a w→Q .normal a w)→body.wp P Q a w)∧
     (∀ y,o=.inr y→(wit y).1≠.nm∧Ybd (wit y).2∧∀ (Z:W0) (C:Cx) (a:Act) (w:World) (Q:Exit→Act→World→Prop),Z.nt=nt→(∀ i,np≤i→Z.P i=none)→Inv Z (H s) C a w→
      (∀ C a w,Inv Z (wit y).2 C a w→Q (wit y).1.exit a w)→body.wp P Q a w):=by
    intro s o hB hN;have h1:=heq s;rw[hB] at h1;obtain⟨e,S1,g1,g2,g3⟩:=hE (H s) _ _ _ hN h1;refine⟨fun s' ho=>?_,fun y ho=>?_⟩
    ·subst ho
     simp only[sel] at g1
     cases e with
     |nm=>
      simp only[kLp,Option.some.injEq,Sum.inl.injEq] at g1;rw[←g1]
      exact⟨g2.keep A b,fun Z C a w Q hnt hnp I hQ=>g3 Z C a w Q hnt hnp I (fun C a w I'=>hQ C a w (I'.keep A b))⟩
     |ex i=>simp only[kLp] at g1;split at g1<;>cases g1
     |rt=>simp only[kLp] at g1;cases g1
    ·subst ho
     simp only[sel] at g1
     cases e with
     |nm=>simp only[kLp] at g1;cases g1
     |ex i=>
      simp only[kLp] at g1
      split at g1
      ·rename_i l hl'
       simp only[Option.some.injEq,Sum.inr.injEq] at g1;rw[←g1]
       exact⟨by simp,g2.keep _ _,fun Z C a w Q hnt hnp I hQ=>g3 Z C a w Q hnt hnp I (fun C a w I'=>hQ C a w (I'.keep _ _))⟩
      ·cases g1
     |rt=>
      simp only[kLp,Option.some.injEq,Sum.inr.injEq] at g1;rw[←g1]
      exact⟨by simp,g2.keep _ _,fun Z C a w Q hnt hnp I hQ=>g3 Z C a w Q hnt hnp I (fun C a w I'=>hQ C a w (I'.keep _ _))⟩
   have hkeep:=SP.Ypr hc hx
   have hN0:Ybd (H s0):=by rw[e0,hkeep];exact hS.keep _ _
   have last:∀ n s,iter B n s=some t→Ybd (H s)→(wit t).1≠.nm∧Ybd (wit t).2:=by
    intro n
    induction n with
    |zero=>intro s h1;cases h1
    |succ n ih=>
     intro s h1 hN;simp only[iter] at h1
     cases hB:B s with
     |none=>rw[hB] at h1;cases h1
     |some o=>
      rw[hB] at h1;obtain⟨r1,r2⟩:=rd s o hB hN
      cases o with
      |inl s'=>exact ih s' h1 (r1 s' rfl).1
      |inr y=>cases h1;exact⟨(r2 t rfl).1,(r2 t rfl).2.1⟩
   obtain⟨l1,l2⟩:=last n s0 hn hN0;refine⟨(wit t).1,(wit t).2,he,l2,fun Z C a w Q hnt hnp I hQ=>?_⟩
   refine Yqq (fun n a w=>∃ s C,iter B n s=some t∧Ybd (H s)∧Inv Z (H s) C a w) ⟨n,s0,C,hn,hN0,?_⟩ (fun a w ⟨s,C,h1,_⟩=>by cases h1) (fun n a w ⟨s,C,h1,hN,I⟩=>?_)
   ·rw[e0,hkeep];exact I.keep _ _
   ·simp only[iter] at h1
    cases hB:B s with
    |none=>rw[hB] at h1;cases h1
    |some o=>
     rw[hB] at h1;obtain⟨r1,r2⟩:=rd s o hB hN
     cases o with
     |inl s'=>
      obtain⟨q1,q2⟩:=r1 s' rfl
      exact q2 Z C a w _ hnt hnp I (fun C' a' w' I'=>⟨s',C',h1,q1,I'⟩)
     |inr y=>
      cases h1;obtain⟨q0,q1,q2⟩:=r2 t rfl;refine q2 Z C a w _ hnt hnp I (fun C' a' w' I'=>?_);have:=hQ C' a' w' I'
      cases he':(wit t).1 with
      |nm=>exact absurd he' q0
      |ex i=>rw[he'] at this;exact this
      |rt=>rw[he'] at this;exact this
 ·cases he
end Mf
namespace Mf
open Go
set_option linter.unusedVariables false
set_option linter.unusedSimpArgs false
variable {Z:W0} {S T:St} {C:Cx} {w w':World} {a:Act} {K K':Yk} {G:Ya} {C1:Cx} {D:Dd}
variable {P:Program} {tb:Tb} {g:Gd} {o:Oper} {hn:Hint} {np nt:Nat}
def Yri (a:Act):ResultVar→Sem Value
 |.tmp t=>pure (a.tmps.getD t undef)
 |.cell i t=>do loadVar t (← asAddr (a.tmps.getD i undef))
theorem VOk.Ywy {M:Ya} {L:Nat→Src} {ρ:Yb} {v:TV} {u:Value} (h:(∃ n,v=.dead n)∨VOk w M L ρ v u) (hd:∀ n,v≠.dead n):VOk w M L ρ v u:=
 h.resolve_left (fun⟨n,e⟩=>hd n e)
theorem Yn4 (ht:Yag P tb) (I:Inv Z S C a w) {r:ResultVar} {v:TV} (h:(Yuy tb r).run S=some v) :
  ∃ u,(Yri a r).run P w=.ok u w∧VOk w (Mt Z C S.root noB) C.L S.root v u:=by
 cases r with
 |tmp i=>exact⟨_,rfl,Yg I (Yax.nil a) (x:=.tmp i) h⟩
 |cell i t=>
  simp only[Yuy] at h;replace h:=RD.bind_some h;obtain⟨v0,h1,h⟩:=h
  cases v0 with
  |loc r p=>
   simp only at h;replace h:=RD.bind_some h;obtain⟨⟨b,v1⟩,h2,h⟩:=h;have hx:=Yg I (Yax.nil a) h1;obtain⟨R,bb,off,_,_,hu⟩:=(hx:Yd _ _ _ _ _ _).leaf rfl
   have hb:b=none:=by
    simp only[pv] at h2;replace h2:=RD.bind_some h2;obtain⟨_,_,h2⟩:=h2;replace h2:=RD.bind_some h2;obtain⟨_,_,h2⟩:=h2
    have old:∀ {r p ty},(Ykz r p ty).run S=some (b,v1)→b=none:=by
     intro r p ty h2;unfold Ykz at h2;replace h2:=RD.bind_some h2;obtain⟨_,_,h2⟩:=h2
     split at h2<;>cases h2
     rfl
    split at h2
    ·split at h2
     ·simp only[RD.run] at h2
      split at h2
      ·split at h2
       ·cases h2;rfl
       ·exact old h2
      ·cases h2
     ·exact old h2
    ·split at h2<;>cases h2
     rfl
    ·cases h2
   obtain⟨u,h3,h4⟩:=Yi1 Z S C a w ht I (Yax.nil a) b v1 h2 (by rw[hb];simp)
   have hv:v1=v∧∀ n,v1≠.dead n:=by
    simp only at h
    split at h
    ·cases h
    ·rename_i hd;cases h;exact⟨rfl,hd⟩
   obtain⟨rfl,hd⟩:=hv;refine⟨u,?_,h4.resolve_left (fun⟨n,e⟩=>hd n e)⟩;have hu':a.tmps.getD i undef=.pointer (some ⟨bb,off,none⟩):=hu;have he:a.eval (.tmp i)=a.tmps.getD i undef:=rfl;simp only[execOp,Instr.loadAt,he,hu',Instr.sureAddr] at h3;simp only[Yri,hu',asAddr];simp only[Sem.run_bind,Sem.run_pure,Result.andThen,pure_bind] at h3 ⊢
   cases hl:(loadVar t ⟨bb,off,none⟩).run P w with
   |ok x w2=>rw[hl] at h3;simp only[Result.andThen] at h3;cases h3;rfl
   |halt x w2=>rw[hl] at h3;cases h3
  |_=>cases h
def Yn6 (w:World) (M:Ya) (Lf:TV→Value→Prop):TV→Value→Ya→Prop
 |.op tv,u,F=>∃ b off F',u=.pointer (some ⟨b,off,none⟩)∧F b∧¬ F' b∧Ye F' F∧Room w b off tv.size∧Yc w M Lf tv (.mem b off) F'
 |c,u,F=>Yc w M Lf c (.reg u.cells.toList 0) F∧u.cells.size=c.size∧(c.isAgg=true↔∃ cs,u=.agg cs)
theorem Yn6.mono {M M':Ya} {Lf:TV→Value→Prop} {c:TV} {u:Value} {F:Ya} (h:Yn6 w M Lf c u F) (hm:Ye M' M):Yn6 w M' Lf c u F:=by
 cases c with
 |op tv=>obtain⟨b,off,F',h1,h2,h3,h4,h5,h6⟩:=h;exact⟨b,off,F',h1,h2,h3,h4,h5,h6.mono hm⟩
 |_=>exact⟨(Yc.mono h.1 hm:_),h.2⟩
theorem Yn6.shut {M M':Ya} {L L':Nat→Src} {ρ ρ':Yb} {c:TV} {u:Value} {F:Ya} (hs:c.shut=true) (hm:Ye M' M) (h:Yn6 w M (Yi w M L ρ) c u F):Ygu w M' L' ρ' c u F:=by
 cases c with
 |op tv=>obtain⟨b,off,F',h1,h2,h3,h4,h5,h6⟩:=h;exact⟨b,off,F',h1,h2,h3,h4,h5,Yc.shut hm (fun v u hv hl=>Yi.shut hm hv hl) hs h6⟩
 |_=>exact⟨Yc.shut hm (fun v u hv hl=>Yi.shut hm hv hl) hs h.1,h.2⟩
theorem Ynl {r:Nat} {x:Option Root} {rt:List (Nat×Option Root)} {ks:Ks}:(⟨(r,x)::rt,ks⟩:Yk).roots S=((⟨rt,ks⟩:Yk).roots S).set r x:=by
 funext i
 unfold Yk.roots Yb.set
 by_cases e:i=r
 ·subst e;rw[Yl,if_pos rfl]
 ·rw[Yu e,if_neg e]
theorem Yy.whole (T:Yy Z S C w K G C1 D) {r:Nat} {R:Root} (hR:K.roots S r=some R) (hk:R.k=.mem) (hp:Z.P r=none) :
  ∃ D2,Yy Z S C w ⟨(r,none)::K.rt,(r,none)::K.ks⟩ (fun b=>G b∨Tot C1 r R b) C1 D2∧
   Ye (Mt Z C1 ((⟨(r,none)::K.rt,(r,none)::K.ks⟩:Yk).roots S) fun b=>G b∨Tot C1 r R b) (Mt Z C1 (K.roots S) G):=by
 have hk':(⟨(r,none)::K.rt,(r,none)::K.ks⟩:Yk).roots S=(K.roots S).set r none:=Ynl;have st:=T.str
 have hsub:∀ i R',(K.roots S).set r none i=some R'→K.roots S i=some R'∧i≠r:=fun i R' h=>by
  by_cases e:i=r
  ·subst e;rw[Yb.Yo] at h;cases h
  ·rw[Yb.Ym _ _ e] at h;exact⟨h,e⟩
 have hm:Ye (Mt Z C1 ((K.roots S).set r none) fun b=>G b∨Tot C1 r R b) (Mt Z C1 (K.roots S) G):=by
  rintro b (⟨i,R',h1,h2⟩ | (h | h) | h)
  ·exact .inl ⟨i,R',(hsub i R' h1).1,h2⟩
  ·exact .inr (.inl h)
  ·exact .inl ⟨r,R,hR,h⟩
  ·exact .inr (.inr h)
 have htb:∀ b,Tot C1 r R b→b<w.heap.size∧(∀ i,¬ Z.K b i)∧¬ Z.X b∧(Z.M b∨Z.w.heap.size≤b):=by
  rintro b (h | ⟨_,off,h⟩)
  ·exact st.bnd r R b hR h
  ·obtain⟨b',off',e,h1,h2,h3,h4,h5,h6⟩:=st.mem r R hR hk
   rw[h] at e;cases e;exact⟨h2,(st.plc r R hR).2 hk hp b off h,h5,h6⟩
 have W:Str Z (Yi w (Mt Z C S.root noB) C.L S.root) C1 (fun b=>G b∨Tot C1 r R b) ((K.roots S).set r none) w:=by
  refine {st with rep:=?_,reg:=?_,mem:=?_,bnd:=?_,gbnd:=?_,dis:=?_,gdis:=?_,plc:=?_ }
  ·exact fun i R' h=>(st.rep i R' (hsub i R' h).1).mono hm
  ·exact fun i R' h=>st.reg i R' (hsub i R' h).1
  ·exact fun i R' h=>st.mem i R' (hsub i R' h).1
  ·exact fun i R' b h=>st.bnd i R' b (hsub i R' h).1
  ·exact fun b h=>h.elim (st.gbnd b) (htb b)
  ·exact fun i j R1 R2 hne h1 h2=>st.dis i j R1 R2 hne (hsub i R1 h1).1 (hsub j R2 h2).1
  ·intro i R' h b hb hg
   obtain⟨h1,h2⟩:=hsub i R' h;rcases hg with hg | hg
   ·exact st.gdis i R' h1 b hb hg
   ·exact st.dis i r R' R h2 h1 hR b hb hg
  ·exact fun i R' h=>st.plc i R' (hsub i R' h).1
 have Wg:=st.Ycg hm ⟨fun i _=>i=r,fun i _=>i=r⟩
  (fun i R' q h1 h2=>by rw[Yb.Ym _ _ h2];exact h1) (fun i R' q h1 h2=>by rw[Yb.Ym _ _ h2];exact h1)
 refine⟨_,⟨by rw[hk'];exact W,by rw[hk'];exact T.gs.trans Wg,T.L,?_,?_,?_,?_⟩,by rw[hk'];exact hm⟩
 ·intro i R' h
  rw[hk'] at h;exact T.lay i R' (hsub i R' h).1
 ·rintro i q (h | h)
  ·exact Yb3.1 i q (T.cl i q h)
  ·exact⟨_,List.mem_cons_self,h.symm,rfl⟩
 ·rintro i q (h | h)
  ·exact Yb3.2 i q (T.cs i q h)
  ·exact⟨_,List.mem_cons_self,h.symm,rfl⟩
 ·intro i R' q o' e' xs' h hg
  rw[hk'] at h;exact T.ty i R' q o' e' xs' (hsub i R' h).1 hg
theorem Yhg {r:Nat} {p:Path} {c:TV} (h:(Ybv K r p).run S=some (c,K')):∃ o e,∃ x:List e.El,c=.cl o (.sl e) x:=by
 have key:∀ R,(Yhb K r p R).run S=some (c,K')→∃ o e,∃ x:List e.El,c=.cl o (.sl e) x:=by
  intro R h;unfold Yhb at h
  split at h
  ·rename_i o e x _
   have body:(takeC K r p R (.cl o (.sl e) x)).run S=some (c,K')→∃ o e,∃ x:List e.El,c=.cl o (.sl e) x:=by
    intro h;unfold takeC at h
    split at h
    ·cases h;exact⟨_,_,_,rfl⟩
    ·unfold Ym6 at h
     split at h
     ·cases h;exact⟨_,_,_,rfl⟩
     ·cases h
   cases o with
   |sh=>cases h
   |top=>exact body h
   |deep=>exact body h
  ·cases h
 unfold Ybv at h
 split at h
 ·split at h
  ·exact key _ h
  ·cases h
 ·cases h
 ·simp only[RD.run] at h
  split at h
  ·exact key _ h
  ·cases h
theorem Yo0 {q np:Nat} {t:Ty} {v c:TV} (h:(Ya6 q np K t v).run S=some (c,K')):c.isAgg=v.isAgg∧∀ tv,c≠.op tv:=by
 cases v with
 |cl o t' x=>cases t<;>(cases h;exact⟨rfl,fun _ e=>by cases e⟩)
 |nl=>
  cases t with
  |sl e=>
   simp only[Ya6,RD.run] at h;cases h;unfold Yrm
   split
   ·exact⟨rfl,fun _ e=>by cases e⟩
   ·split<;>exact⟨rfl,fun _ e=>by cases e⟩
   ·exact⟨rfl,fun _ e=>by cases e⟩
   ·exact⟨rfl,fun _ e=>by cases e⟩
  |_=>cases h
 |pr a b=>
  cases t with
  |pair t1 t2=>
   simp only[Ya6] at h;replace h:=RD.bind_some h;obtain⟨⟨a',K1⟩,h1,h⟩:=h;replace h:=RD.bind_some h;obtain⟨⟨b',K2⟩,h2,h⟩:=h;cases h
   exact⟨(Yiu a' b').1,fun tv e=>by have:=(Yiu a' b').1;rw[e] at this;cases this⟩
  |_=>cases h
 |seg r p=>
  have h':(match Nat.blt r np with
   |true=>(RD.ret (.seg r p,K):RD (TV×Yk))
   |false=>Ybv K r p).run S=some (c,K'):=by cases t<;>exact h
  split at h'
  ·cases h';exact⟨rfl,fun _ e=>by cases e⟩
  ·obtain⟨o,e,x,rfl⟩:=Yhg h';exact⟨rfl,fun _ e=>by cases e⟩
 |sub r p lo n=>
  have h':((Ybv K r p).bind fun(v,k)=>match Ynk lo n v with | some v=>.ret (v,k) | none=>(RD.fail:RD (TV×Yk))).run S=some (c,K'):=by cases t<;>exact h
  ·replace h':=RD.bind_some h';obtain⟨⟨v1,k⟩,h1,h'⟩:=h'
   obtain⟨o,e,x,rfl⟩:=Yhg h1;simp only[Ynk,RD.run] at h'
   cases h';exact⟨rfl,fun _ e=>by cases e⟩
 |loc r p=>cases t<;>(cases h;exact⟨rfl,fun _ e=>by cases e⟩)
 |pt t' x=>cases t<;>(cases h;exact⟨rfl,fun _ e=>by cases e⟩)
 |clo f c'=>cases t<;>(cases h;exact⟨rfl,fun _ e=>by cases e⟩)
 |_=>cases t<;>cases h
end Mf
namespace Mf
open Go
set_option linter.unusedVariables false
set_option linter.unusedSimpArgs false
variable {Z:W0} {S T:St} {C:Cx} {w w':World} {a:Act} {K K':Yk} {G:Ya} {C1:Cx} {D:Dd}
variable {P:Program} {tb:Tb} {g:Gd} {o:Oper} {hn:Hint} {np nt:Nat}
theorem Ymw (hnp:∀ i,np≤i→Z.P i=none) {v c:TV} {u:Value} {t:TypeId} (hv:VOk w (Mt Z C S.root noB) C.L S.root v u) (T:Yy Z S C w K G C1 D)
  (hm:Ye (Mt Z C1 (K.roots S) G) (Mt Z C S.root noB)) (h:(Yq8 tb hn np t K v).run S=some (c,K')) :
  ∃ C2 D2 F G',Yy Z S C w K' G' C2 D2∧Ye G G'∧Ye F G'∧Dis F G∧Yn6 w (Mt Z C2 (K'.roots S) G') (Yi w (Mt Z C S.root noB) C.L S.root) c u F∧
   Ye (Mt Z C2 (K'.roots S) G') (Mt Z C1 (K.roots S) G):=by
 unfold Yq8 at h
 split at h
 ·rename_i q
  split at h
  ·rename_i hK hle
   simp only[RD.run] at h
   split at h
   ·rename_i R hR
    split at h
    ·rename_i hk
     cases h;obtain⟨R0,b,off,h1,h2,h3⟩:=(hv:Yd _ _ _ _ _ _).leaf rfl;rw[hR] at h1;cases h1;rw[Yf] at h2;have hL:C.L q=.mem b off:=Option.some.inj h2
     have hroot:K.roots S q=some R:=by unfold Yk.roots;rw[hK];exact hR
     obtain⟨D2,T2,hm2⟩:=T.whole hroot hk (hnp q (Nat.le_of_ble_eq_true hle))
     have hL1:C1.L q=.mem b off:=by rw[T.L];exact hL
     obtain⟨b',off',e,m1,m2,m3,_⟩:=T.str.mem q R hroot hk;rw[hL1] at e;cases e;refine⟨C1,D2,Tot C1 q R,_,T2,fun _ h=>.inl h,fun _ h=>.inr h,fun x hx hg=>T.str.gdis q R hroot x hx hg,?_,hm2⟩;refine⟨b,off,C1.F q,h3,.inr ⟨hk,off,hL1⟩,m1,fun _ h=>.inl h,m3,?_⟩;have:=T.str.rep q R hroot;rw[hL1] at this;exact this.mono hm2
    ·cases h
   ·cases h
  ·cases h
 ·rename_i t' x
  cases h;have hv':Yd _ _ _ _ _ _:=hv;refine⟨C1,D,noB,G,T,fun _ h=>h,fun _ h=>h.elim,fun _ h=>h.elim,⟨hv'.1.mono hm,hv'.2.1,hv'.2.2⟩,fun _ h=>h⟩
 ·have ht:∀ l,v≠.tup l:=fun l e=>by subst e;exact Ydw _ _ _ _ _ h
  obtain⟨hr,hs⟩:=hv.rep ht;obtain⟨C2,D2,F,G',t1,t2,t3,t4,t5,t6,t7,t8⟩:=Yck _ _ v _ T hm hr h;obtain⟨ha,hop⟩:=Yo0 h;refine⟨C2,D2,F,G',t1,t2,t3,t4,?_,t7⟩;have hval:=hv.val ht
  have:Yc w (Mt Z C2 (K'.roots S) G') (Yi w (Mt Z C S.root noB) C.L S.root) c (.reg u.cells.toList 0) F∧u.cells.size=c.size∧(c.isAgg=true↔∃ cs,u=.agg cs):=⟨t6,by rw[t8,hs],by rw[ha];exact hval.2.2⟩
  cases c with
  |op tv=>exact absurd rfl (hop tv)
  |_=>exact this
def Ybu (w:World) (M:Ya) (Lf:TV→Value→Prop):List TV→List Value→Ya→Prop
 |[],[],_=>True
 |c::cs,u::us,F=>∃ F1 F2,Yn6 w M Lf c u F1∧Ybu w M Lf cs us F2∧Ye F1 F∧Ye F2 F∧Dis F1 F2
 |_,_,_=>False
theorem Yci (ht:Yag P tb) (I:Inv Z S C a w) (hnp:∀ i,np≤i→Z.P i=none):∀ (ts:List TypeId) (rs:List ResultVar) {K K':Yk} {G:Ya} {C1:Cx} {D:Dd} {cs:List TV},Yy Z S C w K G C1 D→
  Ye (Mt Z C1 (K.roots S) G) (Mt Z C S.root noB)→(Yg5 tb hn np ts rs K).run S=some (cs,K')→
  ∃ C2 D2 F G' us,Yy Z S C w K' G' C2 D2∧Ye G G'∧Ye F G'∧Dis F G∧(rs.mapM (Yri a)).run P w=.ok us w∧
   Ybu w (Mt Z C2 (K'.roots S) G') (Yi w (Mt Z C S.root noB) C.L S.root) cs us F∧Ye (Mt Z C2 (K'.roots S) G') (Mt Z C1 (K.roots S) G)
 |[],[],K,K',G,C1,D,cs,T,hm,h=>by
  cases h
  exact⟨C1,D,noB,G,[],T,fun _ h=>h,fun _ h=>h.elim,fun _ h=>h.elim,rfl,trivial,fun _ h=>h⟩
 |t::ts,r::rs,K,K',G,C1,D,cs,T,hm,h=>by
  simp only[Yg5] at h;replace h:=RD.bind_some h;obtain⟨v,h1,h⟩:=h;replace h:=RD.bind_some h;obtain⟨⟨c,K1⟩,h2,h⟩:=h;replace h:=RD.bind_some h;obtain⟨⟨cs',K2⟩,h3,h⟩:=h;cases h;obtain⟨u,hu,hv⟩:=Yn4 (P:=P) ht I h1;obtain⟨C2,D2,F1,G1,T1,g1,f1,d1,w1,m1⟩:=Ymw hnp hv T hm h2;obtain⟨C3,D3,F2,G2,us,T2,g2,f2,d2,hus,w2,m2⟩:=Yci ht I hnp ts rs T1 (fun b hb=>hm b (m1 b hb)) h3;refine⟨C3,D3,fun b=>F1 b∨F2 b,G2,u::us,T2,fun b hb=>g2 b (g1 b hb),fun b hb=>hb.elim (fun h=>g2 b (f1 b h)) (f2 b),?_,?_,?_,fun b hb=>m1 b (m2 b hb)⟩
  ·rintro b (h | h) hg
   ·exact d1 b h hg
   ·exact d2 b h (g1 b hg)
  ·rw[List.mapM_cons]
   simp only[Sem.run_bind,hu,hus,Result.andThen,Sem.run_pure]
  ·exact⟨F1,F2,w1.mono m2,w2,fun _ h=>.inl h,fun _ h=>.inr h,fun b x y=>d2 b y (f1 b x)⟩
 |[],_::_,K,K',G,C1,D,cs,T,hm,h=>by cases h
 |_::_,[],K,K',G,C1,D,cs,T,hm,h=>by cases h
theorem Ymn {r:Nat} {R:Root} (h:(K.rd r).run S=some R):K.roots S r=some R:=by
 unfold Yk.rd at h;unfold Yk.roots
 split at h
 ·rename_i R' hR;cases h;rw[hR]
 ·cases h
 ·rename_i hR
  simp only[RD.run] at h
  split at h
  ·rename_i hS;cases h;rw[hR];exact hS
  ·cases h
theorem Ybc {ρ:Yb}:∀ (ms:List Md) (i:Nat) {os:List TV},(Ydd K i ms).run S=some os→(∀ (j:Nat),ms[j]? = some .mu→ρ (i+j)=K.roots S (i+j))→Ya4 ρ i ms os
 |[],i,os,h,hr=>by cases h;trivial
 |m::ms,i,os,h,hr=>by
  have hr':∀ (j:Nat),ms[j]? = some .mu→ρ (i+1+j)=K.roots S (i+1+j):=fun j hj=>by
   have:=hr (j+1) (by simpa using hj)
   rw[show i+1+j=i+(j+1) by omega];exact this
  cases m with
  |mu=>
   simp only[Ydd] at h;replace h:=RD.bind_some h;obtain⟨R,h1,h⟩:=h;replace h:=RD.bind_some h;obtain⟨l,h2,h⟩:=h;cases h;refine⟨⟨R,?_,rfl⟩,Ybc ms (i+1) h2 hr'⟩;have:=hr 0 rfl;rw[Nat.add_zero] at this
   rw[this];exact Ymn h1
  |sh=>exact Ybc ms (i+1) (by simpa only[Ydd] using h) hr'
  |mv=>exact Ybc ms (i+1) (by simpa only[Ydd] using h) hr'
theorem Ykq {ρ:Yb}:∀ (ms:List Md) (i:Nat) {os:List TV},Ya4 ρ i ms os→os.all TV.shut=true→∀ (j:Nat) R,ms[j]? = some .mu→ρ (i+j)=some R→R.tv.shut=true
 |[],i,os,h,hs,j,R,hj,hR=>by cases hj
 |m::ms,i,os,h,hs,j,R,hj,hR=>by
  have tail:∀ os,Ya4 ρ (i+1) ms os→os.all TV.shut=true→∀ k,j=k+1→R.tv.shut=true:=fun os h hs k e=>by
   subst e
   exact Ykq ms (i+1) h hs k R (by simpa using hj) (by rw[show i+1+k=i+(k+1) by omega];exact hR)
  cases m with
  |mu=>
   cases os with
   |nil=>exact h.elim
   |cons o os=>
    obtain⟨⟨R0,h1,rfl⟩,h2⟩:=h;simp only[List.all_cons,Bool.and_eq_true] at hs
    cases j with
    |zero=>
     rw[Nat.add_zero,h1] at hR;cases hR;have:=hs.1;unfold Root.out at this
     split at this<;>exact this
    |succ k=>exact tail os h2 hs.2 k rfl
  |sh=>
   cases j with
   |zero=>cases hj
   |succ k=>exact tail os h hs k rfl
  |mv=>
   cases j with
   |zero=>cases hj
   |succ k=>exact tail os h hs k rfl
theorem Ybu.shut {M M':Ya} {L L':Nat→Src} {ρ ρ':Yb} (hm:Ye M' M):∀ {cs:List TV} {us:List Value} {F:Ya},cs.all TV.shut=true→Ybu w M (Yi w M L ρ) cs us F→Ydq w M' L' ρ' cs us F
 |[],[],F,hs,h=>trivial
 |c::cs,u::us,F,hs,h=>by
  simp only[List.all_cons,Bool.and_eq_true] at hs;obtain⟨F1,F2,h1,h2,h3,h4,h5⟩:=h
  exact⟨F1,F2,h1.shut hs.1 hm,Ybu.shut hm hs.2 h2,h3,h4,h5⟩
 |[],_::_,F,hs,h=>h.elim
 |_::_,[],F,hs,h=>h.elim
theorem Ybu.leaf {M:Ya} {Lf Lf':TV→Value→Prop} (hl:∀ v u,v.shut=true→Lf v u→Lf' v u):∀ {cs:List TV} {us:List Value} {F:Ya},cs.all TV.shut=true→Ybu w M Lf cs us F→Ybu w M Lf' cs us F
 |[],[],F,hs,h=>trivial
 |c::cs,u::us,F,hs,h=>by
  simp only[List.all_cons,Bool.and_eq_true] at hs;obtain⟨F1,F2,h1,h2,h3,h4,h5⟩:=h;refine⟨F1,F2,?_,Ybu.leaf hl hs.2 h2,h3,h4,h5⟩
  cases c with
  |op tv=>obtain⟨b,off,F',q1,q2,q3,q4,q5,q6⟩:=h1;exact⟨b,off,F',q1,q2,q3,q4,q5,Yc.shut (fun _ h=>h) hl hs.1 q6⟩
  |_=>exact⟨Yc.shut (fun _ h=>h) hl hs.1 h1.1,h1.2⟩
 |[],_::_,F,hs,h=>h.elim
 |_::_,[],F,hs,h=>h.elim
theorem Ybu.length {M:Ya} {Lf:TV→Value→Prop}:∀ {cs:List TV} {us:List Value} {F:Ya},Ybu w M Lf cs us F→cs.length=us.length
 |[],[],F,h=>rfl
 |c::cs,u::us,F,h=>by obtain⟨F1,F2,_,h2,_⟩:=h;simp[Ybu.length h2]
 |[],_::_,F,h=>h.elim
 |_::_,[],F,h=>h.elim
theorem Yof (fn:Func):results fn a.tmps=(fn.results.mapM (Yri a) >>= fun vs=>pure (if h:vs.size=1 then vs[0] else .tuple vs)):=by
 unfold results
 congr 1
theorem Yee {fn:Func} {us:List Value} (h:(fn.results.toList.mapM (Yri a)).run P w=.ok us w):(results fn a.tmps).run P w=.ok (if h:us.toArray.size=1 then us.toArray[0] else .tuple us.toArray) w:=by
 rw[Yof,Array.mapM_eq_mapM_toList];simp only[Sem.run_bind,Sem.run_map,h,Result.andThen,Sem.run_pure]
theorem Yj0 (ht:Yag P tb) {fn:Func} {ms:List Md} {out:Out} (I:Inv Z S C a w) (hnp:∀ i,ms.length≤i→Z.P i=none) (h:fin tb hn fn ms S=some out) :
  ∃ v,(results fn a.tmps).run P w=.ok v w∧Yg9 Z ms out v w:=by
 unfold fin Ywh at h;replace h:=RD.bind_some h;obtain⟨⟨cs,K⟩,h1,h⟩:=h;replace h:=RD.bind_some h;obtain⟨os,h2,h⟩:=h
 split at h
 ·rename_i hs
  cases h;simp only[Bool.and_eq_true] at hs;obtain⟨C2,D2,F,G,us,T,g1,f1,d1,hus,hw,hm⟩:=Yci ht I hnp _ _ (Yy.start I) (fun _ h=>h) h1;refine⟨_,Yee hus,?_⟩
  let ρ:Yb:=fun r=>match ms[r]? with | some .mu=>K.roots S r | _=>none
  have hρ:∀ r R,ρ r=some R→K.roots S r=some R∧ms[r]? = some .mu:=by
   intro r R h;simp only[ρ] at h
   split at h
   ·rename_i hm;exact⟨h,hm⟩
   ·cases h
  have hout:Ya4 ρ 0 ms os:=Ybc ms 0 h2 (fun j hj=>by simp only[ρ,Nat.zero_add,hj])
  obtain⟨W,hW⟩:=T.str.weak (ρ':=ρ) (G':=G) (fun r R h=>(hρ r R h).1) (fun b h=>.inl h);have hM0:Ye (Mt Z C2 ρ G) (Mt Z C S.root noB):=fun b hb=>hm b (hW b hb);have hlf:∀ v u,v.shut=true→Yi w (Mt Z C S.root noB) C.L S.root v u→Yi w (Mt Z C2 ρ G) C2.L ρ v u:=fun v u hv hl=>Yi.shut hM0 hv hl
  refine⟨C2,G,ρ,F,{W with rep:=fun r R h=>?_ },hout,f1,?_,hs.1,List.all_eq_true.2 fun x hx=>TV.Ymp (List.all_eq_true.1 hs.2 x hx)⟩
  ·exact Yc.shut (fun _ h=>h) hlf (Ykq ms 0 hout hs.2 r R (hρ r R h).2 (by rw[Nat.zero_add];exact h)) (W.rep r R h)
  ·have hw2:Ydq w (Mt Z C2 ρ G) C2.L ρ cs us F:=by
    have h3:=Ybu.leaf (Lf':=Yi w (Mt Z C2 (K.roots S) G) C2.L (K.roots S)) (fun v u hv hl=>Yi.shut hm hv hl) hs.1 hw;exact Ybu.shut hW hs.1 h3
   have hlen:=hw.length
   match cs,us,hw2,hlen with
   |[],[],_,_=>rfl
   |[c],[u],hw2,_=>
    obtain⟨F1,F2,q1,_,q3,_⟩:=hw2;show Ygu w _ _ _ c u F
    cases c with
    |op tv=>obtain⟨b,off,F',p1,p2,p3,p4,p5,p6⟩:=q1;exact⟨b,off,F',p1,q3 b p2,p3,fun x hx=>q3 x (p4 x hx),p5,p6⟩
    |_=>exact⟨Yc.sub q1.1 q3,q1.2⟩
   |c1::c2::cs,u1::u2::us,hw2,_=>exact⟨_,by rw[dif_neg (by simp)],hw2⟩
 ·cases h
end Mf
namespace Mf
open Go
set_option linter.unusedVariables false
set_option linter.unusedSimpArgs false
variable {Z:W0} {S T:St} {C:Cx} {w w':World} {a:Act} {K K':Yk} {G:Gam} {C1:Cx} {D:Dd}
variable {P:Program} {tb:Tb} {g:Gd} {o:Oper} {hn:Hint} {np nt:Nat}
def W0.slots (Z:W0) (n:Nat):W0:={Z with nt:=n }
theorem Str.slots {Lf:TV→Value→Prop} {F:Ya} {ρ:Yb} (I:Str Z Lf C F ρ w) (n:Nat):Str (Z.slots n) Lf C F ρ w:=
 ⟨I.rep,I.reg,I.mem,I.bnd,I.gbnd,I.dis,I.gdis,I.plc,I.sz,I.old,I.kp,I.kf,I.xb,I.kb,I.os,I.tape,I.output⟩
theorem Str.Yc8 {Lf:TV→Value→Prop} {F:Ya} {ρ:Yb} {n:Nat} (I:Str (Z.slots n) Lf C F ρ w):Str Z Lf C F ρ w:=
 ⟨I.rep,I.reg,I.mem,I.bnd,I.gbnd,I.dis,I.gdis,I.plc,I.sz,I.old,I.kp,I.kf,I.xb,I.kb,I.os,I.tape,I.output⟩
theorem Yg9.Yc8 {n:Nat} {ms:List Md} {out:Out} {v:Value} (h:Yg9 (Z.slots n) ms out v w):Yg9 Z ms out v w:=by
 obtain⟨C,F,ρ,Fr,h1,h2⟩:=h;exact⟨C,F,ρ,Fr,h1.Yc8,h2⟩
theorem Inv.frame {cs:List TV} {us:Array Value} {n:Nat} (I:Inv Z (Yh cs) C ⟨us,[]⟩ w) (hl:us.size=cs.length) (hn:us.size≤n) :
  Inv (Z.slots n) (Yh cs) C ⟨us++Array.replicate (n-us.size) undef,[]⟩ w:=by
 have key:∀ i,i<us.size→(us++Array.replicate (n-us.size) undef).getD i undef=us.getD i undef:=by
  intro i hi;simp only[Array.getD_eq_getD_getElem?,Array.getElem?_append_left hi]
 refine⟨I.str.slots n,fun i v hv=>?_,rfl,by simp[W0.slots];omega⟩
 have hi:i<us.size:=by
  rw[hl];have:=Yew cs 0 i;rw[show lk i (Ydh 0 cs)=some v from hv] at this;rw[if_pos (Nat.zero_le i),Nat.sub_zero] at this
  cases hc:cs[i]? with
  |none=>rw[hc] at this;cases this
  |some c=>exact(List.getElem?_eq_some_iff.1 hc).1
 have h1:=I.tm i v hv;rw[key i hi]
 cases v with
 |gd t b x=>
  obtain⟨q1,q2⟩:=h1
  by_cases ht:t<us.size
  ·exact⟨fun he=>q1 (by rw[←key t ht];exact he),fun he=>q2 (by rw[←key t ht];exact he)⟩
  ·have hu:(us.getD t undef)=undef:=by
    rw[Array.getD_eq_getD_getElem?,Array.getElem?_eq_none (by omega)];rfl
   have hu':(us++Array.replicate (n-us.size) undef).getD t undef=undef:=by
    rw[Array.getD_eq_getD_getElem?,Array.getElem?_append_right (by omega),Array.getElem?_replicate]
    split<;>rfl
   exact⟨fun he=>by rw[show(Act.mk (us++Array.replicate (n-us.size) undef) []).tmps=us++Array.replicate (n-us.size) undef from rfl,hu'] at he;exact absurd he (Yjj b),fun _=>q2 (by rw[show(Act.mk us []).tmps=us from rfl,hu];exact Yjj b)⟩
 |_=>exact h1
theorem Yra (r:Nat) (p:Path) (o:Ow) (t:Ty) (x:t.El) (s:Nat) (b:Bool) (v:TV):Yan r p o t x≠.gd s b v:=by
 intro h;rcases Yi2 r t p o x with ⟨n,e⟩ | e
 ·rw[e] at h;cases h
 ·rw[h] at e;cases e
theorem PT.Ywk (p:PT) (x:p.El) (i:Nat) (q:Path) (t:Nat) (b:Bool) (v:TV):(p.mk x).mir i q≠.gd t b v∧∀ w,p.mk x≠.gd t b w:=by
 cases p with
 |cl o t'=>exact⟨Yra i q o t' x t b v,fun w e=>by cases e⟩
 |_=>exact⟨(fun e=>by cases e),fun w e=>by cases e⟩
theorem PT.Ybl:∀ {l:List PT} {cs:List TV} {x:PT.Els l},PT.rds l cs=some x→PT.mks l x=cs
 |[],[],x,h=>rfl
 |[],_::_,x,h=>by cases h
 |_::_,[],x,h=>by cases h
 |p::l,v::vs,x,h=>by
  simp only[PT.rds] at h
  split at h
  ·rename_i y hy
   split at h
   ·rename_i z hz
    cases h;simp only[PT.mks,PT.Ye4 hy,PT.Ybl hz]
   ·cases h
  ·cases h
theorem PT.Ypj:∀ {l:List PT} {x:PT.Els l} {c:TV},c∈PT.mks l x→∃ p y,c=PT.mk p y
 |[],x,c,h=>by cases h
 |p::l,x,c,h=>by
  rcases List.mem_cons.1 h with rfl | h
  ·exact⟨p,x.1,rfl⟩
  ·exact PT.Ypj h
theorem PT.Yd4:∀ {l:List PT} {x:PT.Els l},(PT.mks l x).length=l.length
 |[],x=>rfl
 |p::l,x=>by simp only[PT.mks,List.length_cons,PT.Yd4]
theorem Yep {l:List PT} {x:PT.Els l}:Ybd (Yh (PT.mks l x)):=by
 intro s t b v hv;have h:=Yew (PT.mks l x) 0 s;rw[show lk s (Ydh 0 (PT.mks l x))=some (.gd t b v) from hv,if_pos (Nat.zero_le s)] at h
 cases hc:(PT.mks l x)[s-0]? with
 |none=>rw[hc] at h;cases h
 |some c=>
  rw[hc] at h;simp only[Option.map_some,Option.some.injEq] at h;obtain⟨p,y,e⟩:=PT.Ypj (List.mem_of_getElem? hc);have h1:=(PT.Ywk p y s [] t b v).1;rw[←e] at h1
  cases c<;>first | exact h1 h.symm | cases h
theorem Ex.Yos (e:Ex):e=.nm∨e=.rt∨∃ i,e=.ex i:=by cases e<;>simp
theorem Yty (ht:Yag P tb) {f:FuncId} {fn:Func} {c:Code} (hf:P.funcs[f]? = some fn) (hb:fn.body=some c) (hname:(fn.name == "runtime.NumGoroutine")=false)
  {E:St→∀ R:Type,(Ex→St→Option R)→Option R} {cs:List TV} (hE:Ya7 P fn.ntmps cs.length c E) {ms:List Md} (hms:cs.length≤ms.length) (hnt:cs.length≤fn.ntmps)
  (hgd:Ybd (Yh cs)) {out:Out} (h:E (Yh cs) Out (Ysv tb hn fn ms)=some out):Yb5 P f ms cs out where
 there:=⟨fn,hf,hname,by rw[hb];rfl⟩
 calls:=fun Z C us hl hnt' hP1 hP2 I=>by
  obtain⟨e,S',h1,h2,h3⟩:=hE _ _ _ _ hgd h;refine calls_of_wp hf hb ?_
  refine h3 (Z.slots fn.ntmps) C _ _ _ rfl (fun i hi=>hP1 i (by omega)) (I.frame hl (by omega)) (fun C' a' w' I'=>?_)
  rcases e.Yos with rfl | rfl | ⟨i,rfl⟩
  ·obtain⟨v,q1,q2⟩:=Yj0 (P:=P) ht I' (fun i hi=>hP1 i (by omega)) h1
   exact⟨I'.df,v,q1,v,rfl,q2.Yc8⟩
  ·obtain⟨v,q1,q2⟩:=Yj0 (P:=P) ht I' (fun i hi=>hP1 i (by omega)) h1
   exact⟨I'.df,v,q1,v,rfl,q2.Yc8⟩
  ·cases h1
def Yb2 (P:Program) (f:FuncId) (fs:FS):Prop:=∀ (cs:List TV) (R:Type) (k:Out→Option R) (r:R),fs.F cs R k=some r→∃ out,k out=some r∧Yb5 P f fs.modes cs out
theorem Yb2.or {f:FuncId} {x y:FS} {pts:List PT} (hm:x.modes=y.modes) (hx:Yb2 P f x) (hy:Yb2 P f y):Yb2 P f (FS.or x y pts):=by
 intro cs R k r h;simp only[FS.or] at h
 split at h
 ·exact hx cs R k r h
 ·obtain⟨out,h1,h2⟩:=hy cs R k r h
  exact⟨out,h1,by show Yb5 P f x.modes cs out;rw[hm];exact h2⟩
theorem lk_consU.{u} {α:Type u} (i j:Nat) (x:α) (l:List (Nat×α)):lk i ((j,x)::l)=if i=j then some x else lk i l:=by
 by_cases e:i=j
 ·subst e;simp[lk]
 ·rw[if_neg e]
  simp only[lk]
  rw[show Nat.beq i j=false from by rw[←Bool.not_eq_true,Nat.beq_eq];exact e]
theorem GOk.nil:GOk P (mkG []):=fun f fs h=>by cases h
theorem GOk.cons {f:FuncId} {fs:FS} {l:List (Nat×FS)} (h:Yb2 P f fs) (hl:GOk P (mkG l)):GOk P (mkG ((f,fs)::l)):=by
 intro f' fs' he;simp only[mkG,lk_consU] at he
 split at he
 ·rename_i e;subst e;cases he;exact h
 ·exact hl f' fs' he
theorem Yuc (ht:Yag P tb) {f:FuncId} {fn:Func} {c:Code} (hf:P.funcs[f]? = some fn) (hb:fn.body=some c) (hname:(fn.name == "runtime.NumGoroutine")=false)
  {E:St→∀ R:Type,(Ex→St→Option R)→Option R} {pts:List PT} (hE:Ya7 P fn.ntmps pts.length c E) {ms:List Md} (hms:Nat.ble pts.length ms.length=true) (hnt:Nat.ble pts.length fn.ntmps=true)
  {ρ:Type} {F:PT.Els pts→Option ρ} {out:ρ→Out} (h:∀ x,E (Yh (PT.mks pts x)) Out (Ysv tb hn fn ms)=(F x).map out):Yb2 P f (Ybk ms pts F out):=by
 intro cs R k r he;simp only[Ybk] at he
 split at he
 ·rename_i x hx
  cases hF:F x with
  |none=>rw[hF] at he;cases he
  |some t=>
   rw[hF] at he;refine⟨out t,he,?_⟩;have e:=PT.Ybl hx;subst e;have h1:=h x;rw[hF] at h1;have hl:=PT.Yd4 (l:=pts) (x:=x)
   exact Yty ht hf hb hname (by rw[hl];exact hE) (by rw[hl];exact Nat.le_of_ble_eq_true hms) (by rw[hl];exact Nat.le_of_ble_eq_true hnt) Yep h1
 ·cases he
def frs:Hi→Code→List (Nat×Code)
 |.fr l,c=>[(l,c)]
 |.two x y,.seq a b=>frs x a++frs y b
 |.two x y,.cond _ a b=>frs x a++frs y b
 |.one x,.block _ a=>frs x a
 |_,_=>[]
def Yb1 (P:Program) (nt np:Nat) (L:Lam):List (Nat×Code)→Prop
 |[]=>True
 |x::l=>Hok P nt np L (.fr x.1) x.2∧Yb1 P nt np L l
theorem Yb1.append {L:Lam}:∀ {a b:List (Nat×Code)},Yb1 P nt np L (a++b)→Yb1 P nt np L a∧Yb1 P nt np L b
 |[],b,h=>⟨trivial,h⟩
 |x::a,b,h=>⟨⟨h.1,(Yb1.append h.2).1⟩,(Yb1.append h.2).2⟩
theorem Yex {L:Lam}:∀ (h:Hi) (c:Code),Yb1 P nt np L (frs h c)→Hok P nt np L h c
 |.fr l,c,h=>h.1
 |.no,c,h=>by cases c<;>trivial
 |.two x y,c,h=>by
  cases c with
  |seq a b=>exact⟨Yex x a h.append.1,Yex y b h.append.2⟩
  |cond d a b=>exact⟨Yex x a h.append.1,Yex y b h.append.2⟩
  |_=>trivial
 |.one x,c,h=>by
  cases c with
  |block i a=>exact Yex x a h
  |_=>trivial
theorem Yly {L:Lam} {h:Hi} {c:Code} {l:List (Nat×Code)} (e:frs h c=l) (ha:Yb1 P nt np L l):Hok P nt np L h c:=Yex h c (by rw[e];exact ha)
theorem Ygs {fn:Func} (h:fn.body.isSome=true):fn.body=some (Yaf fn):=by
 unfold Yaf
 cases hb:fn.body with
 |none=>rw[hb] at h;cases h
 |some c=>rfl
theorem Lam.no (l:Nat) (c:Code):Hok P nt np (mkL []) (.fr l) c:=fun f h=>by cases h
theorem Lam.cons {l:Nat} {f:St→∀ R:Type,(Ex→St→Option R)→Option R} {L:List (Nat×(St→∀ R:Type,(Ex→St→Option R)→Option R))} {c:Code} (h:Ya7 P nt np c f):Hok P nt np (mkL ((l,f)::L)) (.fr l) c:=by
 intro f' he;simp only[mkL,lk_consU,if_true] at he;cases he;exact h
theorem Lam.skip {l i:Nat} {f:St→∀ R:Type,(Ex→St→Option R)→Option R} {L:List (Nat×(St→∀ R:Type,(Ex→St→Option R)→Option R))} {c:Code} (hne:Nat.beq l i=false) (h:Hok P nt np (mkL L) (.fr l) c) :
  Hok P nt np (mkL ((i,f)::L)) (.fr l) c:=by
 intro f' he;refine h f' ?_;simp only[mkL,lk] at he;rw[hne] at he;exact he
end Mf
namespace Mf
open Go
set_option linter.unusedVariables false
variable {P:Program} {tb:Tb}
abbrev I64:Ty:=.int .i64
abbrev U8:Ty:=.int .u8
abbrev SI:Ty:=.sl I64
abbrev SB:Ty:=.sl U8
abbrev TV.cs (t:Ty) (x:t.El):TV:=.cl .sh t x
abbrev TV.cd (t:Ty) (x:t.El):TV:=.cl .deep t x
abbrev PT.cs (t:Ty):PT:=.cl .sh t
abbrev PT.cd (t:Ty):PT:=.cl .deep t
abbrev Hi.R (h:Hi):Hi:=.two .no h
abbrev Hi.L (h:Hi):Hi:=.two h .no
abbrev h0:Hint:=⟨[],[],[],0⟩
abbrev sr (r:Nat) (v:TV):Nat×Option Root:=(r,some ⟨.reg,v⟩)
abbrev sm' (r:Nat) (v:TV):Nat×Option Root:=(r,some ⟨.mem,v⟩)
theorem mC {α β:Type} (f:α→β) (b:Bool) (x y:Option α):(cond b x y).map f=cond b (x.map f) (y.map f):=Ymi f b x y
theorem mB {α β γ:Type} (f:α→β) (b:Option γ) (x:γ→Option α):(b.bind x).map f=b.bind (fun t=>(x t).map f):=bind_map f b x
theorem mS {α β γ δ:Type} (f:α→β) (o:γ⊕δ) (x:γ→Option α) (y:δ→Option α):(sel o x y).map f=sel o (fun t=>(x t).map f) (fun t=>(y t).map f):=Ys4 f o x y
theorem mO {α β:Type} (f:α→β) (x:α):(some x).map f=some (f x):=rfl
theorem mN {α β:Type} (f:α→β):(none:Option α).map f=none:=rfl
theorem hT {P:Program} {nt np:Nat} {L:Lam}:Yb1 P nt np L []:=trivial
theorem Yxn (ht:Yag P tb) (hm:P.follows .mixedOrders=true) (fn:Func) (hn:Hint) (h:Hi) {f:FuncId} {pts:List PT} {ms:List Md} {ρ:Type} {F:PT.Els pts→Option ρ} {out:ρ→Out} {G:Gam} (hG:GOk P G)
  {L:Lam} {l:List (Nat×Code)} (hfr:Yb1 P fn.ntmps pts.length L l)
  (hE:∀ x,ev tb hn fn.ntmps pts.length G L (Yaf fn) h (Yh (PT.mks pts x)) (Ysv tb hn fn ms)=(F x).map out)
  (h1:P.funcs[f]? = some fn:=by kernel_rfl) (h2:fn.body.isSome=true:=by kernel_rfl) (h3:(fn.name == "runtime.NumGoroutine")=false:=by kernel_rfl)
  (h4:frs h (Yaf fn)=l:=by kernel_rfl) (h5:Nat.ble pts.length ms.length=true:=by kernel_rfl) (h6:Nat.ble pts.length fn.ntmps=true:=by kernel_rfl):Yb2 P f (Ybk ms pts F out):=
 Yuc ht h1 (Ygs h2) h3 (Yct ht hG hm _ h (Yly h4 hfr)) h5 h6 hE
def kp (e:Ex) (S:St):Option (Ex×St):=some (e,S)
def Ybq {ρ:Type} (out:Yqn ρ) (t:ρ):Ex×St:=(out t _ kp).getD (.nm,⟨[],[]⟩)
def Yt7 (sp:SP) {ρ:Type} (f:sp.El→Option ρ) (out:sp.El→Yqn ρ):St→∀ R:Type,(Ex→St→Option R)→Option R:=
 Yfb sp fun x R k=>(f x).bind fun t=>out x t R k
theorem Yvu (ht:Yag P tb) (hm:P.follows .mixedOrders=true) (hn:Hint) (h:Hi) {nt np:Nat} {body:Code} {sp:SP} {ρ:Type} {f:sp.El→Option ρ} {out:sp.El→Yqn ρ} {G:Gam} (hG:GOk P G)
  {L:Lam} {l:List (Nat×Code)} (hfr:Yb1 P nt np L l) (A b:List Nat) (X:List (Nat×KL)) (Rl:KL) {σ:Type} (B:sp.El→σ→Option (σ⊕ρ)) (H:sp.El→σ→St) (s0:sp.El→σ)
  (hE:∀ x s,ev tb hn nt np G L body h (H x s) (kLp (A,b) X Rl)=(B x s).map fun o=>sel o (fun s'=>.inl (H x s')) (fun y=>.inr (Ybq (out x) y)))
  (h1:∀ x,H x (s0 x)=sp.mk' x:=by intro x;rfl) (h2:∀ x,f x=Y9 (B x) (s0 x):=by intro x;rfl)
  (h3:∀ (x:sp.El) (t:ρ) (R:Type) (k:Ex→St→Option R),out x t R k=k (Ybq (out x) t).1 (Ybq (out x) t).2:=by intro x t R k;first | rfl | (rcases t with t | t<;>first | rfl | (rcases t with t | t<;>first | rfl | (rcases t with t | t<;>first | rfl | (rcases t with t | t<;>rfl)))))
  (h4:sp.closed=true:=by kernel_rfl) (h5:frs h body=l:=by kernel_rfl):Ya7 P nt np (.loop body) (Yt7 sp f out):=
 Yn3 h4 (Yct ht hG hm _ h (Yly h5 hfr)) fun x=>⟨σ,ρ,B x,H x,Ybq (out x),s0 x,h1 x,hE x,fun R k=>by
  rw[h2 x];exact congrArg (fun g=>(Y9 (B x) (s0 x)).bind g) (funext fun t=>h3 x t R k)⟩
end Mf
