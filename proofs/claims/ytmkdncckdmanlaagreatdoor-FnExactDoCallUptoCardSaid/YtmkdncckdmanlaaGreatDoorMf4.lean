import Derived.Test.YtmkdncckdmanlaaGreatDoorMf3
set_option linter.unusedVariables false
set_option linter.unusedSimpArgs false
set_option autoImplicit true
set_option relaxedAutoImplicit true
namespace Mf
open Go
variable {C:Cx} {G:Gam} {H:Type} {P:Program} {S:St} {Z:W0} {held:Bool} {np nt:Nat} {tb:Tb} {w w':World}
section
def Fit:(t:Ty)→t.El→Prop
 |.int k,x=>k.min≤x∧x≤k.max
 |.bool,_ | .str,_ | .unit,_=>True
 |.pair a b,x=>Fit a x.1∧Fit b x.2
 |.sl e,xs=>∀ x∈xs,Fit e x
 |.arr n e,xs=>xs.length=n∧∀ x∈xs,Fit e x
def wt:(t:Ty)→t.El→Nat
 |.int _,_ | .bool,_=>1
 |.str,(x:List UInt8)=>x.length+1
 |.unit,_=>0
 |.pair a b,x=>wt a x.1+wt b x.2
 |.sl e,(xs:List e.El)=>(xs.map (wt e)).sum+1
 |.arr _ e,(xs:List e.El)=>(xs.map (wt e)).sum
def Yej {H:Type} (f:DataW H→Nat):List (DataW H)→Nat
 |[]=>0
 |d::r=>f d+Yej f r
structure Yuh {H:Type} (f:DataW H→Nat):Prop where
 one:∀ d,1≤f d
 str:∀ b,f (.lit (.string b))=b.length+1
 sl:∀ a b,Yej f a+1≤f (.slice a b)
 agg:∀ a,Yej f a≤f (.agg a)
def stB (tb:Tb):Ty→Nat→List Field→Bool
 |.unit,_,[]=>true
 |.pair a b,off,f::l=>(match lk f.type tb with | some j=>decide (j.ty=a) | none=>false)&&(Nat.beq f.offset off&&stB tb b (off+a.size) l)
 |_,_,_=>false
def clB (P:Program) (tb:Tb) (t:TypeId) (i:Yfa):Bool:=match i.d,i.ty with
 |.sl e,.sl te=>(match lk e tb with | some j=>decide (j.ty=te) | none=>false)&&Nat.blt 0 te.size
 |.st _,ty=>match P.underlying t with | some (.struct fs)=>stB tb ty 0 fs.toList | _=>false
 |.int _,_ | .bool,_ | .str,_=>true
 |_,_=>false
def Yc4 (P:Program) (tb:Tb):Tb→Bool
 |[]=>true
 |(t,i)::l=>clB P tb t i&&Yc4 P tb l
theorem Yfj:∀ {l:Tb},Yc4 P tb l=true→∀ t i,lk t l=some i→clB P tb t i=true
 |[],h,t,i,hl=>by cases hl
 |(u,j)::l,h,t,i,hl=>by
  simp only[Yc4,jC] at h;simp only[lk] at hl
  split at hl
  ·rename_i e;rw[Nat.beq_eq] at e;subst e;cases hl;exact h.1
  ·exact Yfj h.2 t i hl
theorem Yqm {α:Type} {n:Nat} {Q:Nat→α→Prop} (h:∀ i,i<n→∃ y,Q i y):∃ xs:List α,xs.length=n∧∀ i (hi:i<xs.length),Q i (xs[i]'hi):=by
 induction n with
 |zero=>exact⟨[],rfl,fun i hi=>by simp at hi⟩
 |succ n ih=>
  obtain⟨xs,h1,h2⟩:=ih (fun i hi=>h i (by omega))
  obtain⟨y,hy⟩:=h n (by omega)
  refine⟨xs++[y],by simp[h1],fun i hi=>?_⟩
  by_cases e:i<xs.length
  ·rw[kW e];exact h2 i e
  ·have:i=n:=by simp at hi;omega
   subst this
   rw[kX (by omega)]
   simpa [h1] using hy
theorem Ysr {α β:Type} {f:α→Nat} {g:β→Nat}:∀ {xs:List α} {ys:List β},xs.length=ys.length→(∀ (i:Nat) x y,xs[i]? = some x→ys[i]? = some y→f x≤g y)→(xs.map f).sum≤(ys.map g).sum
 |[],[],_,_=>jB _
 |x::xs,y::ys,hl,h=>by
  simp only[jS,List.sum_cons];have h1:=h 0 x y rfl rfl
  have h2:=Ysr (f:=f) (g:=g) (xs:=xs) (ys:=ys) (by simpa using hl) (fun i a b ha hb=>h (i+1) a b (by simpa using ha) (by simpa using hb))
  omega
 |[],_::_,hl,_=>by cases hl
 |_::_,[],hl,_=>by cases hl
theorem Ykj {H:Type} (f:DataW H→Nat) {α:Type} (g:α→DataW H):∀ xs:List α,(xs.map fun x=>f (g x)).sum=Yej f (xs.map g)
 |[]=>rfl
 |x::xs=>by simp only[jS,List.sum_cons,Yej,Ykj f g xs]
variable {enc:TypeId×Value→H} {spare:Nat→Bool} {f:DataW H→Nat}
theorem Yc2 (h:TOk P t i):P.cellsOf t=i.ty.size:=by
 obtain⟨j,hj,hs,_⟩:=h.i;simp[Program.cellsOf,hj,hs]
def Reads (w:World) (f:DataW H→Nat) (t:Ty) (s:Src) (d:DataW H):Prop:=∃ x:t.El,Rep w noB t .sh x s noB∧Fit t x∧wt t x≤f d
theorem Yno (hb:Yaf P tb) {fuel:Nat} {cs:List Value} {s:Src} (hs:∀ (k:Nat) v,cs[k]? = some v→s.cell w k=some v)
  (ih:∀ t i cs d ps,lk t tb=some i→DataW.trod enc P w 0 spare held fuel t cs=some (d,ps)→∀ s,(∀ (k:Nat) v,cs[k]? = some v→s.cell w k=some v)→cs.length=i.ty.size→Reads w f i.ty s d) :
  ∀ (l:List Field) (t:Ty) (off:Nat) (xs:List (DataW H×List MemPlace)),stB tb t off l=true→off+t.size≤cs.length→
   l.mapM (fun g=>DataW.trod enc P w 0 spare held fuel g.type ((cs.drop g.offset).take (P.cellsOf g.type)))=some xs→∃ x:t.El,Rep w noB t .sh x (s.sh off) noB∧Fit t x∧wt t x≤Yej f (xs.map (·.1))
 |[],t,off,xs,hst,hl,hx=>by
  cases t<;>simp only[stB] at hst<;>first | cases hst | skip
  exact⟨(),trivial,trivial,kE _⟩
 |g::l,t,off,xs,hst,hl,hx=>by
  cases t with
  |pair a b=>
   simp only[stB,jC,Nat.beq_eq] at hst;obtain⟨h1,h2,h3⟩:=hst
   split at h1
   ·rename_i j hj
    rw[jI] at h1;rw[List.mapM_cons] at hx
    cases hd:DataW.trod enc P w 0 spare held fuel g.type ((cs.drop g.offset).take (P.cellsOf g.type)) with
    |none=>rw[hd] at hx;cases hx
    |some y=>
     rw[hd] at hx
     cases hr:l.mapM (fun g=>DataW.trod enc P w 0 spare held fuel g.type ((cs.drop g.offset).take (P.cellsOf g.type))) with
     |none=>rw[hr] at hx;cases hx
     |some ys=>
      rw[hr] at hx;cases hx
      have hsz:P.cellsOf g.type=a.size:=by rw[Yc2 (hb _ _ hj),h1]
      simp only[Ty.size] at hl;rw[hsz,h2] at hd;subst h1
      obtain⟨x1,p1,p2,p3⟩:=ih g.type j _ y.1 y.2 hj hd (s.sh off) (fun k v hk=>by
       rw[List.getElem?_take] at hk
       split at hk
       ·rw[List.getElem?_drop] at hk
        rw[Src.Yk];exact hs _ v hk
       ·cases hk) (by simp;omega)
      obtain⟨x2,q1,q2,q3⟩:=Yno hb hs ih l b (off+j.ty.size) ys h3 (by omega) hr
      refine⟨(x1,x2),⟨noB,noB,p1,by rw[Src.Ygo];exact q1,fun _ h=>h,fun _ h=>h,fun _ h _=>h⟩,⟨p2,q2⟩,?_⟩
      simp only[wt,jS,Yej];omega
   ·cases h1
  |_=>simp only[stB] at hst;cases hst
theorem Yjz (hb:Yaf P tb) (hc:Yc4 P tb tb=true) (hf:Yuh f):∀ (fuel:Nat) (t:TypeId) (i:Yfa) (cs:List Value) (d:DataW H) (ps:List MemPlace),lk t tb=some i→
  DataW.trod enc P w 0 spare held fuel t cs=some (d,ps)→∀ s,(∀ (k:Nat) v,cs[k]? = some v→s.cell w k=some v)→cs.length=i.ty.size→Reads w f i.ty s d
 |0,t,i,cs,d,ps,hl,h=>by simp[DataW.trod] at h
 |fuel+1,t,i,cs,d,ps,hl,h=>by
  intro s hs hlen;have ih:=Yjz hb hc hf fuel;have hcl:=Yfj hc t i hl;have htok:=hb t i hl;obtain⟨⟨u,hu,hd,_⟩,_⟩:=hb t i hl;obtain⟨td,ty,by_⟩:=i;simp only at hd hcl hlen ⊢
  have one:∀ {t:Ty},t.size=1→cs.length=t.size→∃ v,cs=[v]:=fun e1 e2=>List.length_eq_one_iff.1 (by omega)
  cases td with
  |int k=>
   obtain⟨rfl,rfl⟩:=hd;obtain⟨v,rfl⟩:=one rfl hlen
   cases v<;>simp only[DataW.trod,hu] at h<;>try cases h
   rename_i k' n
   split at h
   ·rename_i hw
    cases h;obtain⟨rfl,hw⟩:=hw;refine⟨n,hs 0 _ rfl,?_,hf.one _⟩
    simpa [Lit.wf,Fit] using hw
   ·cases h
  |bool=>
   obtain⟨rfl,rfl⟩:=hd;obtain⟨v,rfl⟩:=one rfl hlen
   cases v<;>simp only[DataW.trod,hu] at h<;>try cases h
   exact⟨_,hs 0 _ rfl,trivial,hf.one _⟩
  |str=>
   obtain⟨rfl,rfl⟩:=hd;obtain⟨v,rfl⟩:=one rfl hlen
   cases v<;>simp only[DataW.trod,hu] at h<;>try cases h
   rename_i z
   split at h
   ·cases h
    exact⟨z.data.toList,⟨z,hs 0 _ rfl,rfl⟩,trivial,by rw[hf.str];exact jB _⟩
   ·cases h
  |sl e=>
   obtain⟨rfl,te,ie,rfl,_⟩:=hd;simp only[clB,jC,Nat.blt_eq] at hcl;obtain⟨hcl,hpos⟩:=hcl
   split at hcl
   ·rename_i j hj
    rw[jI] at hcl;subst hcl;have hsz:P.cellsOf e=j.ty.size:=Yc2 (hb _ _ hj);obtain⟨v,rfl⟩:=one rfl hlen
    have form:(∃ a n c,v=.slice (some a) n c)∨(v=.slice none 0 0∧d=.nil):=by
     cases v<;>simp only[DataW.trod,hu] at h<;>try cases h
     rename_i A n c
     cases A with
     |none=>
      cases n<;>cases c<;>simp only[] at h<;>first | (cases h;exact .inr ⟨rfl,rfl⟩) | cases h
     |some a=>exact .inl ⟨_,_,_,rfl⟩
    rcases form with ⟨a,len,cap,rfl⟩ | ⟨rfl,rfl⟩
    rotate_left
    ·exact⟨[],⟨none,0,hs 0 _ rfl,jB _,fun hh=>absurd rfl hh⟩,(fun x hx=>by cases hx),hf.one _⟩
    ·simp only[DataW.trod,hu] at h
     split at h
     ·rename_i hcond
      cases he:(List.range len).mapM (fun i=>(w.cells? 0 (a.add (i*P.cellsOf e)) (P.cellsOf e)).bind (DataW.trod enc P w 0 spare held fuel e)) with
      |none=>rw[he] at h;cases h
      |some elems=>
       rw[he] at h;simp only[jA] at h
       have hel:elems.length=len:=by rw[mapM_some_length he,kJ]
       have at_:∀ i,i<len→∃ l y,w.cells? 0 (a.add (i*P.cellsOf e)) (P.cellsOf e)=some l∧elems[i]? = some y∧DataW.trod enc P w 0 spare held fuel e l=some (y.1,y.2):=by
        intro i hi
        have h1:=mapM_some_get he i i (by simp[hi])
        have h2:elems[i]? = some elems[i]:=kV (by omega)
        rw[h2] at h1
        cases hcc:w.cells? 0 (a.add (i*P.cellsOf e)) (P.cellsOf e) with
        |none=>rw[hcc] at h1;cases h1
        |some l=>rw[hcc] at h1;exact⟨l,_,rfl,h2,h1⟩
       have cellsAt:∀ i,i<len→∀ l,w.cells? 0 (a.add (i*P.cellsOf e)) (P.cellsOf e)=some l→l.length=j.ty.size∧∀ k v,l[k]? = some v→w.cell? ((a.add (i*P.cellsOf e)).add k)=some v:=by
        intro i hi l hcc;simp only[World.cells?,kE,if_true] at hcc;have h1:=mapM_some_length hcc;rw[kJ,hsz] at h1;refine⟨h1,fun k v hk=>?_⟩;have hk':k<l.length:=(List.getElem?_eq_some_iff.1 hk).1
        have:=mapM_some_get hcc k k (by rw[List.getElem?_range (by rw[hsz,←h1];exact hk')])
        rw[this,hk]
       have spot:0<len→a=⟨a.block,a.off,none⟩∧a.block<w.heap.size:=by
        intro hpos';obtain⟨l,y,h1,_,_⟩:=at_ 0 hpos';obtain⟨h2,h3⟩:=cellsAt 0 hpos' l h1
        have h4:=h3 0 l[0] (kV (by omega))
        have e0:(a.add (0*P.cellsOf e)).add 0=a:=by simp[Addr.add]
        rw[e0] at h4;unfold World.cell? at h4
        split at h4
        ·rename_i c _ _ hh
         have hb':a.block<w.heap.size:=(Array.getElem?_eq_some_iff.1 hh).1
         split at h4
         ·cases h4
         ·rename_i hsp
          obtain⟨ab,ao,as⟩:=a
          cases as with
          |none=>exact⟨rfl,hb'⟩
          |some q=>exact absurd rfl hsp
        ·cases h4
       obtain⟨xs,hxl,hx⟩:=Yqm (n:=len) (Q:=fun i (x:j.ty.El)=>Rep w noB j.ty .sh x (.mem a.block (a.off+i*j.ty.size)) noB∧Fit j.ty x∧∀ y,elems[i]? = some y→wt j.ty x≤f y.1) (fun i hi=>by
        obtain⟨l,y,h1,h2,h3⟩:=at_ i hi;obtain⟨h4,h5⟩:=cellsAt i hi l h1
        obtain⟨hsp,_⟩:=spot (by omega)
        obtain⟨x,p1,p2,p3⟩:=ih e j l y.1 y.2 hj h3 (.mem a.block (a.off+i*j.ty.size)) (fun k v hk=>by
         have:=h5 k v hk;rw[hsp,hsz] at this;simp only[Src.cell];rw[←this]
         congr 1
         by_cases e1:i*j.ty.size=0
         ·by_cases e2:k=0
          ·simp[Addr.add,e1,e2]
          ·simp[Addr.add,e1,e2]
         ·by_cases e2:k=0
          ·simp only[Addr.add,e1,e2,if_false,if_true];simp
          ·simp only[Addr.add,e1,e2,if_false];try simp[kH]) h4
        exact⟨x,p1,p2,fun y' hy'=>by rw[h2] at hy';cases hy';exact p3⟩)
       have hrd:Rep w noB (.sl j.ty) .sh xs s noB∧Fit (.sl j.ty) xs:=by
        refine⟨⟨some a,cap,by rw[hxl];exact hs 0 _ rfl,by rw[hxl];exact hcond.2.1,fun hne=>?_⟩,fun x hm=>?_⟩
        ·have hpos':0<len:=by rw[←hxl];exact List.length_pos_iff.2 hne
         obtain⟨hsp,hlt⟩:=spot hpos';exact⟨a.block,a.off,congrArg some hsp,fun hh=>hh,hlt,fun i hi=>(hx i hi).1⟩
        ·obtain⟨i,hi,rfl⟩:=List.getElem_of_mem hm
         exact(hx i hi).2.1
       have hsum:(xs.map (wt j.ty)).sum≤Yej f (elems.map (·.1)):=by
        rw[←Ykj f (fun y:DataW H×List MemPlace=>y.1) elems]
        refine Ysr (by omega) (fun i x y h1 h2=>?_)
        obtain⟨hi,rfl⟩:=List.getElem?_eq_some_iff.1 h1;exact(hx i hi).2.2 y h2
       cases hr:(if spare a.block then(List.range (cap-len)).mapM fun k=>(w.cells? 0 (a.add ((len+k)*P.cellsOf e)) (P.cellsOf e)).bind (DataW.trod enc P w 0 spare held fuel e) else some []) with
       |none=>rw[hr] at h;cases h
       |some rest=>
        rw[hr] at h;cases h;refine⟨xs,hrd.1,hrd.2,?_⟩
        have:=hf.sl (elems.map (·.1)) (rest.map (·.1))
        simp only[wt];omega
     ·cases h
   ·cases hcl
  |arr n e=>simp only[clB] at hcl;cases hcl
  |st offs=>
   obtain⟨fs,rfl,_⟩:=hd;simp only[clB,hu] at hcl;simp only[DataW.trod,hu] at h
   split at h
   ·rename_i hcs
    cases hm:fs.toList.mapM (fun g=>DataW.trod enc P w 0 spare held fuel g.type ((cs.drop g.offset).take (P.cellsOf g.type))) with
    |none=>rw[hm] at h;cases h
    |some xs=>
     rw[hm] at h;cases h
     obtain⟨x,p1,p2,p3⟩:=Yno hb hs ih fs.toList ty 0 xs hcl (by omega) hm
     rw[Src.Ydb] at p1;exact⟨x,p1,p2,jU p3 (hf.agg _)⟩
   ·cases h
  |ptr e=>exact hd.elim
  |other=>exact hd.elim
end
section
variable {enc:TypeId×Value→H} {held':Bool} {sp':Nat→Bool}
theorem Yf7 {α β:Type} {f g:α→Option β}:∀ {l:List α} {r:List β},l.mapM f=some r→(∀ x y,x∈l→y∈r→f x=some y→g x=some y)→l.mapM g=some r
 |[],r,h,hg=>by simpa using h
 |x::l,r,h,hg=>by
  rw[List.mapM_cons] at h ⊢
  cases hx:f x with
  |none=>rw[hx] at h;cases h
  |some y=>
   rw[hx] at h
   cases hl:l.mapM f with
   |none=>rw[hl] at h;cases h
   |some ys=>
    rw[hl] at h;cases h;rw[hg x y jF jF hx,Yf7 hl (fun a b ha hb=>hg a b (jG _ ha) (jG _ hb))];rfl
theorem Yq7 (hw:∀ b,b<w.heap.size→w'.heap[b]? = w.heap[b]?) (h:w.cell? a=some v):w'.cell? a=some v:=by
 unfold World.cell? at h ⊢
 split at h
 ·rename_i c _ _ hh
  have hb:a.block<w.heap.size:=(Array.getElem?_eq_some_iff.1 hh).1;rw[hw _ hb,hh];exact h
 ·cases h
theorem Yp0 (hw:∀ b,b<w.heap.size→w'.heap[b]? = w.heap[b]?) (h:w.cells? 0 a n=some l):w'.cells? 0 a n=some l:=by
 simp only[World.cells?,kE,if_true] at h ⊢;exact Yf7 h (fun x y _ _ he=>Yq7 hw he)
theorem Ylc (hb:Yaf P tb) (hc:Yc4 P tb tb=true) (hw:∀ b,b<w.heap.size→w'.heap[b]? = w.heap[b]?):∀ (fuel:Nat) (t:TypeId) (i:Yfa) (cs:List Value) (d:DataW H) (ps:List MemPlace),lk t tb=some i→
  DataW.trod enc P w 0 (fun _=>true) held fuel t cs=some (d,ps)→(∀ p∈ps,sp' p.block=true)→DataW.trod enc P w' 0 sp' held' fuel t cs=some (d,ps)
 |0,t,i,cs,d,ps,hl,h,hp=>by simp[DataW.trod] at h
 |fuel+1,t,i,cs,d,ps,hl,h,hp=>by
  have ih:=Ylc hb hc hw fuel;have hcl:=Yfj hc t i hl;obtain⟨⟨u,hu,hd,_⟩,_⟩:=hb t i hl;obtain⟨td,ty,by_⟩:=i;simp only at hd hcl
  cases td with
  |int k=>
   obtain⟨rfl,rfl⟩:=hd;rcases cs with _ | ⟨v,_ | ⟨v2,cs⟩⟩
   ·simp only[DataW.trod,hu] at h;cases h
   ·cases v<;>simp only[DataW.trod,hu] at h ⊢<;>first | exact h | cases h
   ·simp only[DataW.trod,hu] at h;cases h
  |bool=>
   obtain⟨rfl,rfl⟩:=hd;rcases cs with _ | ⟨v,_ | ⟨v2,cs⟩⟩
   ·simp only[DataW.trod,hu] at h;cases h
   ·cases v<;>simp only[DataW.trod,hu] at h ⊢<;>first | exact h | cases h
   ·simp only[DataW.trod,hu] at h;cases h
  |str=>
   obtain⟨rfl,rfl⟩:=hd;rcases cs with _ | ⟨v,_ | ⟨v2,cs⟩⟩
   ·simp only[DataW.trod,hu] at h;cases h
   ·cases v<;>simp only[DataW.trod,hu] at h ⊢<;>first | exact h | cases h
   ·simp only[DataW.trod,hu] at h;cases h
  |sl e=>
   obtain⟨rfl,te,ie,rfl,_⟩:=hd;simp only[clB,jC,Nat.blt_eq] at hcl;obtain⟨hcl,hpos⟩:=hcl
   split at hcl
   ·rename_i j hj
    rw[jI] at hcl;subst hcl;have hsz:P.cellsOf e=j.ty.size:=Yc2 (hb _ _ hj)
    have form:(∃ a n c,cs=[.slice (some a) n c])∨cs=[.slice none 0 0]:=by
     rcases cs with _ | ⟨v,_ | ⟨v2,cs⟩⟩
     ·simp only[DataW.trod,hu] at h;cases h
     ·cases v<;>simp only[DataW.trod,hu] at h<;>try cases h
      rename_i A n c
      cases A with
      |none=>cases n<;>cases c<;>simp only[] at h<;>first | exact .inr rfl | cases h
      |some a=>exact .inl ⟨_,_,_,rfl⟩
     ·simp only[DataW.trod,hu] at h;cases h
    rcases form with ⟨a,len,cap,rfl⟩ | rfl
    ·simp only[DataW.trod,hu] at h ⊢
     split at h
     ·rename_i hcond
      rw[jL hcond]
      cases he:(List.range len).mapM (fun i=>(w.cells? 0 (a.add (i*P.cellsOf e)) (P.cellsOf e)).bind (DataW.trod enc P w 0 (fun _=>true) held fuel e)) with
      |none=>rw[he] at h;cases h
      |some elems=>
       rw[he] at h;simp only[jA,if_true] at h
       cases hr:(List.range (cap-len)).mapM (fun k=>(w.cells? 0 (a.add ((len+k)*P.cellsOf e)) (P.cellsOf e)).bind (DataW.trod enc P w 0 (fun _=>true) held fuel e)) with
       |none=>rw[hr] at h;cases h
       |some rest=>
        rw[hr] at h;simp only[jT,jD,jV] at h;obtain⟨rfl,rfl⟩:=h
        have step:∀ (y:DataW H×List MemPlace) (n:Nat),y∈elems++rest→(w.cells? 0 (a.add (n*P.cellsOf e)) (P.cellsOf e)).bind (DataW.trod enc P w 0 (fun _=>true) held fuel e)=some y→
          (w'.cells? 0 (a.add (n*P.cellsOf e)) (P.cellsOf e)).bind (DataW.trod enc P w' 0 sp' held' fuel e)=some y:=by
         intro y n hy h1
         cases hcc:w.cells? 0 (a.add (n*P.cellsOf e)) (P.cellsOf e) with
         |none=>rw[hcc] at h1;cases h1
         |some l=>
          rw[hcc] at h1;rw[Yp0 hw hcc];exact ih e j l y.1 y.2 hj h1 (fun p hp'=>hp p (kB _ (List.mem_flatMap.2 ⟨y,hy,hp'⟩)))
        have e1:(List.range len).mapM (fun i=>(w'.cells? 0 (a.add (i*P.cellsOf e)) (P.cellsOf e)).bind (DataW.trod enc P w' 0 sp' held' fuel e))=some elems:=
         Yf7 he (fun x y _ hy h1=>step y x (jW _ hy) h1)
        have e2:(List.range (cap-len)).mapM (fun k=>(w'.cells? 0 (a.add ((len+k)*P.cellsOf e)) (P.cellsOf e)).bind (DataW.trod enc P w' 0 sp' held' fuel e))=some rest:=
         Yf7 hr (fun x y _ hy h1=>step y (len+x) (kB _ hy) h1)
        rw[e1];simp only[jA]
        have e3:(if sp' a.block then(List.range (cap-len)).mapM fun k=>(w'.cells? 0 (a.add ((len+k)*P.cellsOf e)) (P.cellsOf e)).bind (DataW.trod enc P w' 0 sp' held' fuel e) else some [])=some rest:=by
         by_cases hz:cap-len=0
         ·have hrest:rest=[]:=by
           rw[hz] at hr
           simpa using hr.symm
          subst hrest
          split
          ·exact e2
          ·rfl
         ·have hlen:elems.length+rest.length=cap:=by
           rw[mapM_some_length he,mapM_some_length hr,kJ,kJ];omega
          have:sp' a.block=true:=by
           have hcap:0<cap*j.ty.size:=Nat.mul_pos (by omega) hpos
           refine hp (.cell a.block a.off) (jW _ ?_);rw[hlen,hsz];simp only[MemPlace.row,kS,List.mem_range]
           exact⟨0,hcap,by simp⟩
          rw[jL this];exact e2
        rw[e3];rfl
     ·cases h
    ·simp only[DataW.trod,hu] at h ⊢
     exact h
   ·cases hcl
  |arr n e=>simp only[clB] at hcl;cases hcl
  |st offs=>
   obtain⟨fs,rfl,_⟩:=hd;simp only[clB,hu] at hcl;simp only[DataW.trod,hu] at h ⊢
   split at h
   ·rename_i hcs
    rw[jL hcs]
    cases hm:fs.toList.mapM (fun g=>DataW.trod enc P w 0 (fun _=>true) held fuel g.type ((cs.drop g.offset).take (P.cellsOf g.type))) with
    |none=>rw[hm] at h;cases h
    |some xs=>
     rw[hm] at h;simp only[jT,jD,jV] at h;obtain⟨rfl,rfl⟩:=h
     have tys:∀ (l:List Field) (ty:Ty) (off:Nat),stB tb ty off l=true→∀ g∈l,∃ j,lk g.type tb=some j:=by
      intro l
      induction l with
      |nil=>intro ty off _ g hg;cases hg
      |cons g0 l ihl=>
       intro ty off hst g hg
       cases ty with
       |pair a b=>
        simp only[stB,jC] at hst;obtain⟨h1,_,h3⟩:=hst;rcases List.mem_cons.1 hg with rfl | hg
        ·split at h1
         ·rename_i j hj;exact⟨j,hj⟩
         ·cases h1
        ·exact ihl b _ h3 g hg
       |_=>simp only[stB] at hst;cases hst
     have:fs.toList.mapM (fun g=>DataW.trod enc P w' 0 sp' held' fuel g.type ((cs.drop g.offset).take (P.cellsOf g.type)))=some xs:=
      Yf7 hm (fun g y hg hy h1=>by
       obtain⟨j,hj⟩:=tys _ _ _ hcl g hg
       exact ih g.type j _ y.1 y.2 hj h1 (fun p hp'=>hp p (List.mem_flatMap.2 ⟨y,hy,hp'⟩)))
     rw[this];rfl
   ·cases h
  |ptr e=>exact hd.elim
  |other=>exact hd.elim
end
section
open Go.ChangeShapes
variable {enc:TypeId×Value→H}
theorem Yos {r:Reach} {base:Nat} {t:TypeId} {v:Value} {i:Yfa} (hd:TOk P t i) (h:Value.okWide P w r base t v):i.ty.isAgg=true↔∃ cs,v=.agg cs:=by
 obtain⟨⟨d,hu,hD,ha⟩,_⟩:=hd;rw[ha];unfold Value.okWide at h;rw[hu] at h;obtain⟨td,ty,by_⟩:=i;simp only at hD
 have leaf:d.isRow=false→Cell.okWide P w r base t v→(d=.bool∨d=.string∨(∃ k,d=.int k)∨∃ e,d=.slice e)→(d.isRow=true↔∃ cs,v=.agg cs):=by
  intro h1 h2 h3;rw[h1]
  refine⟨(fun e=>by cases e),fun⟨cs,e⟩=>?_⟩
  subst e
  rcases h3 with rfl | rfl | ⟨k,rfl⟩ | ⟨e,rfl⟩<;>simp[Cell.okWide,Cell.ok,hu] at h2
 cases td with
 |int k=>obtain⟨rfl,rfl⟩:=hD;exact leaf rfl h (.inr (.inr (.inl ⟨k,rfl⟩)))
 |bool=>obtain⟨rfl,rfl⟩:=hD;exact leaf rfl h (.inl rfl)
 |str=>obtain⟨rfl,rfl⟩:=hD;exact leaf rfl h (.inr (.inl rfl))
 |sl e=>obtain⟨rfl,_⟩:=hD;exact leaf rfl h (.inr (.inr (.inr ⟨e,rfl⟩)))
 |arr n e=>
  obtain⟨rfl,_⟩:=hD;obtain⟨cs,rfl,_⟩:=h
  exact⟨fun _=>⟨cs,rfl⟩,fun _=>rfl⟩
 |st offs=>
  obtain⟨fs,rfl,_⟩:=hD;obtain⟨cs,rfl,_⟩:=h
  exact⟨fun _=>⟨cs,rfl⟩,fun _=>rfl⟩
 |ptr e=>exact hD.elim
 |other=>exact hD.elim
def Yqv (tb:Tb):List TypeId→List Ty→Bool
 |[],[]=>true
 |t::ts,u::us=>(match lk t tb with | some i=>decide (i.ty=u) | none=>false)&&Yqv tb ts us
 |_,_=>false
abbrev shs (tys:List Ty):List PT:=tys.map fun t=>.cl .sh t
def Ynv:(tys:List Ty)→PT.Els (shs tys)→Prop
 |[],_=>True
 |t::l,x=>Fit t x.1∧Ynv l x.2
def Ypw:(tys:List Ty)→PT.Els (shs tys)→Nat
 |[],_=>0
 |t::l,x=>wt t x.1+Ypw l x.2
def Yff (w:World):(tys:List Ty)→PT.Els (shs tys)→List Value→Prop
 |[],_,vs=>vs=[]
 |t::l,x,v::vs=>(Rep w noB t .sh x.1 (.reg v.cells.toList 0) noB∧v.cells.size=t.size∧(t.isAgg=true↔∃ cs,v=.agg cs))∧Yff w l x.2 vs
 |_::_,_,[]=>False
theorem Yn5 (hb:Yaf P tb) {t:TypeId} {i:Yfa} (hl:lk t tb=some i) {held:Bool} {fuel:Nat} {sp:Nat→Bool} {v:Value} {d:DataW H} {ps:List MemPlace} (hagg:i.ty.isAgg=true↔∃ cs,v=.agg cs)
  (h:DataW.trod enc P w 0 sp held fuel t v.cells.toList=some (d,ps)):v.cells.size=i.ty.size:=by
 cases hh:i.ty.isAgg with
 |false=>
  have:¬ ∃ cs,v=.agg cs:=fun e=>by rw[hagg.2 e] at hh;cases hh
  rw[Ydi this]
  cases ht:i.ty<;>rw[ht] at hh<;>first | rfl | cases hh
 |true=>
  obtain⟨⟨u,hu,hD,ha⟩,_⟩:=hb t i hl;have hcell:=Yc2 (hb t i hl)
  cases fuel with
  |zero=>simp[DataW.trod] at h
  |succ n=>
   obtain⟨td,ty,by_⟩:=i;simp only at hD hh ha hcell ⊢
   cases td with
   |int k=>obtain⟨_,rfl⟩:=hD;cases hh
   |bool=>obtain⟨_,rfl⟩:=hD;cases hh
   |str=>obtain⟨_,rfl⟩:=hD;cases hh
   |sl e=>obtain⟨_,te,ie,rfl,_⟩:=hD;cases hh
   |arr n e=>
    obtain⟨rfl,_⟩:=hD;simp only[DataW.trod,hu] at h
    split at h
    ·rename_i hc;rw[←hcell,←hc];simp
    ·cases h
   |st offs=>
    obtain⟨fs,rfl,_⟩:=hD;simp only[DataW.trod,hu] at h
    split at h
    ·rename_i hc;rw[←hcell,←hc];simp
    ·cases h
   |ptr e=>exact hD.elim
   |other=>exact hD.elim
theorem Ykh (hb:Yaf P tb) (hc:Yc4 P tb tb=true) {bk:DataW H→Nat} (hf:Yuh bk) {held:Bool} {sp:Nat→Bool} {base:Nat}:∀ (ts:List TypeId) (tys:List Ty) (vs:List Value) (ds:List (DataW H)) (ps:List MemPlace),
  Yqv tb ts tys=true→(∀ (j:Nat) t v,ts[j]? = some t→vs[j]? = some v→Value.okWide P w .any base t v)→DataW.TrodAll enc P w 0 sp held ts vs ds ps→
  ∃ x:PT.Els (shs tys),Yff w tys x vs∧Ynv tys x∧Ypw tys x≤Yej bk ds
 |[],[],vs,ds,ps,ht,hv,h=>by
  obtain⟨rfl,rfl,rfl⟩:=trodAll_nil h
  exact⟨(),rfl,trivial,kE _⟩
 |t::ts,ty::tys,vs,ds,ps,ht,hv,h=>by
  obtain⟨v,vs1,d,ds1,a,b,rfl,rfl,rfl,h1,h2⟩:=trodAll_cons h;simp only[Yqv,jC] at ht;obtain⟨ht1,ht2⟩:=ht
  split at ht1
  ·rename_i i hi
   rw[jI] at ht1;subst ht1
   obtain⟨x2,p1,p2,p3⟩:=Ykh hb hc hf ts tys vs1 ds1 b ht2 (fun j t v e1 e2=>hv (j+1) t v (by simpa using e1) (by simpa using e2)) h2
   obtain⟨fuel,h1⟩:=h1;have hagg:=Yos (hb t i hi) (hv 0 t v rfl rfl);have hsz:=Yn5 hb hi hagg h1
   obtain⟨x1,q1,q2,q3⟩:=Yjz hb hc hf fuel t i _ d a hi h1 (.reg v.cells.toList 0) (fun k u hk=>by simp only[Src.cell,jJ];exact hk) (by simp[hsz])
   refine⟨(x1,x2),⟨⟨q1,hsz,hagg⟩,p1⟩,⟨q2,p2⟩,?_⟩;simp only[Ypw,Yej];omega
  ·cases ht1
 |[],_::_,vs,ds,ps,ht,hv,h=>by cases ht
 |_::_,[],vs,ds,ps,ht,hv,h=>by cases ht
theorem Ygs (hb:Yaf P tb) (hc:Yc4 P tb tb=true) (hw:∀ b,b<w.heap.size→w'.heap[b]? = w.heap[b]?) {held held':Bool} {sp':Nat→Bool}:∀ (ts:List TypeId) (tys:List Ty) (vs:List Value) (ds:List (DataW H)) (ps:List MemPlace),
  Yqv tb ts tys=true→DataW.TrodAll enc P w 0 (fun _=>true) held ts vs ds ps→(∀ p∈ps,sp' p.block=true)→DataW.TrodAll enc P w' 0 sp' held' ts vs ds ps
 |[],[],vs,ds,ps,ht,h,hp=>by
  obtain⟨rfl,rfl,rfl⟩:=trodAll_nil h
  exact trodAll_mk0
 |t::ts,ty::tys,vs,ds,ps,ht,h,hp=>by
  obtain⟨v,vs1,d,ds1,a,b,rfl,rfl,rfl,h1,h2⟩:=trodAll_cons h;simp only[Yqv,jC] at ht;obtain⟨ht1,ht2⟩:=ht
  split at ht1
  ·rename_i i hi
   obtain⟨fuel,h1⟩:=h1;exact⟨a,b,⟨fuel,Ylc hb hc hw fuel t i _ d a hi h1 (fun p hp'=>hp p (jW _ hp'))⟩,Ygs hb hc hw ts tys vs1 ds1 b ht2 h2 (fun p hp'=>hp p (kB _ hp')),rfl⟩
  ·cases ht1
 |[],_::_,vs,ds,ps,ht,h,hp=>by cases ht
 |_::_,[],vs,ds,ps,ht,h,hp=>by cases ht
theorem Yff.length {tys:List Ty}:∀ {x:PT.Els (shs tys)} {vs:List Value},Yff w tys x vs→vs.length=(PT.mks (shs tys) x).length:=by
 induction tys with
 |nil=>intro x vs h;rw[show vs=[] from h];rfl
 |cons t l ih=>
  intro x vs h
  cases vs with
  |nil=>exact h.elim
  |cons v vs=>exact congrArg (·+1) (ih h.2)
theorem Yff.get {tys:List Ty}:∀ {x:PT.Els (shs tys)} {vs:List Value} (i:Nat) {c:TV},Yff w tys x vs→(PT.mks (shs tys) x)[i]? = some c→
  ∃ t y v,c=.cl .sh t y∧vs[i]? = some v∧Rep w noB t .sh y (.reg v.cells.toList 0) noB∧v.cells.size=t.size∧(t.isAgg=true↔∃ cs,v=.agg cs):=by
 induction tys with
 |nil=>intro x vs i c h hc;cases hc
 |cons t l ih=>
  intro x vs i c h hc
  cases vs with
  |nil=>exact h.elim
  |cons v vs=>
   cases i with
   |zero=>cases hc;exact⟨t,x.1,v,rfl,rfl,h.1.1,h.1.2.1,h.1.2.2⟩
   |succ i=>
    obtain⟨t',y,u,h1,h2,h3⟩:=ih i h.2 (c:=c) hc
    exact⟨t',y,u,h1,by simpa using h2,h3⟩
theorem Ytx {tys:List Ty}:∀ (x:PT.Els (shs tys)),PT.rds (shs tys) (PT.mks (shs tys) x)=some x:=by
 induction tys with
 |nil=>intro x;rfl
 |cons t l ih=>
  intro x
  have e1:(PT.cl .sh t).rd (.cl .sh t x.1)=some x.1:=by
   simp only[PT.rd];rw[show decEq Ow.sh Ow.sh=isTrue rfl from Subsingleton.elim _ _,show decEq t t=isTrue rfl from Subsingleton.elim _ _]
  have h2:=ih x.2;change PT.rds (PT.cl .sh t::shs l) (TV.cl .sh t x.1::PT.mks (shs l) x.2)=some x;simp only[PT.rds];rw[e1,h2];rfl
theorem Yrz (r:Nat) (p:Path) (t:Ty) (x:t.El):Yap r p .sh t x=.cl .sh t x:=by
 cases t<;>simp only[Yap]<;>first | rfl | (split<;>rfl)
theorem Yqc {f:FuncId} {ms:List Md} {tys:List Ty} {x:PT.Els (shs tys)} {us:Array Value} {o:Ow} {b:Bool} (hC:Ycz P f ms (PT.mks (shs tys) x) ⟨[.cl o .bool b],[]⟩) (ha:Yff w tys x us.toList) :
  Calls P f us w fun e w'=>e=.returned (.bool b)∧(∀ i,i<w.heap.size→w'.heap[i]? = w.heap[i]?)∧w'.os=w.os∧w'.output=w.output∧w.heap.size≤w'.heap.size:=by
 have hlen:us.size=(PT.mks (shs tys) x).length:=by rw[←ha.length];simp
 let Z:W0:=⟨w,noB,fun _ _=>False,noB,fun i=>if i<us.size then some (.reg (us.getD i undef).cells.toList 0) else none,us.size⟩
 let C:Cx:=⟨fun i=>.reg (us.getD i undef).cells.toList 0,fun _=>noB⟩
 have hroot:∀ r,(Yh (PT.mks (shs tys) x)).root r=none:=by
  intro r;unfold St.root Yh;simp only[Ykv];rw[jL (kE r)]
  cases hc:(PT.mks (shs tys) x)[r-0]? with
  |none=>rfl
  |some c=>
   obtain⟨t,y,v,rfl,_⟩:=ha.get _ hc
   have:Y8 (.cl .sh t y)=none:=by
    show(match t.pure,Ow.sh with | true,_=>none | false,.sh=>none | false,o=>some (Root.mk .reg (.cl o t y)))=none
    cases t.pure<;>rfl
   simp[this]
 have hM:∀ b,¬ Mt Z C (Yh (PT.mks (shs tys) x)).root noB b:=by
  rintro b (⟨r,R,h,_⟩ | h | h)
  ·rw[hroot] at h;cases h
  ·exact h
  ·exact h
 have I:Inv Z (Yh (PT.mks (shs tys) x)) C ⟨us,[]⟩ w:=by
  refine⟨⟨?_,?_,?_,?_,fun _ h=>h.elim,?_,?_,?_,jB _,fun _ _ _=>rfl,fun _ _ _=>rfl,fun _ _ _ _=>rfl,fun _ h=>h.elim,fun _ _ h=>h.elim,rfl,rfl,rfl⟩,fun i v hv=>?_,rfl,rfl⟩
  ·intro r R h;rw[hroot] at h;cases h
  ·intro r R h;rw[hroot] at h;cases h
  ·intro r R h;rw[hroot] at h;cases h
  ·intro r R b h;rw[hroot] at h;cases h
  ·intro r r' R R' _ h;rw[hroot] at h;cases h
  ·intro r R h;rw[hroot] at h;cases h
  ·intro r R h;rw[hroot] at h;cases h
  ·have h1:=Ye1 (PT.mks (shs tys) x) 0 i
   rw[show lk i (Ydf 0 (PT.mks (shs tys) x))=some v from hv,jL (kE i)] at h1
   cases hc:(PT.mks (shs tys) x)[i-0]? with
   |none=>rw[hc] at h1;cases h1
   |some c=>
    rw[hc] at h1;obtain⟨t,y,u,rfl,hu,hr,hs,hg⟩:=ha.get _ hc;simp only[jT,jD,TV.mir,Yrz] at h1;subst h1;rw[Nat.sub_zero] at hu
    have hu':us.getD i undef=u:=by
     rw[kU,←Array.getElem?_toList,hu];rfl
    show Yb _ _ _ _ _ _;rw[show(Act.mk us []).tmps=us from rfl,hu'];refine⟨?_,hs,hg⟩;have:=Ya.mono (Lf:=Yi w (Mt Z C (Yh (PT.mks (shs tys) x)).root noB) C.L (Yh (PT.mks (shs tys) x)).root) (tv:=.cl .sh t y) hr (M':=Mt Z C (Yh (PT.mks (shs tys) x)).root noB) (fun b h=>(hM b h).elim);exact this
 refine(hC.calls Z C us hlen rfl (fun i hi=>jM (by omega)) (fun i hi=>jL hi) I).mono fun e w' he=>?_
 obtain⟨v,rfl,C',G,ρ,Fr,hS,_,_,hres,_⟩:=he
 have hv:v=.bool b:=by
  obtain⟨h1,h2,h3⟩:Ya _ _ _ (TV.cl o .bool b) (.reg v.cells.toList 0) Fr∧v.cells.size=1∧((TV.cl o .bool b).isAgg=true↔∃ cs,v=.agg cs):=hres
  have hna:¬ ∃ cs,v=.agg cs:=fun e=>by have:=h3.2 e;cases this
  have h4:v.cells.toList[0+0]? = some (.bool b):=h1;rw[Ydi hna] at h4
  simpa using h4
 subst hv;exact⟨rfl,fun i hi=>hS.old i hi (fun h=>h),hS.os,hS.output,hS.sz⟩
theorem Ym4 {may:MemPlace→Prop} (h:∀ i,i<w.heap.size→w'.heap[i]? = w.heap[i]?) (h1:w'.os=w.os) (h2:w'.output=w.output):w.keptBut w' may:=by
 have hr:=World.keptBut_refl w may;refine⟨h1,h2,fun i hi=>?_⟩;rw[h i hi];exact hr.2.2 i hi
theorem Ytf (hb:Yaf P tb) (hc:Yc4 P tb tb=true) {bk:DataW H→Nat} (hf:Yuh bk) {f:FuncId} {fn:Func} {tys:List Ty} (hty:Yqv tb fn.params.toList tys=true)
  {ms:List Md} {F:PT.Els (shs tys)→Option Bool} {o:Ow} (hok:Ycm P f (Ycx ms (shs tys) F (fun b=>⟨[.cl o .bool b],[]⟩))) {N:Nat} {s:ChangeSpec} (hvars:s.vars=[]) {W:World} {base:Nat} {args:Array Value} {ds gs:List (DataW H)} {before:List MemPlace}
  (hval:∀ (j:Nat) t v,fn.params[j]? = some t→args[j]? = some v→Value.okWide P W .any base t v) (hW:DataW.Whole enc P fn.params.toList s.vars false W args.toList ds gs before)
  (hk:Yej bk (ds++gs)≤N) (law:∀ x,Ynv tys x→Ypw tys x≤N→F x=some true)
  (hs:s.fn H (ds++gs)={results:=[.lit (.bool true)],args:=ds }) {tr:TypeId} (hres:fn.resultTypes=#[tr]) (hbool:P.underlying tr=some .bool) :
  Calls P f args W fun e W'=>∃ v,e=.returned v∧s.post enc P fn false true false false W args v W':=by
 have hW0:=hW;obtain⟨p,q,hA,hV,rfl,hfz,hnd⟩:=hW
 obtain⟨rfl,rfl⟩:gs=[]∧q=[]:=by rw[hvars] at hV;exact trodVars_none hV
 obtain⟨x,h1,h2,h3⟩:=Ykh hb hc hf fn.params.toList tys args.toList ds p hty (fun j t v e1 e2=>hval j t v (by simpa using e1) (by simpa using e2)) hA
 rw[qC] at hk;have hF:=law x h2 (jU h3 hk)
 obtain⟨out,e1,hC⟩:=hok (PT.mks (shs tys) x) Out some ⟨[.cl o .bool true],[]⟩ (by simp only[Ycx,Ytx,hF];rfl)
 cases e1;refine(Yqc hC h1).mono fun e W' he=>?_;obtain⟨rfl,hold,hos,hout,hsz⟩:=he
 refine⟨_,rfl,ds,[],p++[],[],p,[],hW0,?_,?_,?_,Ym4 hold hos hout,fun h=>by cases h⟩
 ·rw[hs,hres]
  exact trodAll_mk1 ⟨1,by simp[DataW.trod,hbool,Value.resultList,Value.cells]⟩
 ·rw[hs]
  refine Ygs hb hc hold fn.params.toList tys args.toList ds p hty hA (fun y hy=>?_)
  have:=hW0.lt y (by simpa using hy)
  simpa using this
 ·rw[hvars,hs];rfl
end
theorem Ykt:∀ {n:Nat} {s:σ} {r:ρ},iter f n s=some r→iter f (n+1) s=some r
 |0,s,r,h=>by cases h
 |n+1,s,r,h=>by
  rw[iter] at h ⊢
  cases hf:f s with
  |none=>rw[hf] at h;cases h
  |some o=>
   rw[hf] at h
   cases o with
   |inl s'=>exact Ykt (n:=n) h
   |inr r'=>exact h
theorem Ypi {σ ρ:Type} {f:σ→Option (σ⊕ρ)} {n m:Nat} {s:σ} {r:ρ} (h:iter f n s=some r) (hnm:n≤m):iter f m s=some r:=by
 induction hnm with
 |refl=>exact h
 |step _ ih=>exact Ykt ih
theorem Yjb {σ ρ:Type} {f:σ→Option (σ⊕ρ)} {s:σ} {r:ρ} {n:Nat} (h:iter f n s=some r):Yan f s=some r:=by
 unfold Yan;have hh:∃ r n,iter f n s=some r:=⟨r,n,h⟩;rw[dif_pos hh];obtain⟨m,hm⟩:=hh.choose_spec;have h1:=Ypi h (Nat.le_max_left n m);have h2:=Ypi hm (Nat.le_max_right n m);rw[h1] at h2;exact h2.symm
theorem Yas {σ ρ:Type} {f:σ→Option (σ⊕ρ)} {s:σ} {r:ρ} (h:f s=some (.inr r)):Yan f s=some r:=
 Yjb (n:=1) (by rw[iter,h];rfl)
theorem Ybd {σ ρ:Type} {f:σ→Option (σ⊕ρ)} {s s':σ} (h:f s=some (.inl s')):Yan f s=Yan f s':=by
 by_cases hh:∃ r n,iter f n s'=some r
 ·obtain⟨r,n,hn⟩:=hh
  rw[Yjb hn]
  exact Yjb (n:=n+1) (by rw[iter,h];exact hn)
 ·have h1:¬ ∃ r n,iter f n s=some r:=by
   rintro⟨r,n,hn⟩
   cases n with
   |zero=>cases hn
   |succ n=>rw[iter,h] at hn;exact hh ⟨r,n,hn⟩
  unfold Yan;rw[dif_neg hh,dif_neg h1]
theorem Yss (h1 : -9223372036854775808≤x) (h2:x≤9223372036854775807):w64 x=x:=by
 simp[w64,IntKind.wrap,IntKind.bits,IntKind.signed];omega
theorem Yuw {i:Int} {n:Nat} (h1:0≤i) (h2:i<n):inB i n=true:=by
 simp[inB,h1,h2]
theorem Yw1 {i n:Nat} (h:i<n):decide ((i:Int)<(n:Int))=true:=by simp;omega
theorem Yww {i n:Nat} (h:n≤i):decide ((i:Int)<(n:Int))=false:=by simp;omega
theorem Ywd {i:Nat} (h:i<4294967296):w64 ((i:Int)+1)=((i+1:Nat):Int):=by rw[Yss (by omega) (by omega)];rfl
def Yb0 {α τ ρ:Type} (step:Nat→α→τ→τ⊕ρ) (e:τ→ρ):Nat→List α→τ→ρ
 |_,[],t=>e t
 |i,x::l,t=>sel (step i x t) (fun t'=>Yb0 step e (i+1) l t') (fun r=>r)
theorem Yg6 (l:List α) (mk:Nat→τ→σ) (step:Nat→α→τ→τ⊕ρ) (e:τ→ρ)
  (hs:∀ (i:Nat) (h:i<l.length) (t:τ),f (mk i t)=some (sel (step i l[i] t) (fun t'=>.inl (mk (i+1) t')) (fun r=>.inr r)))
  (he:∀ t,f (mk l.length t)=some (.inr (e t))):∀ (k i:Nat) (t:τ),i+k=l.length→Yan f (mk i t)=some (Yb0 step e i (l.drop i) t)
 |0,i,t,hi=>by
  have:i=l.length:=by omega
  subst this
  rw[Yas (he t)];simp[Yb0]
 |k+1,i,t,hi=>by
  have hlt:i<l.length:=by omega
  rw[kZ hlt,Yb0];have:=hs i hlt t
  cases hst:step i l[i] t with
  |inl t'=>rw[hst] at this;rw[Ybd this,Yg6 l mk step e hs he k (i+1) t' (by omega)];rfl
  |inr r=>rw[hst] at this;rw[Yas this];rfl
theorem Yjc (l:List α) (mk:Nat→τ→σ) (step:Nat→α→τ→τ⊕ρ) (e:τ→ρ)
  (hs:∀ (i:Nat) (h:i<l.length) (t:τ),f (mk i t)=some (sel (step i l[i] t) (fun t'=>.inl (mk (i+1) t')) (fun r=>.inr r)))
  (he:∀ t,f (mk l.length t)=some (.inr (e t))) (t:τ) (hs0:s=mk 0 t):Yan f s=some (Yb0 step e 0 l t):=by
 rw[hs0,Yg6 l mk step e hs he l.length 0 t (by omega)];rfl
theorem Yjd (l:List α) (mk:Nat→τ→σ) (step:Nat→α→τ→τ⊕ρ) (e:τ→ρ) (I:Nat→τ→Prop)
  (hs:∀ (i:Nat) (h:i<l.length) (t:τ),I i t→f (mk i t)=some (sel (step i l[i] t) (fun t'=>.inl (mk (i+1) t')) (fun r=>.inr r)))
  (hI:∀ (i:Nat) (h:i<l.length) (t t':τ),I i t→step i l[i] t=.inl t'→I (i+1) t')
  (he:∀ t,I l.length t→f (mk l.length t)=some (.inr (e t))):∀ (k i:Nat) (t:τ),i+k=l.length→I i t→Yan f (mk i t)=some (Yb0 step e i (l.drop i) t)
 |0,i,t,hi,h0=>by
  have:i=l.length:=by omega
  subst this
  rw[Yas (he t h0)];simp[Yb0]
 |k+1,i,t,hi,h0=>by
  have hlt:i<l.length:=by omega
  rw[kZ hlt,Yb0];have:=hs i hlt t h0
  cases hst:step i l[i] t with
  |inl t'=>rw[hst] at this;rw[Ybd this,Yjd l mk step e I hs hI he k (i+1) t' (by omega) (hI i hlt t t' h0 hst)];rfl
  |inr r=>rw[hst] at this;rw[Yas this];rfl
theorem Ym8 (l:List α) (mk:Nat→τ→σ) (step:Nat→α→τ→τ⊕ρ) (e:τ→ρ) (I:Nat→τ→Prop)
  (hs:∀ (i:Nat) (h:i<l.length) (t:τ),I i t→f (mk i t)=some (sel (step i l[i] t) (fun t'=>.inl (mk (i+1) t')) (fun r=>.inr r)))
  (hI:∀ (i:Nat) (h:i<l.length) (t t':τ),I i t→step i l[i] t=.inl t'→I (i+1) t')
  (he:∀ t,I l.length t→f (mk l.length t)=some (.inr (e t))) (t:τ) (h0:I 0 t) (hs0:s=mk 0 t):Yan f s=some (Yb0 step e 0 l t):=by
 rw[hs0,Yjd l mk step e I hs hI he l.length 0 t (by omega) h0];rfl
theorem Ykp (p:α→Bool) (r e:ρ):∀ (l:List α) (i:Nat),Yb0 (τ:=Unit) (fun _ x _=>cond (p x) (.inr r) (.inl ())) (fun _=>e) i l ()=cond (l.any p) r e
 |[],i=>rfl
 |x::l,i=>by
  simp only[Yb0,List.any_cons];cases h:p x
  ·simp only[cond_false,sel,Bool.false_or];exact Ykp p r e l (i+1)
  ·rfl
def Yg2 {α:Type} (c:α→Int):List α→Int
 |[]=>0
 |x::l=>cond (c x != 0) (c x) (Yg2 c l)
theorem Yiy (g:τ→α→τ) (e:τ→ρ):∀ (l:List α) (i:Nat) (t:τ),Yb0 (fun _ x t=>.inl (g t x)) e i l t=e (l.foldl g t)
 |[],i,t=>rfl
 |x::l,i,t=>by simp only[Yb0,sel,Yiy g e l (i+1),kI]
theorem Yvj {α:Type} (b:Bool) (x y:α):some (cond b x y)=cond b (some x) (some y):=by cases b<;>rfl
theorem getD_lt {α:Type} {l:List α} {i:Nat} (d:α) (h:i<l.length):l.getD i d=l[i]:=by simp[List.getD,h]
theorem toNat_cast (i:Nat):((i:Int)).toNat=i:=kY i
theorem Ywy {i n:Nat} (h:i<n):inB (i:Int) n=true:=Yuw (by omega) (by omega)
theorem Ywg {α:Type} (x y:α):cond true x y=x:=rfl
theorem Ywf {α:Type} (x y:α):cond false x y=y:=rfl
theorem Yvg {α:Type} (b:Bool) (x:α):cond b x x=x:=by cases b<;>rfl
theorem Ywn (a:α) (f:α→γ) (g:β→γ):sel (.inl a) f g=f a:=rfl
theorem Ywo (a:β) (f:α→γ) (g:β→γ):sel (.inr a) f g=g a:=rfl
theorem Yu0 {α:Type} (l:List α) {f:Int→Option (Int⊕(Int⊕Unit))} (c:α→Int)
  (hs:∀ (i:Nat) (h:i<l.length),f (i:Int)=cond (c l[i] != 0) (some (.inr (.inl (c l[i])))) (some (.inl ((i+1:Nat):Int)))) (he:f (l.length:Int)=some (.inr (.inr ()))) :
  Yan f 0=some (cond (Yg2 c l != 0) (.inl (Yg2 c l)) (.inr ())):=by
 have h:=Yjc (τ:=Unit) l (fun i _=>(i:Int)) (fun _ x _=>cond (c x != 0) (.inr (.inl (c x))) (.inl ())) (fun _=>(.inr ():Int⊕Unit)) (fun i hi t=>by rw[hs i hi];cases (c l[i] != 0)<;>rfl) (fun t=>he) () (s:=0) rfl
 rw[h]
 congr 1
 clear h hs he
 have:∀ (l:List α) (i:Nat),Yb0 (τ:=Unit) (fun _ x _=>cond (c x != 0) (.inr (.inl (c x))) (.inl ())) (fun _=>(.inr ():Int⊕Unit)) i l ()=cond (Yg2 c l != 0) (.inl (Yg2 c l)) (.inr ()):=by
  intro l
  induction l with
  |nil=>intro i;rfl
  |cons x l ih=>
   intro i;simp only[Yb0,Yg2];cases h:(c x != 0)
   ·simp only[cond_false,sel];exact ih (i+1)
   ·simp only[cond_true,sel,h]
 exact this l 0
theorem Yv2 {α ρ:Type} (l:List α) {f:Int→Option (Int⊕(ρ⊕Unit))} (p:α→Bool) (r:ρ)
  (hs:∀ (i:Nat) (h:i<l.length),f (i:Int)=cond (p l[i]) (some (.inr (.inl r))) (some (.inl ((i+1:Nat):Int)))) (he:f (l.length:Int)=some (.inr (.inr ()))) :
  Yan f 0=some (cond (l.any p) (.inl r) (.inr ())):=by
 have h:=Yjc (τ:=Unit) l (fun i _=>(i:Int)) (fun _ x _=>cond (p x) (.inr (.inl r)) (.inl ())) (fun _=>(.inr ():ρ⊕Unit)) (fun i hi t=>by rw[hs i hi];cases (p l[i])<;>rfl) (fun t=>he) () (s:=0) rfl
 rw[h,Ykp]
def Yoh {α:Type} (p:α→Bool):Nat→List α→Option Nat
 |_,[]=>none
 |i,x::l=>cond (p x) (some i) (Yoh p (i+1) l)
theorem Yv3 {α:Type} (l:List α) {f:Int→Option (Int⊕(Int⊕Unit))} (p:α→Bool)
  (hs:∀ (i:Nat) (h:i<l.length),f (i:Int)=cond (p l[i]) (some (.inr (.inl (i:Int)))) (some (.inl ((i+1:Nat):Int)))) (he:f (l.length:Int)=some (.inr (.inr ()))) (n:Nat) (hn:n≤l.length) :
  Yan f (n:Int)=some (match Yoh p n (l.drop n) with | some j=>.inl (j:Int) | none=>.inr ()):=by
 have h:=Yg6 (τ:=Unit) l (fun i _=>(i:Int)) (fun i x _=>cond (p x) (.inr (.inl (i:Int))) (.inl ())) (fun _=>(.inr ():Int⊕Unit)) (fun i hi t=>by rw[hs i hi];cases (p l[i])<;>rfl) (fun t=>he) (l.length-n) n () (by omega)
 rw[h]
 congr 1
 clear h hs he
 have:∀ (l:List α) (i:Nat),Yb0 (τ:=Unit) (fun i x _=>cond (p x) (.inr (.inl (i:Int))) (.inl ())) (fun _=>(.inr ():Int⊕Unit)) i l ()=(match Yoh p i l with | some j=>.inl (j:Int) | none=>.inr ()):=by
  intro l
  induction l with
  |nil=>intro i;rfl
  |cons x l ih=>
   intro i;simp only[Yb0,Yoh];cases h:(p x)
   ·simp only[cond_false,sel];exact ih (i+1)
   ·simp only[cond_true,sel]
 exact this _ _
theorem Yp7:∀ {l:List α} {i:Nat},Yoh p i l=none↔l.any p=false
 |[],i=>by simp[Yoh]
 |x::l,i=>by
  simp only[Yoh,List.any_cons];cases p x
  ·simp only[cond_false,Bool.false_or];exact Yp7
  ·simp
theorem Yon {α τ ρ:Type} (l:List α) {f:Int×τ→Option ((Int×τ)⊕ρ)} (g:τ→α→τ) (e:τ→ρ) (I:Nat→τ→Prop)
  (hs:∀ (i:Nat) (h:i<l.length) (t:τ),I i t→f ((i:Int),t)=some (.inl (((i+1:Nat):Int),g t l[i]))∧I (i+1) (g t l[i])) (he:∀ t,I l.length t→f ((l.length:Int),t)=some (.inr (e t))) (t:τ) (h0:I 0 t) :
  Yan f (0,t)=some (e (l.foldl g t)):=by
 have h:=Ym8 (τ:=τ) l (fun i t=>((i:Int),t)) (fun _ x t=>.inl (g t x)) e I (fun i hi t h=>by rw[(hs i hi t h).1];rfl) (fun i hi t t' h e=>by cases e;exact(hs i hi t h).2) he t h0 (s:=(0,t)) rfl
 rw[h,Yiy]
theorem foldl_map {α β:Type} (g:α→β):∀ (l:List α) (t:List β),l.foldl (fun t x=>t++[g x]) t=t++l.map g
 |[],t=>by simp
 |x::l,t=>by simp[foldl_map g l]
theorem Yvi {α β ρ:Type} (l:List α) {f:Int×List β→Option ((Int×List β)⊕ρ)} (g:α→β) (e:List β→ρ) (n:Nat)
  (hs:∀ (i:Nat) (h:i<l.length) (t:List β),t.length=n+i→f ((i:Int),t)=some (.inl (((i+1:Nat):Int),t++[g l[i]]))) (he:∀ t,t.length=n+l.length→f ((l.length:Int),t)=some (.inr (e t))) (t:List β) (ht:t.length=n) :
  Yan f (0,t)=some (e (t++l.map g)):=by
 rw[Yon l (fun t x=>t++[g x]) e (fun i t=>t.length=n+i) (fun i hi t h=>⟨hs i hi t h,by simp[h];omega⟩) (fun t h=>he t h) t (by omega),foldl_map]
theorem Ywi {α β:Type} {x:Option α} {f:α→Option β} (h:∃ r,x=some r) (hf:∀ r,∃ q,f r=some q):∃ q,x.bind f=some q:=by
 obtain⟨r,rfl⟩:=h;exact hf r
theorem Ywj {α:Type} {b:Bool} {x y:Option α} (hx:∃ q,x=some q) (hy:∃ q,y=some q):∃ q,cond b x y=some q:=by
 cases b<;>assumption
theorem Yvy {α β:Type} {b:Bool} {x y:Option (α⊕β)} {P:α→Prop} (hx:(∃ q,x=some (.inl q)∧P q)∨∃ q,x=some (.inr q)) (hy:(∃ q,y=some (.inl q)∧P q)∨∃ q,y=some (.inr q)) :
  (∃ q,cond b x y=some (.inl q)∧P q)∨∃ q,cond b x y=some (.inr q):=by
 cases b<;>assumption
theorem Ytg {σ ρ τ:Type} {f:σ→Option (σ⊕ρ)} (mk:Nat→τ→σ) (n:Nat)
  (h:∀ i k,i<n→(∃ s,f (mk i k)=some (.inl s)∧∃ k',s=mk (i+1) k')∨∃ r,f (mk i k)=some (.inr r)) (he:∀ k,∃ r,f (mk n k)=some (.inr r)) :
  ∀ (m i:Nat) (k:τ),i+m=n→∃ r,Yan f (mk i k)=some r
 |0,i,k,hi=>by
  have:i=n:=by omega
  subst this;obtain⟨r,hr⟩:=he k
  exact⟨r,Yas hr⟩
 |m+1,i,k,hi=>by
  rcases h i k (by omega) with ⟨s,hs,k',rfl⟩ | ⟨r,hr⟩
  ·rw[Ybd hs];exact Ytg mk n h he m (i+1) k' (by omega)
  ·exact⟨r,Yas hr⟩
theorem Ypu (a:List α) (B:Int×List α→Option ((Int×List α)⊕List α))
  (hs:∀ (i:Nat) (h:i<a.length) (out:List α),out.length=a.length→B ((i:Int),out)=some (.inl (((i+1:Nat):Int),out.set i a[i])))
  (he:∀ out:List α,out.length=a.length→B ((a.length:Int),out)=some (.inr out)) :
  ∀ (k i:Nat) (out:List α),i+k=a.length→out.length=a.length→(∀ j:Nat,j<i→out[j]? = a[j]?)→Yan B ((i:Int),out)=some a
 |0,i,out,h1,h2,h3=>by
  have e:out=a:=List.ext_getElem? (fun j=>by
   by_cases hj:j<i
   ·exact h3 j hj
   ·rw[List.getElem?_eq_none (by omega),List.getElem?_eq_none (by omega)])
  have:i=a.length:=by omega
  subst this
  rw[Yas (he out h2),e]
 |k+1,i,out,h1,h2,h3=>by
  have hi:i<a.length:=by omega
  rw[Ybd (hs i hi out h2)]
  refine Ypu a B hs he k (i+1) _ (by omega) (by simp[h2]) (fun j hj=>?_)
  by_cases e:j=i
  ·subst e
   rw[List.getElem?_set_self (by omega),kV hi]
  ·rw[List.getElem?_set_ne (fun x=>e x.symm)]
   exact h3 j (by omega)
theorem Ywc (a:List α) (B:Int×List α→Option ((Int×List α)⊕List α)) (z:α)
  (hs:∀ (i:Nat) (h:i<a.length) (out:List α),out.length=a.length→B ((i:Int),out)=some (.inl (((i+1:Nat):Int),out.set i a[i])))
  (he:∀ out:List α,out.length=a.length→B ((a.length:Int),out)=some (.inr out)):Yan B (0,List.replicate (a.length:Int).toNat z)=some a:=by
 have:=Ypu a B hs he a.length 0 (List.replicate (a.length:Int).toNat z) (by omega) (by simp) (fun j hj=>by omega)
 simpa using this
theorem Ype (B:Int→Option (Int⊕(Bool⊕Unit))) (hs:∀ i:Nat,i<n→B (i:Int)=some (.inl ((i+1:Nat):Int))) (he:B (n:Int)=some (.inr (.inr ()))) :
  ∀ (k i:Nat),i+k=n→Yan B (i:Int)=some (.inr ())
 |0,i,h=>by
  have:i=n:=by omega
  subst this;exact Yas he
 |k+1,i,h=>by rw[Ybd (hs i (by omega))];exact Ype B hs he k (i+1) (by omega)
theorem Yvw (B:Int→Option (Int⊕(Bool⊕Unit))) (hs:∀ i:Nat,i<n→B (i:Int)=some (.inl ((i+1:Nat):Int))) (he:B (n:Int)=some (.inr (.inr ()))):Yan B 0=some (.inr ()):=Ype B hs he n 0 (by omega)
def MH {α:Type} (M:α→Int→Option (Int×α)) (H:α→Int→Option Int) (w:Nat) (a:α) (k:Int):Prop:=
 ∃ k' a',k≤k'∧k'≤k+w∧M a k=some (k',a')∧H a' k=some k'
theorem Ykx (w:α→Nat) (N:Int) (MB:Int×Int×List α→Option ((Int×Int×List α)⊕(Int×List α))) (HB:List α→Int×Int→Option ((Int×Int)⊕(Int⊕Int)))
  (he:∀ (k:Int) (a:List α),MB (k,(a.length:Int),a)=some (.inr (k,a))) (heH:∀ (k:Int) (a:List α),HB a (k,(a.length:Int))=some (.inr (.inr k)))
  (hs:∀ (k:Int) (i:Nat) (a:List α) (h:i<a.length),a.length≤2147483648→0≤k→k+w a[i]≤N→w a[i]≤2147483648→
   ∃ k' x',k≤k'∧k'≤k+w a[i]∧MB (k,(i:Int),a)=some (.inl (k',((i+1:Nat):Int),a.set i x'))∧
    ∀ b:List α,b.length=a.length→b[i]? = some x'→HB b (k,(i:Int))=some (.inl (k',((i+1:Nat):Int)))) :
  ∀ (n i:Nat) (k:Int) (a:List α),i+n=a.length→a.length≤2147483648→0≤k→k+((a.drop i).map w).sum≤N→((a.drop i).map w).sum≤2147483648→
   ∃ k' a',k≤k'∧k'≤k+((a.drop i).map w).sum∧a'.length=a.length∧Yan MB (k,(i:Int),a)=some (k',a')∧(∀ j:Nat,j<i→a'[j]? = a[j]?)∧
    ∀ b:List α,b.length=a.length→(∀ j:Nat,i≤j→b[j]? = a'[j]?)→Yan (HB b) (k,(i:Int))=some (.inr k')
 |0,i,k,a,h1,hl,h2,h3,h4=>by
  have:i=a.length:=by omega
  subst this
  refine⟨k,a,by omega,by omega,rfl,Yas (he k a),fun _ _=>rfl,fun b hb _=>?_⟩
  rw[←hb];exact Yas (heH k b)
 |n+1,i,k,a,h1,hl,h2,h3,h4=>by
  have hi:i<a.length:=by omega
  rw[kZ hi,jS,List.sum_cons] at h3 h4
  obtain⟨k1,x1,e1,e2,e3,e4⟩:=hs k i a hi hl h2 (by omega) (by omega)
  have hd:(a.set i x1).drop (i+1)=a.drop (i+1):=by rw[List.drop_set_of_lt (by omega)]
  obtain⟨k',a',f1,f2,f3,f4,f5,f6⟩:=Ykx w N MB HB he heH hs n (i+1) k1 (a.set i x1) (by simp;omega) (by simpa using hl) (by omega) (by rw[hd];omega) (by rw[hd];omega)
  rw[hd] at f2;rw[kC] at f3
  refine⟨k',a',by omega,?_,f3,by rw[Ybd e3];exact f4,fun j hj=>?_,fun b hb h=>?_⟩
  ·rw[kZ hi,jS,List.sum_cons];omega
  ·rw[f5 j (by omega),List.getElem?_set_ne (by omega)]
  ·have hx:b[i]? = some x1:=by rw[h i (jB _),f5 i (by omega),List.getElem?_set_self hi]
   rw[Ybd (e4 b hb hx)]
   exact f6 b (by rw[kC];exact hb) (fun j hj=>h j (by omega))
theorem Yu1 (w:α→Nat) (N:Int) (MB:Int×Int×List α→Option ((Int×Int×List α)⊕(Int×List α))) (HB:List α→Int×Int→Option ((Int×Int)⊕(Int⊕Int)))
  (he:∀ (k:Int) (a:List α),MB (k,(a.length:Int),a)=some (.inr (k,a))) (heH:∀ (k:Int) (a:List α),HB a (k,(a.length:Int))=some (.inr (.inr k)))
  (hs:∀ (k:Int) (i:Nat) (a:List α) (h:i<a.length),a.length≤2147483648→0≤k→k+w a[i]≤N→w a[i]≤2147483648→
   ∃ k' x',k≤k'∧k'≤k+w a[i]∧MB (k,(i:Int),a)=some (.inl (k',((i+1:Nat):Int),a.set i x'))∧
    ∀ b:List α,b.length=a.length→b[i]? = some x'→HB b (k,(i:Int))=some (.inl (k',((i+1:Nat):Int))))
  (k:Int) (a:List α) (hl:a.length≤2147483648) (h0:0≤k) (hw:k+(a.map w).sum≤N) (hz:(a.map w).sum≤2147483648) :
   ∃ k' a',k≤k'∧k'≤k+(a.map w).sum∧Yan MB (k,0,a)=some (k',a')∧Yan (HB a') (k,0)=some (.inr k'):=by
 obtain⟨k',a',e1,e2,e3,e4,_,e6⟩:=Ykx w N MB HB he heH hs a.length 0 k a (by omega) hl h0 (by simpa using hw) (by simpa using hz)
 exact⟨k',a',e1,by simpa using e2,e4,e6 a' e3 fun _ _=>rfl⟩
theorem Yl1 {α:Type} (w:α→Nat) (h:∀ x,1≤w x):∀ xs:List α,xs.length≤(xs.map w).sum
 |[]=>jB _
 |x::xs=>by have:=Yl1 w h xs;have:=h x;simp only[jS,List.sum_cons,jH];omega
theorem Yti {α:Type} (w:α→Nat):∀ (xs:List α) (i:Nat) (h:i<xs.length),w xs[i]≤(xs.map w).sum
 |[],i,h=>absurd h (Nat.not_lt_zero _)
 |x::xs,0,h=>by simp
 |x::xs,i+1,h=>by
  have:=Yti w xs i (by simpa using h)
  simp only[List.getElem_cons_succ,jS,List.sum_cons];omega
theorem Ywl {α:Type} {b:List α} {i:Nat} {x:α} (d:α) (h:b[i]? = some x):b.getD i d=x:=by simp[List.getD,h]
theorem Yv1 {α:Type} {l:List α} {i:Nat} (x d:α) (h:i<l.length):(l.set i x).getD i d=x:=by simp[List.getD,h]
theorem Yxd (h1:0≤x) (h2:x≤9223372036854775807):w64 x=x:=Yss (by omega) h2
theorem Yvx {α β γ:Type} {x:Option α} {f:α→Option (β⊕γ)} {P:β→Prop} (h:∃ r,x=some r) (hf:∀ r,(∃ q,f r=some (.inl q)∧P q)∨∃ q,f r=some (.inr q)) :
  (∃ q,x.bind f=some (.inl q)∧P q)∨∃ q,x.bind f=some (.inr q):=by
 obtain⟨r,rfl⟩:=h;exact hf r
def MK {α:Type} (M:α→Int→Option (Int×α)) (w:Nat) (a:α) (k:Int):Prop:=∃ k' a',k≤k'∧k'≤k+w∧M a k=some (k',a')
theorem MH.mk {α:Type} {M:α→Int→Option (Int×α)} {H:α→Int→Option Int} {w:Nat} {a:α} {k:Int} (h:MH M H w a k):MK M w a k:=by
 obtain⟨k',a',h1,h2,h3,_⟩:=h;exact⟨k',a',h1,h2,h3⟩
theorem Ywk {α:Type} (x:α):∃ q,some x=some q:=⟨x,rfl⟩
theorem Yws {σ ρ:Type} {P:σ→Prop} (r:ρ):(∃ s,some (Sum.inr r:σ⊕ρ)=some (.inl s)∧P s)∨∃ q,some (Sum.inr r:σ⊕ρ)=some (.inr q):=.inr ⟨_,rfl⟩
theorem Yxc {α β:Type} (p:α×β):(p.1,p.2)=p:=rfl
theorem Ysv (e:Ty) (xs:List e.El):wt (.sl e) xs=(xs.map (wt e)).sum+1:=rfl
theorem Ymj (a b:Ty) (x:a.El×b.El):wt (.pair a b) x=wt a x.1+wt b x.2:=rfl
theorem Yvd (k:IntKind) (x:Int):wt (.int k) x=1:=rfl
theorem Yo3 (x:List UInt8):wt .str x=x.length+1:=rfl
theorem Yt7 (x:Unit):wt .unit x=0:=rfl
theorem wA:(∀ (e:Ty) (x:List e.El),wt (.sl e) x=(x.map (wt e)).sum+1)∧(∀ (a b:Ty) (x:a.El×b.El),wt (.pair a b) x=wt a x.1+wt b x.2)∧(∀ (k:IntKind) (x:Int),wt (.int k) x=1)∧(∀ x:Bool,wt .bool x=1)∧(∀ x:List UInt8,wt .str x=x.length+1)∧∀ x:Unit,wt .unit x=0:=
 ⟨Ysv,Ymj,Yvd,fun _=>rfl,Yo3,Yt7⟩
theorem Ywm {k:Int} (h:0≤k):decide (k<0)=false:=by simp;omega
theorem Yvo (x:Int):(x != x)=false:=by simp
theorem Yvf (x:List UInt8):(x == x)=true:=by simp
theorem Yve (x:Bool):(x == x)=true:=by simp
def Bd:(t:Ty)→t.El→Prop
 |.int _,_ | .bool,_ | .unit,_=>True
 |.str,x=>(x:List UInt8).length≤2147483648
 |.pair a b,x=>Bd a x.1∧Bd b x.2
 |.sl e,xs=>(xs:List e.El).length≤2147483648∧∀ x∈(xs:List e.El),Bd e x
 |.arr _ e,xs=>(xs:List e.El).length≤2147483648∧∀ x∈(xs:List e.El),Bd e x
def Yqo:Ty→Bool
 |.int _ | .bool | .str | .sl _=>true
 |.unit | .arr _ _=>false
 |.pair a b=>Yqo a || Yqo b
def okT:Ty→Bool
 |.int _ | .bool | .str | .unit=>true
 |.sl e=>Yqo e&&okT e
 |.arr _ e=>Yqo e&&okT e
 |.pair a b=>okT a&&okT b
theorem Ymk:∀ {t:Ty},Yqo t=true→∀ x:t.El,1≤wt t x
 |.int _,_,x | .bool,_,x=>jB 1
 |.str,_,x=>by simp only[Yo3];omega
 |.sl e,_,x=>by simp only[Ysv];omega
 |.unit,h,x | .arr _ _,h,x=>by cases h
 |.pair a b,h,x=>by
  simp only[Yqo,Bool.or_eq_true] at h;simp only[Ymj];rcases h with h | h
  ·have:=Ymk h x.1;omega
  ·have:=Ymk h x.2;omega
theorem Yje {α:Type} (w:α→Nat) {x:α}:∀ {xs:List α},x∈xs→w x≤(xs.map w).sum
 |y::xs,h=>by
  simp only[jS,List.sum_cons];rcases List.mem_cons.1 h with rfl | h
  ·omega
  ·have:=Yje w h;omega
theorem Yo7:∀ {t:Ty},okT t=true→∀ {x:t.El},wt t x≤2147483648→Bd t x
 |.int _,_,x,_ | .bool,_,x,_ | .unit,_,x,_=>trivial
 |.str,_,x,h=>by rw[Yo3] at h;show x.length≤_;omega
 |.pair a b,ht,x,h=>by
  simp only[okT,jC] at ht;simp only[Ymj] at h
  exact⟨Yo7 ht.1 (by omega),Yo7 ht.2 (by omega)⟩
 |.sl e,ht,xs,h=>by
  simp only[okT,jC] at ht;simp only[Ysv] at h;have:=Yl1 (wt e) (Ymk ht.1) xs
  exact⟨by omega,fun x hx=>Yo7 ht.2 (by have:=Yje (wt e) hx;omega)⟩
 |.arr _ e,ht,xs,h=>by
  simp only[okT,jC] at ht;have h:(List.map (wt e) xs).sum≤2147483648:=h;have:=Yl1 (wt e) (Ymk ht.1) xs
  exact⟨by omega,fun x hx=>Yo7 ht.2 (by have:=Yje (wt e) hx;omega)⟩
theorem Yt2 {α:Type} (w:α→Nat) (B:Nat):∀ {xs:List α},(∀ x∈xs,w x≤B)→(xs.map w).sum≤xs.length*B
 |[],h=>by simp
 |y::xs,h=>by
  have:=Yt2 w B (xs:=xs) fun x hx=>h x (jG _ hx);have:=h y (jF ..);simp only[jS,List.sum_cons,jH,jY];omega
def Yq8 {α:Type} (xs:List α):Option (List α):=cond (decide (xs.length≤2147483648)) (some xs) none
def Yue (xs:List Int):Option (List Int):=cond (decide (xs.length≤2147483648)) (some (xs.mergeSort fun x y=>decide (x≤y))) none
section
variable {a:Act}
theorem Yh0 (g:o.guard=none):Region.wanted o (yielded ops a.tmps)=true:=by
 unfold Region.wanted;rw[g]
theorem Ypd (h:(execOp a.eval o).run P w=.ok (.value u) w) (hK:K (a.put o.dst u) w):o.wp P a w K Q:=by
 unfold Oper.wp;rw[h];exact hK
theorem Yqx {id:Nat} {o1 o2:Oper} {t t' et:TypeId} {e:Ty} {xs:List e.El} {d0 d1 d2:Nat}
  (h1:o1.op=.move (.tmp d0)) (e1:o1.dst=some d1) (g1:o1.guard=none)
  (h2:o2.op=.binOp .eql t (.tmp d1) (.const (.slice none 0 0)) t') (e2:o2.dst=some d2) (g2:o2.guard=none)
  (hu:P.underlying t=some (.slice et)) (I:Inv Z S C a w) (hS:Ya8 S) (hd1:d1<Z.nt) (hd2:d2<Z.nt) (hx:lk d0 S.tm=some (.cl .sh (.sl e) xs)) {Q:Exit→Act→World→Prop}
  (hQ:∀ a' (b:Bool),(b=true→xs=[])→Inv Z ((S.ap ⟨[(d1,.cl .sh (.sl e) xs)],[],[]⟩).ap ⟨[(d2,.cl .sh .bool b)],[],[]⟩) C a' w→Q .normal a' w) :
  (Code.region id #[o1,o2] false).wp P Q a w:=by
 have hv:Yb w (Mt Z C S.root noB) C.L S.root (.cl .sh (.sl e) xs) (a.tmps.getD d0 undef):=I.tm d0 _ hx;obtain⟨A,c,hval⟩:=hv.sl
 have hA:A=none→xs=[]:=by
  intro hn;obtain⟨A',c',hc,hle,hne⟩:=(hv.1:Rep _ _ (.sl e) .sh xs _ _);rw[hval] at hc;have:some (Value.slice A xs.length c)=some (.slice A' xs.length c'):=hc;cases this
  by_cases hxs:xs=[]
  ·exact hxs
  ·obtain⟨b,off,h,_⟩:=hne hxs;rw[hn] at h;cases h
 refine wp_region ?_;show wpOps P #[o1,o2] Q [0,1] a w;rw[wpOps_cons]
 refine Ygt (o:=o1) rfl (Yh0 g1) (Ypd (u:=a.tmps.getD d0 undef) (by simp[execOp,h1,Act.eval]) ?_)
 have I1:Inv Z (S.ap ⟨[(d1,.cl .sh (.sl e) xs)],[],[]⟩) C (a.put o1.dst (a.tmps.getD d0 undef)) w:=by
  rw[e1];exact I.slot (fun i t b x h=>absurd h (hS i t b x)) hd1 (VOk.tm (v:=.cl .sh (.sl e) xs) hv _)
 have hval1:(a.put o1.dst (a.tmps.getD d0 undef)).eval (.tmp d1)=.slice A xs.length c:=by
  have:=I1.tm d1 (.cl .sh (.sl e) xs) (by simp[St.ap,Yx,lk])
  rw[e1,Act.put];simp only[Act.eval];rw[←hval];have hts:=I.ts;simp[Array.getD,hts,hd1]
 generalize hS1:(S.ap ⟨[(d1,.cl .sh (.sl e) xs)],[],[]⟩)=S1 at I1 hQ;generalize ha1:a.put o1.dst (a.tmps.getD d0 undef)=a1 at I1 hval1;rw[wpOps_cons]
 have hS1n:Ya8 S1:=by
  rw[←hS1];intro s t b v hv;rw[Yeh] at hv;simp only at hv
  by_cases es:s=d1
  ·subst es;rw[Yl] at hv;cases hv
  ·rw[Yv es] at hv
   simp only[lk] at hv
   cases hl:lk s S.tm with
   |none=>rw[hl] at hv;cases hv
   |some v0=>
    rw[hl] at hv;simp only[jT,jD] at hv;obtain⟨u',rfl⟩:=Yg5 hv;exact hS s t b u' hl
 refine Ygt (o:=o2) rfl (Yh0 g2) (Ypd (u:=.bool A.isNone) ?_ ?_)
 ·have hq:=Lib.run_eql_slice_nil (P:=P) w t et A xs.length c 0 0 hu
  have hg:(eqGuard .eql t (.tmp d1) (.const (.slice none 0 0)) (.slice A xs.length c) (.slice none 0 0)).run P w=.ok () w:=by unfold eqGuard;rfl
  have hc:a1.eval (.const (.slice none 0 0))=.slice none 0 0:=rfl;simp only[execOp,h2,hval1,hc,Sem.run_bind,hg,Result.andThen_ok,hq];rfl
 ·show Q .normal _ w
  refine hQ _ A.isNone (fun h=>hA (by simpa using h)) ?_
  rw[e2];exact I1.slot (fun i t b x h=>absurd h (hS1n i t b x)) hd2 (VOk.tm (v:=.cl .sh .bool A.isNone) (Yb.Ybr _ _) _)
end
section
variable {a:Act}
variable {L:Lam} {hn:Hint}
def Yca (e:Ty):SP:=⟨[(0,.cl .sh (.sl e))],[]⟩
def Yco (o:Ow) (e:Ty) (xs:List e.El):St:=⟨[(2,.seg 2 [])],[(2,some ⟨.reg,.cl o (.sl e) xs⟩)]⟩
def Ylm (o:Ow) (e:Ty) (xs:List e.El):St:=⟨[(2,.seg 2 []),(0,.cl .sh (.sl e) xs)],[(2,some ⟨.reg,.cl o (.sl e) []⟩)]⟩
def Yc3 (o:Ow) (e:Ty) (xs:List e.El) (b:Bool):St:=(((Ylm o e xs).ap ⟨[(3,.cl .sh (.sl e) xs)],[],[]⟩).ap ⟨[(4,.cl .sh .bool b)],[],[]⟩).is 4 b
def Yll (o:Ow) (e:Ty) (x:(Yca e).El) (R:Type) (k:Ex→St→Option R):Option R:=cond (decide (x.1.1.length≤2147483648)) (k .rt (Yco o e x.1.1)) none
theorem Yn6 (ht:Yaf P tb) (hG:GOk P G) (hm:P.follows .mixedOrders=true)
  (h1:o1.op=.move (.tmp 0)) (e1:o1.dst=some 3) (g1:o1.guard=none)
  (h2:o2.op=.binOp .eql t (.tmp 3) (.const (.slice none 0 0)) t') (e2:o2.dst=some 4) (g2:o2.guard=none) (hu:P.underlying t=some (.slice et))
  (E0:∀ xs:List e.El,ev tb hn 8 1 G (mkL []) R0 .no ⟨[(0,.cl .sh (.sl e) xs)],[]⟩ (fun e S=>some (e,S))=some (.nm,Ylm o e xs))
  (E2:∀ xs:List e.El,ev tb hn 8 1 G (mkL []) R2 .no (Yc3 o e xs true) (fun e S=>some (e,S.keep [2] [2]))=some (.rt,Yco o e []))
  (E3:∀ xs:List e.El,ev tb hn 8 1 G (mkL []) R3 .no (Yc3 o e xs false) (fun e S=>some (e,S.keep [2] [2]))=cond (decide (xs.length≤2147483648)) (some (.rt,Yco o e xs)) none) :
  Ya2 P 8 1 (R0.seq (((Code.region i1 #[o1,o2] false).seq (.cond (.tmp 4) R2 .skip)).seq R3)) (Yfp (Yca e) (Yll o e)):=by
 intro S R k r hS he;unfold Yfp at he
 split at he
 ·rename_i x hx
  simp only[Yll] at he
  cases hl:decide (x.1.1.length≤2147483648) with
  |false=>rw[hl] at he;cases he
  |true=>
   rw[hl] at he;have hkeep:=SP.Ypr (sp:=Yca e) rfl hx
   have hret:Ya8 (Yco o e x.1.1):=by
    intro s t b v hv;simp only[Yco,lk] at hv
    split at hv<;>cases hv
   refine⟨.rt,_,he,hret,fun Z C a w Q hnt hnp I hQ=>?_⟩;have I0:=I.keep (Yca e).tk (Yca e).rk;rw[←hkeep] at I0
   have hN0:Ya8 ((Yca e).mk' x):=by rw[hkeep];exact hS.keep _ _
   obtain⟨ex,S',q1,q2,q3⟩:=Ycq (np:=1) (nt:=8) (hn:=hn) (L:=mkL []) ht hG hm R0 .no trivial ((Yca e).mk' x) _ _ _ hN0 (E0 x.1.1);cases q1;refine wp_seq (q3 Z C a w _ hnt hnp I0 (fun C a w I1=>?_))
   refine wp_seq (wp_seq (Yqx h1 e1 g1 h2 e2 g2 hu I1 q2 (by omega) (by omega) (xs:=x.1.1) rfl (fun a' b hb I2=>?_)))
   have hb4:a'.tmps.getD 4 undef=.bool b:=(I2.tm 4 (.cl .sh .bool b) rfl:Yb _ _ _ _ _ _).bool;have I3:=I2.is hb4
   have hN3:Ya8 (Yc3 o e x.1.1 b):=by
    have:(Yc3 o e x.1.1 b).tm=[(4,.kb b),(4,.cl .sh .bool b),(3,.cl .sh (.sl e) x.1.1),(2,.seg 2 []),(0,.cl .sh (.sl e) x.1.1)]:=rfl;intro s t b' v hv;rw[this] at hv;simp only[lk_consU] at hv
    repeat' (split at hv)
    all_goals cases hv
   cases b with
   |true=>
    have hx0:=hb rfl;obtain⟨ex,S',q1,q2,q3⟩:=Ycq (np:=1) (nt:=8) (hn:=hn) (L:=mkL []) ht hG hm R2 .no trivial (Yc3 o e x.1.1 true) _ _ _ hN3 (E2 x.1.1);simp only[jD,jV] at q1;obtain⟨rfl,hk⟩:=q1;refine wp_cond_true hb4 (q3 Z C a' w _ hnt hnp I3 (fun C a w I4=>?_));have I5:=I4.keep [2] [2];rw[hk] at I5;refine hQ C a w ?_
    rw[hx0];exact I5
   |false=>
    have hE:=E3 x.1.1;rw[hl] at hE;obtain⟨ex,S',q1,q2,q3⟩:=Ycq (np:=1) (nt:=8) (hn:=hn) (L:=mkL []) ht hG hm R3 .no trivial (Yc3 o e x.1.1 false) _ _ _ hN3 hE;simp only[jD,jV] at q1;obtain⟨rfl,hk⟩:=q1;refine wp_cond_false hb4 (wp_skip ?_);refine q3 Z C a' w _ hnt hnp I3 (fun C a w I4=>?_);have I5:=I4.keep [2] [2];rw[hk] at I5;exact hQ C a w I5
 ·cases he
def opAt (c:Code) (i:Nat):Oper:=match c with
 |.region _ ops _=>ops.toList.getD i {dst:=none,op:=.move (.tmp 0),type:=0,pos:="",after:=#[],guard:=none }
 |_=>{dst:=none,op:=.move (.tmp 0),type:=0,pos:="",after:=#[],guard:=none }
def Ywx (c:Code):Nat:=match c with
 |.region i _ _=>i
 |_=>0
theorem Yvq (ht:Yaf P tb) (hm:P.follows .mixedOrders=true) (hf:P.funcs[f]? = some fn) (hb:fn.body=some (Yag fn)) (hname:(fn.name == "runtime.NumGoroutine")=false) (hnt:fn.ntmps=8) (o:Ow) (e:Ty) (t t' et:TypeId)
  (hbody:Yag fn=(Yar (Yag fn) [0]).seq (((Code.region (Ywx (Yar (Yag fn) [1,0,0])) #[opAt (Yar (Yag fn) [1,0,0]) 0,opAt (Yar (Yag fn) [1,0,0]) 1] false).seq (.cond (.tmp 4) (Yar (Yag fn) [1,0,1,0]) .skip)).seq (Yar (Yag fn) [1,1])))
  (h1:(opAt (Yar (Yag fn) [1,0,0]) 0).op=.move (.tmp 0)) (e1:(opAt (Yar (Yag fn) [1,0,0]) 0).dst=some 3) (g1:(opAt (Yar (Yag fn) [1,0,0]) 0).guard=none)
  (h2:(opAt (Yar (Yag fn) [1,0,0]) 1).op=.binOp .eql t (.tmp 3) (.const (.slice none 0 0)) t') (e2:(opAt (Yar (Yag fn) [1,0,0]) 1).dst=some 4) (g2:(opAt (Yar (Yag fn) [1,0,0]) 1).guard=none) (hu:P.underlying t=some (.slice et))
  (E0:∀ xs:List e.El,ev tb hn 8 1 (mkG []) (mkL []) (Yar (Yag fn) [0]) .no ⟨[(0,.cl .sh (.sl e) xs)],[]⟩ (fun e S=>some (e,S))=some (.nm,Ylm o e xs))
  (E2:∀ xs:List e.El,ev tb hn 8 1 (mkG []) (mkL []) (Yar (Yag fn) [1,0,1,0]) .no (Yc3 o e xs true) (fun e S=>some (e,S.keep [2] [2]))=some (.rt,Yco o e []))
  (E3:∀ xs:List e.El,ev tb hn 8 1 (mkG []) (mkL []) (Yar (Yag fn) [1,1]) .no (Yc3 o e xs false) (fun e S=>some (e,S.keep [2] [2]))=cond (decide (xs.length≤2147483648)) (some (.rt,Yco o e xs)) none)
  (hfin:∀ x:PT.Els [.cl .sh (.sl e)],Yfp (Yca e) (Yll o e) (Yh (PT.mks [.cl .sh (.sl e)] x)) Out (Ytd tb hn fn [.sh])=cond (decide (x.1.length≤2147483648)) (some ⟨[.cl o (.sl e) x.1],[]⟩) none) :
  Ycm P f (Ycx [.sh] [.cl .sh (.sl e)] (fun x=>Yq8 x.1) fun y=>⟨[.cl o (.sl e) y],[]⟩):=by
 refine Yt8 (fn:=fn) (hn:=hn) (E:=Yfp (Yca e) (Yll o e)) ht hf hb hname ?_ rfl (by rw[hnt];rfl) fun x=>?_
 ·rw[hnt,hbody];exact Yn6 ht GOk.nil hm h1 e1 g1 h2 e2 g2 hu E0 E2 E3
 ·rw[hfin,Yq8,Ymp]
  rfl
end
section
open Go.Sort
variable {a:Act}
theorem Ynk {α:Type} (enc:α→Value) [Inhabited α] (w:World) (b off:Nat) (d:Array α) (b':Nat) (h:b'≠b):Same w (putRow enc w b off d) b':=by
 unfold Same putRow mapBlock;simp only[Array.getElem?_modify];rw[jM (fun e=>h e.symm)]
theorem Ysj {M:Yd} {xs:List Int} {b off:Nat} (hc:∀ i (h:i<xs.length),w.cell? ⟨b,off+i,none⟩=some (.int .i64 xs[i])) (i:Nat) (h:i<xs.length):Rep w M (.int .i64) (Ow.deep.elem) (xs[i]'h) (.mem b (off+i*(Ty.int .i64).size)) noB:=by
 show(Src.mem b (off+i*1)).cell w 0=_;simp only[Src.cell,Nat.mul_one,kF];exact hc i h
theorem Yqs {f:FuncId} (hthere:Ybb P f)
  (hC:∀ (blk off cap:Nat) (zs:List Int) (w:World),Holds (Value.int .i64) w blk off zs.toArray→blk<w.heap.size→zs.length<4611686018427387904→Calls P f #[.slice (some ⟨blk,off,none⟩) zs.length cap] w fun e w'=>
   e=.returned (.tuple #[])∧∃ n os,w'=grow (putRow (Value.int .i64) (Sort.ahead w n) blk off (zs.mergeSort fun x y=>decide (x≤y)).toArray) os)
  (hN:∀ (p:Option Addr) (cap:Nat) (w:World),Calls P f #[.slice p 0 cap] w fun e w'=>e=.returned (.tuple #[])∧w'=w) (xs:List Int) (hlen:xs.length≤2147483648) :
  Ycz P f [.mu] [.cl .deep (.sl (.int .i64)) xs] ⟨[],[.cl .deep (.sl (.int .i64)) (xs.mergeSort fun x y=>decide (x≤y))]⟩ where
 there:=hthere
 calls:=by
  intro Z C us hl hnt hP1 hP2 I;have hus:us.size=1:=hl;have hR:(Yh [.cl .deep (.sl (.int .i64)) xs]).root 0=some ⟨.reg,.cl .deep (.sl (.int .i64)) xs⟩:=rfl
  have hR':∀ r R,(Yh [.cl .deep (.sl (.int .i64)) xs]).root r=some R→r=0∧R=⟨.reg,.cl .deep (.sl (.int .i64)) xs⟩:=by
   intro r R h
   by_cases e:r=0
   ·subst e;rw[hR] at h;refine And.intro rfl ?_;cases h;rfl
   ·exfalso
    have:(Yh [.cl .deep (.sl (.int .i64)) xs]).root r=none:=by
     rw[Ya5,List.getElem?_eq_none (by simp;omega)];rfl
    rw[this] at h;cases h
  obtain⟨cs,hcs⟩:=I.str.reg 0 _ hR rfl;obtain⟨A,c,h1,h2,h3⟩:=(I.str.rep 0 _ hR:Rep Z.w _ (.sl (.int .i64)) .deep xs (C.L 0) (C.F 0))
  have hu:us[0]? = some (.slice A xs.length c):=by
   have ht:Yb _ _ _ _ (.seg 0 []) ((⟨us,[]⟩:Act).tmps.getD 0 undef):=I.tm 0 (.seg 0 []) rfl;obtain⟨u,e1,R,s,o,e,ys,q1,q2,q3,q4,A',n',c',q5⟩:=ht.1;rw[hR] at q1;cases q1;rw[Yf] at q2;cases q2;rw[h1] at q4;cases q4
   have hagg:¬ ∃ cs,us.getD 0 undef=.agg cs:=fun h=>by
    have:=ht.2.2.2 h;cases this
   have hone:=Ydi hagg;simp only[Src.cell,hone] at e1
   have:us.getD 0 undef=.slice A xs.length c:=by simpa using e1
   have h0:0<us.size:=by omega
   simp[Array.getD,h0] at this;rw[Array.getElem?_eq_getElem h0,this]
  have hus2:us=#[.slice A xs.length c]:=by
   apply Array.ext (by simp[hus])
   intro i h4 h5
   have:i=0:=by omega
   subst this;rw[Array.getElem?_eq_getElem h4] at hu
   simpa using hu
  rw[hus2]
  have S0:Str Z (fun _ _=>False) C noB (Yh [.cl .deep (.sl (.int .i64)) xs]).root Z.w:=by
   have hs:=I.str
   refine {hs with rep:=?_ }
   intro r R h;obtain⟨rfl,rfl⟩:=hR' r R h;exact hs.rep 0 _ hR
  have fin:∀ (w':World) (ρ:Yc) (ys:List Int),Str Z (fun _ _=>False) C noB ρ w'→ρ 0=some ⟨.reg,.cl .deep (.sl (.int .i64)) ys⟩→Yhf Z [.mu] ⟨[],[.cl .deep (.sl (.int .i64)) ys]⟩ (.tuple #[]) w':=by
   intro w' ρ ys hS hρ;exact⟨C,noB,ρ,noB,hS.lf (fun _ _ h=>h.elim),⟨⟨_,hρ,rfl⟩,trivial⟩,fun _ h=>h,rfl,rfl,rfl⟩
  by_cases hx:xs=[]
  ·subst hx
   refine(hN A c Z.w).mono fun e w' ⟨he,hw⟩=>?_;subst he;subst hw
   exact⟨_,rfl,fin _ _ _ S0 (by rw[List.mergeSort_nil];exact hR)⟩
  ·have hpos:0<xs.length:=List.length_pos_iff.2 hx
   obtain⟨b,off,Fs,e1,e2,e3,e4,e5⟩:=h3 (by omega)
   subst e1
   have hcell:∀ i (h:i<xs.length),Z.w.cell? ⟨b,off+i,none⟩=some (.int .i64 xs[i]):=by
    intro i h;have:=(e4 i h).1;have h0:(Src.mem b (off+i*1)).cell Z.w 0=some (.int .i64 xs[i]):=this
    simpa [Src.cell] using h0
   have hH:Holds (Value.int .i64) Z.w b off xs.toArray:=by
    intro j hj
    have hj':j<xs.length:=by simpa using hj
    refine⟨by rw[hcell j hj'];simp[hj'],?_⟩
    exact(e3 j (by simp[Ty.size];omega)).2
   have hb:=(I.str.bnd 0 _ b hR e2).1
   refine(hC b off c xs Z.w hH hb (by omega)).mono fun e w' ⟨he,n,os,hw⟩=>?_
   subst he;refine⟨_,rfl,?_⟩;generalize hys:(xs.mergeSort fun x y=>decide (x≤y))=ys at hw ⊢
   have hyl:ys.length=xs.length:=by rw[←hys];exact(List.mergeSort_perm _ _).length_eq
   let w2:=putRow (Value.int .i64) (Sort.ahead Z.w n) b off ys.toArray
   have hHa:Holds (Value.int .i64) (Sort.ahead Z.w n) b off xs.toArray:=hH
   have hc2:∀ i (h:i<ys.length),w2.cell? ⟨b,off+i,none⟩=some (.int .i64 ys[i]):=by
    intro i h
    have:=cell?_putRow (Value.int .i64) (Sort.ahead Z.w n) b off xs.toArray ys.toArray hHa (by simp[hyl]) i (by simpa using h)
    rw[this];simp[h]
   have hroom:Room w2 b off (c*(Ty.int .i64).size):=by
    intro i hi;obtain⟨r1,r2⟩:=e3 i hi
    refine⟨?_,by rw[frozen?_putRow];exact r2⟩
    by_cases h:i<ys.length
    ·rw[hc2 i h];rfl
    ·rw[cell?_putRow_other _ _ _ _ _ _ (.inr (.inr (by simp;omega)))];exact r1
   have hsz:w2.heap.size=Z.w.heap.size:=size_putRow _ _ _ _ _
   have hrep:Ya w2 (Mt Z C (Yh [.cl .deep (.sl (.int .i64)) xs]).root noB) (fun _ _=>False) (.cl .deep (.sl (.int .i64)) ys) (C.L 0) (C.F 0):=by
    refine⟨some ⟨b,off,none⟩,c,?_,by omega,fun _=>⟨b,off,fun _=>noB,rfl,e2,hroom,fun i hi=>⟨Ysj hc2 i hi,fun _ h=>h.elim,fun h=>h⟩,fun _ _ _ _ _ h=>h.elim⟩⟩
    rw[hyl];rw[hcs] at h1 ⊢;exact h1
   obtain⟨q1,_⟩:=S0.inside (r:=0) (b0:=b) (w':=w2) (R':=⟨.reg,.cl .deep (.sl (.int .i64)) ys⟩) hR rfl rfl e2 hsz (fun b' hb'=>Ynk _ (Sort.ahead Z.w n) b off _ b' hb') hrep rfl rfl rfl
    (fun q b1 off1 hn=>by
     cases q with
     |nil=>rw[Yf] at hn ⊢;exact hn
     |cons st q=>
      rw[hcs] at hn h1 ⊢
      cases st with
      |el i=>
       have h1':(Src.reg cs 0).cell Z.w 0=some (.slice (some ⟨b,off,none⟩) xs.length c):=h1;have h1'':(Src.reg cs 0).cell w2 0=some (.slice (some ⟨b,off,none⟩) xs.length c):=h1;simp only[nav,h1',h1''] at hn ⊢;rw[hyl]
       split at hn
       ·rename_i hi
        rw[jL hi]
        cases q with
        |nil=>rw[Yf] at hn ⊢;exact hn
        |cons st q=>cases st<;>simp[nav] at hn
       ·cases hn
      |_=>simp[nav] at hn)
    (fun q s hn o e zs hg=>by
     cases q with
     |nil=>
      rw[Yf] at hn;cases hn;rw[Yhq,TV.get_nil] at hg;cases hg
      refine⟨Yf _ _ _,by rw[hcs];rfl,.deep,ys,Yee (TV.get_nil _),hyl⟩
     |cons st q=>
      exfalso;rw[Yhq] at hg
      cases st with
      |el i=>
       cases q with
       |nil=>simp only[TV.get] at hg;cases hg
       |cons st q=>cases st<;>simp[TV.get] at hg
      |_=>simp[TV.get] at hg)
   obtain⟨q2,_⟩:=q1.hand (w':=grow w2 os) (G':=noB) (by simp) (fun b' hb' _=>heap_grow_old _ _ hb') (fun _ h=>h.elim) rfl rfl rfl
   rw[hw];exact fin _ _ _ q2 (Yc.Yo _ _ _)
theorem Ywp {f:FuncId} (hthere:Ybb P f)
  (hC:∀ (blk off cap:Nat) (zs:List Int) (w:World),Holds (Value.int .i64) w blk off zs.toArray→blk<w.heap.size→zs.length<4611686018427387904→Calls P f #[.slice (some ⟨blk,off,none⟩) zs.length cap] w fun e w'=>
   e=.returned (.tuple #[])∧∃ n os,w'=grow (putRow (Value.int .i64) (Sort.ahead w n) blk off (zs.mergeSort fun x y=>decide (x≤y)).toArray) os)
  (hN:∀ (p:Option Addr) (cap:Nat) (w:World),Calls P f #[.slice p 0 cap] w fun e w'=>e=.returned (.tuple #[])∧w'=w) :
  Ycm P f (Ycx [.mu] [.cl .deep (.sl (.int .i64))] (fun x=>Yue x.1) fun y=>⟨[],[.cl .deep (.sl (.int .i64)) y]⟩):=by
 intro cs R k r he;simp only[Ycx] at he
 split at he
 ·rename_i x hx
  have e:=PT.Yc9 hx;subst e;simp only[Yue] at he
  cases hl:decide (List.length x.1≤2147483648) with
  |false=>rw[hl] at he;cases he
  |true=>rw[hl] at he;exact⟨_,he,Yqs hthere hC hN x.1 (by simpa using hl)⟩
 ·cases he
end
end Mf
namespace Go.Proofs
open Go.RowKit
abbrev Bk.Hd:=Int×Option Addr×Nat×Nat
def Bk.hv (h:Bk.Hd):Value:=.slice h.2.1 h.2.2.1 h.2.2.2
def Bk.enc (x:Int×Bk.Hd):Array Value:=#[.int .i64 x.1,.agg #[.int .i64 x.2.1,Bk.hv x.2]]
def Bk.at_ (len:Nat) (hd:Nat→Bk.Hd) (j:Nat):Int×Bk.Hd:=((len:Int)-1-j,hd (len-1-j))
def Bk.upto (len:Nat) (hd:Nat→Bk.Hd) (k:Nat):List (Int×Bk.Hd):=(List.range k).map (Bk.at_ len hd)
def Bk.Yul (n₀:Nat) (W:World) (A:Option Addr) (len:Nat) (hd:Nat→Bk.Hd):Prop:=
 0<len→∃ b off,A=some ⟨b,off,none⟩∧b<n₀∧∀ j,j<len→W.cell? ⟨b,off+j*2,none⟩=some (.int .i64 (hd j).1)∧W.cell? ⟨b,off+j*2+1,none⟩=some (Bk.hv (hd j))
theorem Bk.Yul.below {n₀:Nat} {V W:World} (h:Below n₀ V W) {A:Option Addr} {len:Nat} {hd:Nat→Bk.Hd} (hl:Bk.Yul n₀ V A len hd):Bk.Yul n₀ W A len hd:=fun h0=>by
 obtain⟨b,off,h1,h2,h3⟩:=hl h0;exact⟨b,off,h1,h2,fun j hj=>⟨(h.cell (p:=⟨b,_,none⟩) h2).trans (h3 j hj).1,(h.cell (p:=⟨b,_,none⟩) h2).trans (h3 j hj).2⟩⟩
def Bk.last (hd:Nat→Bk.Hd) (at_:Int):Nat→Option Bk.Hd
 |0=>none
 |k+1=>if (hd k).1=at_ then some (hd k) else Bk.last hd at_ k
end Go.Proofs
namespace Mf
open Go Go.RowKit Go.Proofs
variable {P:Program} {Z:W0}
abbrev Ygq:Ty:=.pair (.int .i64) (.pair (.sl (.int .i64)) .unit)
theorem Yqu {Lf:TV→Value→Prop} {C:Cx} {w':World} (h:Below Z.w.heap.size Z.w w') (hx:∀ b,Z.X b→b<Z.w.heap.size) (hk:∀ b i,Z.K b i→b<Z.w.heap.size):Str Z Lf C noB (fun _=>none) w' where
 rep:=fun _ _ h=>by cases h
 reg:=fun _ _ h=>by cases h
 mem:=fun _ _ h=>by cases h
 bnd:=fun _ _ _ h=>by cases h
 gbnd:=fun _ h=>h.elim
 dis:=fun _ _ _ _ _ h=>by cases h
 gdis:=fun _ _ h=>by cases h
 plc:=fun _ _ h=>by cases h
 sz:=h.size
 old:=fun b hb _=>h.block b hb
 kp:=fun b i hh=>h.cell (p:=⟨b,i,none⟩) (hk b i hh)
 kf:=fun b i j hh=>h.frozen (p:=⟨b,j,none⟩) (hk b i hh)
 xb:=hx
 kb:=hk
 os:=h.os
 tape:=h.tape
 output:=h.output
end Mf
namespace Mf
open Go
section
open Go.RowKit
theorem Rep.Yip {w:World} {M M':Yd}:∀ {t:Ty} {x:t.El} {s:Src} {F:Yd},Rep w M t .deep x s F→Rep w M' t .deep x s F:=by
 intro t
 induction t with
 |int k=>intro x s F h;exact h
 |bool=>intro x s F h;exact h
 |str=>intro x s F h;exact h
 |unit=>intro x s F h;trivial
 |pair a b iha ihb=>intro x s F h;obtain⟨F1,F2,h1,h2,h3⟩:=h;exact⟨F1,F2,iha h1,ihb h2,h3⟩
 |sl e ih=>
  intro x s F h;obtain⟨A,c,h1,h2,h3⟩:=h;refine⟨A,c,h1,h2,fun hc=>?_⟩;obtain⟨b,off,Fs,e1,e2,e3,e4,e5⟩:=h3 hc
  exact⟨b,off,Fs,e1,e2,e3,fun i hi=>⟨ih (e4 i hi).1,(e4 i hi).2⟩,e5⟩
 |arr n e ih=>
  intro x s F h;obtain⟨h1,Fs,h2,h3⟩:=h;exact⟨h1,Fs,fun i hi=>⟨ih (h2 i hi).1,(h2 i hi).2⟩,h3⟩
def Yq0 (w w':World) (F:Yd):Prop:=∀ b,F b→w.heap.size≤b∧b<w'.heap.size
def Yih (e:Ty) (o:Ow) (xs:List e.El) (w:World) (en:Ending) (w':World):Prop:=
 ∃ A c,en=.returned (.slice A xs.length c)∧Below w.heap.size w w'∧∃ F,Rep w' F (.sl e) o xs (.reg [.slice A xs.length c] 0) F∧Yq0 w w' F
end
section
open Go.RowKit
abbrev Ye9:=List (Int×List Int×Unit)
structure CpI (w0 W:World) (l:Ye9) (b off cap k:Nat):Prop where
 bel:Below w0.heap.size w0 W
 b1:w0.heap.size≤b
 b2:b<W.heap.size
 room:Room W b off (cap*2)
 ats:∀ j (h:j<l.length),W.cell? ⟨b,off+j*2,none⟩=some (.int .i64 l[j].1)
 old:∀ j (h:j<l.length),k≤j→Rep W (fun x=>x=b) (.sl (.int .i64)) .sh l[j].2.1 (.mem b (off+j*2+1)) noB
 new:∃ s:Nat→Nat,b<s 0∧(∀ j,j<k→s j≤s (j+1))∧s k≤W.heap.size∧∀ j (h:j<l.length),j<k→Rep W noB (.sl (.int .i64)) .deep l[j].2.1 (.mem b (off+j*2+1)) (fun x=>s j≤x∧x<s (j+1))
theorem CpI.start {w0 w1:World} {l:Ye9} {A:Option Addr} {c:Nat} {F:Yd} (hb:Below w0.heap.size w0 w1) (h:Rep w1 F (.sl Ygq) .top l (.reg [.slice A l.length c] 0) F) (hf:Yq0 w0 w1 F) (hc:c≠0) :
  ∃ b off,A=some ⟨b,off,none⟩∧l.length≤c∧CpI w0 w1 l b off c 0:=by
 obtain⟨A',c',k1,k2,k3⟩:=h;have k1':some (Value.slice A l.length c)=some (.slice A' l.length c'):=k1;simp only[jD,Value.slice.injEq] at k1';obtain⟨rfl,-,rfl⟩:=k1';obtain⟨b,off,Fs,rfl,hF,hroom,he,-⟩:=k3 hc;refine⟨b,off,rfl,k2,hb,(hf b hF).1,(hf b hF).2,hroom,fun j hj=>?_,fun j hj _=>?_,fun _=>w1.heap.size,(hf b hF).2,fun _ _=>jB _,jB _,fun j hj h=>absurd h (Nat.not_lt_zero _)⟩
 ·obtain⟨G1,G2,r1,-,-⟩:=(he j hj).1
  have hs:Ygq.size=2:=rfl;simp only[Rep,Src.cell,hs] at r1;simpa using r1
 ·obtain⟨G1,G2,-,⟨G3,G4,r2,-⟩,-,-,-⟩:=(he j hj).1
  obtain⟨A',c',t1,t2,t3⟩:=r2;have hs:Ygq.size=2:=rfl;have hs1:(Ty.int .i64).size=1:=rfl;refine⟨A',c',?_,t2,fun hne=>?_⟩
  ·simp only[Src.cell,Src.sh,hs,hs1] at t1;simpa [Src.cell] using t1
  ·obtain⟨b',off',q1,q2,q3,q4⟩:=t3 hne
   exact⟨b',off',q1,fun e=>q2 (e▸hF),q3,fun i hi=>Ya.mono (Lf:=fun _ _=>False) (tv:=.cl .sh (.int .i64) _) (q4 i hi) (fun x e=>by subst e;exact hF)⟩
theorem Yjp {w:World} {p:Addr} {v:Value} {b off n:Nat} (h:Room w b off n):Room (w.setCell p v) b off n:=fun i hi=>by
 obtain⟨h1,h2⟩:=h i hi
 refine⟨?_,by rw[World.frozen?_setCell];exact h2⟩
 obtain⟨u,hu⟩:=Option.isSome_iff_exists.1 h1;obtain⟨u',hu'⟩:=cell?_setCell_some (p:=p) (x:=v) hu;rw[hu'];rfl
theorem CpI.step {w0 W W1 W2:World} {l:Ye9} {b off cap k:Nat} (I:CpI w0 W l b off cap k) (hk:k<l.length) (hcap:l.length≤cap) (h1:Below W.heap.size W W1) (h2:Below W1.heap.size W1 W2) {A:Option Addr} {c:Nat} {F:Yd}
  (hr:Rep W2 F (.sl (.int .i64)) .deep l[k].2.1 (.reg [.slice A l[k].2.1.length c] 0) F) (hf:Yq0 W1 W2 F) :
  CpI w0 (W2.setCell ⟨b,off+k*2+1,none⟩ (.slice A l[k].2.1.length c)) l b off cap (k+1):=by
 have hB:Below W.heap.size W W2:=h1.trans (h2.mono h1.size)
 have hsz:(W2.setCell ⟨b,off+k*2+1,none⟩ (.slice A l[k].2.1.length c)).heap.size=W2.heap.size:=by simp[World.setCell]
 have hoth:∀ x,x≠b→x<W.heap.size→Same W (W2.setCell ⟨b,off+k*2+1,none⟩ (.slice A l[k].2.1.length c)) x:=fun x hx hlt=>(Below.heap_setCell _ _ _ _ hx).trans (hB.block x hlt)
 have hcell:∀ i,i≠off+k*2+1→(W2.setCell ⟨b,off+k*2+1,none⟩ (.slice A l[k].2.1.length c)).cell? ⟨b,i,none⟩=W.cell? ⟨b,i,none⟩:=fun i hi=>by
  rw[World.cell?_setCell_other (h:=fun e=>hi (by cases e;rfl))]
  exact hB.cell (p:=⟨b,i,none⟩) I.b2
 obtain⟨s,s0,s1,s2,s3⟩:=I.new
 refine⟨I.bel.trans ((hB.mono I.bel.size).setCell (p:=⟨b,_,none⟩) I.b1 _),I.b1,by rw[hsz];have:=hB.size;have:=I.b2;omega,Yjp (fun i hi=>?_),fun j hj=>?_,fun j hj hkj=>?_,?_⟩
 ·rw[hB.cell (p:=⟨b,_,none⟩) I.b2,hB.frozen (p:=⟨b,_,none⟩) I.b2];exact I.room i hi
 ·rw[hcell _ (by omega)];exact I.ats j hj
 ·refine(I.old j hj (by omega)).go ⟨by rw[hsz];exact hB.size,fun _ h=>h.elim,fun x hx hlt=>⟨hoth x hx hlt,hx⟩⟩ (fun i hi=>?_)
  have:i=0:=by simp[Ty.size] at hi;omega
  subst this
  exact hcell _ (by omega)
 ·have sk:∀ j,j≤k→s j≤s k:=fun j hj=>by
   have:∀ d,j+d≤k→s j≤s (j+d):=fun d=>by
    induction d with
    |zero=>intro _;exact jB _
    |succ d ih=>intro h;exact jU (ih (by omega)) (s1 (j+d) (by omega))
   have:=this (k-j) (by omega)
   rwa [show j+(k-j)=k by omega] at this
  refine⟨fun j=>if j≤k then s j else W2.heap.size,by simpa using s0,fun j hj=>?_,by show(if k+1≤k then _ else _)≤_;rw[jM (by omega),hsz];exact jB _,fun j hj hjk=>?_⟩
  ·show(if j≤k then s j else W2.heap.size)≤(if j+1≤k then s (j+1) else W2.heap.size)
   rw[jL (by omega)]
   by_cases e:j+1≤k
   ·rw[jL e];exact s1 j (by omega)
   ·rw[jM e];have:=sk j (by omega);have:=hB.size;omega
  ·by_cases e:j=k
   ·subst e
    simp only[jB,if_true,Nat.not_succ_le_self,if_false];obtain⟨A',c',k1,k2,k3⟩:=hr;have k1':some (Value.slice A l[j].2.1.length c)=some (.slice A' l[j].2.1.length c'):=k1;simp only[jD,Value.slice.injEq] at k1';obtain⟨rfl,-,rfl⟩:=k1';refine⟨A,c,?_,k2,fun hc=>?_⟩
    ·show World.cell? _ _=_
     simp only[kF];refine World.cell?_setCell_same' _ _ _ ?_;rw[hB.cell (p:=⟨b,_,none⟩) I.b2]
     exact(I.room (j*2+1) (by omega)).1
    ·obtain⟨b',off',Fs,q1,q2,q3,q4,q5⟩:=k3 hc
     have hb':=hf b' q2;have hlt:=I.b2;have hW1:=h1.size
     have hne:b'≠b:=by omega
     refine⟨b',off',fun _=>noB,q1,⟨by omega,hb'.2⟩,Yjp q3,fun i hi=>⟨?_,fun _ h=>h.elim,fun h=>h⟩,fun _ _ _ _ _ h=>h.elim⟩
     have hi':=(q4 i hi).1;show World.cell? _ _=_;rw[World.cell?_setCell_other (h:=fun e=>hne (congrArg Addr.block e).symm)];exact hi'
   ·have hj2:j<k:=by omega
    simp only[show j≤k by omega,show j+1≤k by omega,if_true]
    have hsj:=sk (j+1) (by omega)
    have hb0:b<s j:=jX s0 (by
     have:∀ d,d≤j→s 0≤s d:=fun d=>by
      induction d with
      |zero=>intro _;exact jB _
      |succ d ih=>intro h;exact jU (ih (by omega)) (s1 d (by omega))
     exact this j (jB _))
    refine(((s3 j hj hj2).Yip (M':=fun x=>x=b)).go (M':=fun x=>x=b) ⟨by rw[hsz];exact hB.size,fun x hx=>hoth x (by have:=hx.1;omega) (by have:=hx.2;omega),fun x hx hlt=>⟨hoth x hx hlt,hx⟩⟩ (fun i hi=>?_)).Yip
    ·have:i=0:=by simp[Ty.size] at hi;omega
     subst this
     exact hcell _ (by omega)
theorem CpI.done {w0 W:World} {l:Ye9} {b off cap:Nat} (I:CpI w0 W l b off cap l.length) (hcap:l.length≤cap):Yih Ygq .deep l w0 (.returned (.slice (some ⟨b,off,none⟩) l.length cap)) W:=by
 obtain⟨s,s0,s1,s2,s3⟩:=I.new
 have mono:∀ j d,j+d≤l.length→s j≤s (j+d):=fun j d=>by
  induction d with
  |zero=>intro _;exact jB _
  |succ d ih=>intro h;exact jU (ih (by omega)) (s1 (j+d) (by omega))
 refine⟨_,_,rfl,I.bel,fun x=>w0.heap.size≤x∧x<W.heap.size,⟨_,_,rfl,hcap,fun hc=>⟨b,off,fun j=>fun x=>s j≤x∧x<s (j+1)∧j<l.length,rfl,⟨I.b1,I.b2⟩,I.room,fun j hj=>⟨?_,?_,?_⟩,fun i j hij hj x hx hx'=>?_⟩⟩,fun x h=>h⟩
 ·have hs:Ygq.size=2:=rfl
  refine⟨noB,fun x=>s j≤x∧x<s (j+1)∧j<l.length,?_,⟨fun x=>s j≤x∧x<s (j+1)∧j<l.length,noB,?_,trivial,fun _ h=>h,fun _ h=>h.elim,fun _ _ h=>h⟩,fun _ h=>h.elim,fun _ h=>h,fun _ h=>h.elim⟩
  ·show World.cell? _ _=_
   simp only[hs,kF];exact I.ats j hj
  ·have h:=((s3 j hj hj).sub (G:=fun x=>s j≤x∧x<s (j+1)∧j<l.length) (fun x h=>⟨h.1,h.2,hj⟩)).Yip (M':=fun x=>w0.heap.size≤x∧x<W.heap.size)
   have e1:Ow.deep.elem=Ow.deep:=rfl;rw[e1]
   simpa [Src.sh,hs,Ty.size] using h
 ·rintro x ⟨h1,h2,h3⟩
  have:=mono 0 j (by omega)
  have:=mono (j+1) (l.length-(j+1)) (by omega)
  rw[show j+1+(l.length-(j+1))=l.length by omega] at this
  have:=I.b1;rw[jJ] at *
  exact⟨by omega,by omega⟩
 ·rintro⟨h1,-,-⟩
  have:=mono 0 j (by omega)
  rw[jJ] at this;omega
 ·have:=mono (i+1) (j-(i+1)) (by omega)
  rw[show i+1+(j-(i+1))=j by omega] at this
  have:=hx.2.1;have:=hx'.1;omega
theorem CpI.place {w0 W:World} {l:Ye9} {b off cap k:Nat} (I:CpI w0 W l b off cap k) (hk:k<l.length) (hcap:l.length≤cap) {W2:World} (h:Below W.heap.size W W2) :
  W2.cell? ⟨b,off+k*2+1,none⟩=W.cell? ⟨b,off+k*2+1,none⟩∧W2.frozen? ⟨b,off+k*2+1,none⟩=false:=
 ⟨h.cell (p:=⟨b,_,none⟩) I.b2,(h.frozen (p:=⟨b,_,none⟩) I.b2).trans (I.room (k*2+1) (by omega)).2⟩
theorem Yih.none {l:Ye9} {w W:World} {A:Option Addr} (hb:Below w.heap.size w W) {o:Ow} {G:Yd} (h:Rep W G (.sl Ygq) o l (.reg [.slice A l.length 0] 0) G):l.length=0∧Yih Ygq .deep l w (.returned (.slice A l.length 0)) W:=by
 obtain⟨A',c',k1,k2,k3⟩:=h;have k1':some (Value.slice A l.length 0)=some (.slice A' l.length c'):=k1;simp only[jD,Value.slice.injEq] at k1';obtain⟨rfl,-,rfl⟩:=k1';exact⟨Nat.le_zero.1 k2,A,0,rfl,hb,noB,⟨A,0,rfl,k2,fun h=>absurd rfl h⟩,fun _ h=>h.elim⟩
end
section
open Go.RowKit
end
section
open Go.RowKit
abbrev Hdr:=Option Addr×Nat×Nat
def hvl (h:Hdr):Value:=.slice h.1 h.2.1 h.2.2
structure Yum (w:World) (l:Ye9) (b off:Nat) (hs:Nat→Hdr) (Fs:Nat→Yd) (F:Yd):Prop where
 at1:∀ j (h:j<l.length),w.cell? ⟨b,off+j*2,none⟩=some (.int .i64 l[j].1)
 hd:∀ j (h:j<l.length),w.cell? ⟨b,off+j*2+1,none⟩=some (hvl (hs j))
 rep:∀ j (h:j<l.length),Rep w noB (.sl (.int .i64)) .deep l[j].2.1 (.reg [hvl (hs j)] 0) (Fs j)∧Ye (Fs j) F
 dis:∀ i j,i<j→j<l.length→Dis (Fs i) (Fs j)
 blk:F b
theorem Rep.src {w:World} {l:Ye9} {A:Option Addr} {c:Nat} {F M:Yd} (h:Rep w M (.sl Ygq) .deep l (.reg [.slice A l.length c] 0) F) (hl:0<l.length) :
  ∃ b off hs Fs,A=some ⟨b,off,none⟩∧Yum w l b off hs Fs F:=by
 obtain⟨A',c',k1,k2,k3⟩:=h;have k1':some (Value.slice A l.length c)=some (.slice A' l.length c'):=k1;simp only[jD,Value.slice.injEq] at k1';obtain⟨rfl,-,rfl⟩:=k1'
 obtain⟨b,off,Fs,rfl,hF,hroom,he,hd⟩:=k3 (by omega)
 have hput:∀ j,∃ h:Hdr,∀ (hj:j<l.length),w.cell? ⟨b,off+j*2,none⟩=some (.int .i64 l[j].1)∧w.cell? ⟨b,off+j*2+1,none⟩=some (hvl h)∧Rep w noB (.sl (.int .i64)) .deep l[j].2.1 (.reg [hvl h] 0) (Fs j):=by
  intro j
  by_cases hj:j<l.length
  ·obtain⟨G1,G2,r1,⟨G3,G4,r2,-,s3,-,-⟩,s1,s2,-⟩:=(he j hj).1
   have hs:Ygq.size=2:=rfl;have hs1:(Ty.int .i64).size=1:=rfl;have r2:=(Rep.Yip (M':=noB) r2).sub (G:=Fs j) (fun x hx=>s2 x (s3 x hx));obtain⟨A',c',t1,t2,t3⟩:=r2;refine⟨(A',l[j].2.1.length,c'),fun _=>⟨?_,?_,A',c',rfl,t2,t3⟩⟩
   ·simp only[Rep,Src.cell,hs] at r1;simpa using r1
   ·simp only[Src.cell,Src.sh,hs,hs1] at t1;simpa [hvl] using t1
  ·exact⟨(none,0,0),fun h=>absurd h hj⟩
 obtain⟨hs,hhs⟩:=Classical.axiomOfChoice hput;exact⟨b,off,hs,Fs,rfl,⟨fun j hj=>(hhs j hj).1,fun j hj=>(hhs j hj).2.1,fun j hj=>⟨(hhs j hj).2.2,(he j hj).2.1⟩,hd,hF⟩⟩
def cellsOf (l:Ye9) (hs:Nat→Hdr):Nat→List Value
 |0=>[]
 |k+1=>cellsOf l hs k++[.bool false,.int .i64 (l.getD k (0,[],())).1,hvl (hs k)]
end
section
open Go.RowKit
structure OnlyC (w W:World) (S:Nat→Nat→Prop):Prop where
 os:W.os=w.os
 tape:W.tape=w.tape
 output:W.output=w.output
 size:w.heap.size≤W.heap.size
 blk:∀ b,b<w.heap.size→(∀ i,¬ S b i)→W.heap[b]? = w.heap[b]?
 cell:∀ b i,b<w.heap.size→¬ S b i→W.cell? ⟨b,i,none⟩=w.cell? ⟨b,i,none⟩
 frz:∀ b i,b<w.heap.size→W.frozen? ⟨b,i,none⟩=w.frozen? ⟨b,i,none⟩
theorem OnlyC.refl (w:World) (S:Nat→Nat→Prop):OnlyC w w S:=⟨rfl,rfl,rfl,jB _,fun _ _ _=>rfl,fun _ _ _ _=>rfl,fun _ _ _=>rfl⟩
theorem OnlyC.alloc {w W:World} {S:Nat→Nat→Prop} (h:OnlyC w W S) (o:Obj):OnlyC w (W.alloc o) S:=by
 have hb:Below W.heap.size W (W.alloc o):=(Below.refl _ W).alloc (jB _) o;have hs:=h.size
 exact⟨hb.os.trans h.os,hb.tape.trans h.tape,hb.output.trans h.output,jU h.size hb.size,fun b hb' hS=>(hb.block b (by omega)).trans (h.blk b hb' hS),
  fun b i hb' hS=>(hb.cell (p:=⟨b,i,none⟩) (by show b<_;omega)).trans (h.cell b i hb' hS),fun b i hb'=>(hb.frozen (p:=⟨b,i,none⟩) (by show b<_;omega)).trans (h.frz b i hb')⟩
theorem OnlyC.drew {w W:World} {S:Nat→Nat→Prop} (h:OnlyC w W S):OnlyC w W.drew S:=⟨h.os,h.tape,h.output,h.size,h.blk,h.cell,h.frz⟩
theorem OnlyC.set {w W:World} {S:Nat→Nat→Prop} (h:OnlyC w W S) {b i:Nat} (v:Value) (hS:S b i):OnlyC w (W.setCell ⟨b,i,none⟩ v) S:=by
 refine⟨h.os,h.tape,h.output,by simpa [World.setCell] using h.size,fun x hx hn=>?_,fun x j hx hn=>?_,fun x j hx=>?_⟩
 ·rw[Below.heap_setCell _ _ _ _ (fun e=>hn i (by subst e;exact hS))];exact h.blk x hx hn
 ·rw[World.cell?_setCell_other (h:=fun e=>hn (by cases e;exact hS))];exact h.cell x j hx hn
 ·rw[World.frozen?_setCell];exact h.frz x j hx
theorem OnlyC.mono {w W:World} {S S':Nat→Nat→Prop} (h:OnlyC w W S) (hs:∀ b i,S b i→S' b i):OnlyC w W S':=
 ⟨h.os,h.tape,h.output,h.size,fun b hb hn=>h.blk b hb (fun i x=>hn i (hs _ _ x)),fun b i hb hn=>h.cell b i hb (fun x=>hn (hs _ _ x)),h.frz⟩
def Yvk (bB oB nB:Nat) (b i:Nat):Prop:=b=bB∧oB≤i∧i<oB+nB
structure FI (w W:World) (bB oB nB:Nat) (src:Nat→Hdr):Prop where
 only:OnlyC w W (Yvk bB oB nB)
 at1:∀ j,j<nB→W.cell? ⟨bB,oB+j,none⟩=some (hvl (src j))
theorem FI.alloc {w W:World} {bB oB nB:Nat} {src:Nat→Hdr} (h:FI w W bB oB nB src) (hb:0<nB→bB<w.heap.size) (o:Obj):FI w (W.alloc o) bB oB nB src:=
 ⟨h.only.alloc o,fun j hj=>(((Below.refl _ W).alloc (jB _) o).cell (p:=⟨bB,_,none⟩) (jX (hb (by omega)) h.only.size)).trans (h.at1 j hj)⟩
theorem FI.drew {w W:World} {bB oB nB:Nat} {src:Nat→Hdr} (h:FI w W bB oB nB src):FI w W.drew bB oB nB src:=⟨h.only.drew,h.at1⟩
theorem FI.set {w W:World} {bB oB nB:Nat} {src:Nat→Hdr} (h:FI w W bB oB nB src) {a:Nat} (ha:a<nB) (x:Hdr):FI w (W.setCell ⟨bB,oB+a,none⟩ (hvl x)) bB oB nB (fun j=>if j=a then x else src j):=by
 refine⟨h.only.set _ ⟨rfl,by omega,by omega⟩,fun j hj=>?_⟩
 by_cases e:j=a
 ·subst e
  rw[jL rfl]
  exact World.cell?_setCell_same' _ _ _ (by rw[h.at1 j hj];rfl)
 ·rw[jM e,World.cell?_setCell_other (h:=fun e'=>e (by have:=congrArg Addr.off e';simp at this;omega))]
  exact h.at1 j hj
end
section
open Go.RowKit
structure Ywe (w:World) (bs:List (List Int)) (ps:Ye9) (bd od:Nat) (F:Yd) (A C:Option Addr) (bB oB bC oC cB cC:Nat) (hb hc:Nat→Hdr) (FB FC:Nat→Yd):Prop where
 a1:w.cell? ⟨bd,od,none⟩=some (.slice A bs.length cB)
 a2:w.cell? ⟨bd,od+1,none⟩=some (.slice C ps.length cC)
 a3:bs.length≤cB
 A0:cB≠0→A=some ⟨bB,oB,none⟩∧F bB∧Room w bB oB cB
 C0:0<ps.length→C=some ⟨bC,oC,none⟩∧F bC∧(cB≠0→bC≠bB)
 eB:∀ j (h:j<bs.length),w.cell? ⟨bB,oB+j,none⟩=some (hvl (hb j))∧Rep w noB (.sl (.int .i64)) .deep bs[j] (.reg [hvl (hb j)] 0) (FB j)∧Ye (FB j) F∧¬ FB j bB
 eC:∀ j (h:j<ps.length),w.cell? ⟨bC,oC+j*2,none⟩=some (.int .i64 ps[j].1)∧w.cell? ⟨bC,oC+j*2+1,none⟩=some (hvl (hc j))∧Rep w noB (.sl (.int .i64)) .deep ps[j].2.1 (.reg [hvl (hc j)] 0) (FC j)∧Ye (FC j) F∧(cB≠0→¬ FC j bB)
 dB:∀ i j,i<j→j<bs.length→Dis (FB i) (FB j)
 dC:∀ i j,i<j→j<ps.length→Dis (FC i) (FC j)
 dX:∀ i j,i<bs.length→j<ps.length→Dis (FB i) (FC j)
end
section
open Go.RowKit
end
section
open Go.RowKit
end
section
open Go.RowKit
def Yft (w:World) (e:Ty) (xs:List e.El) (cs:List Value) (F:Yd):Prop:=
 cs.length=xs.length*e.size∧∃ Fs:Nat→Yd,(∀ i (h:i<xs.length),Rep w noB e .deep xs[i] (.reg cs (i*e.size)) (Fs i)∧Ye (Fs i) F)∧∀ i j,i<j→j<xs.length→Dis (Fs i) (Fs j)
theorem Yft.nil {w:World} {e:Ty} {F:Yd}:Yft w e [] [] F:=⟨by simp,fun _=>noB,fun i h=>absurd h (Nat.not_lt_zero _),fun i j _ h=>absurd h (Nat.not_lt_zero _)⟩
theorem mul_lt {i n k r:Nat} (hi:i<n) (hr:r<k):i*k+r<n*k:=by
 have h:(i+1)*k≤n*k:=jR _ hi;rw[jY] at h;omega
theorem Yft.sub {w:World} {e:Ty} {xs:List e.El} {cs:List Value} {F G:Yd} (h:Yft w e xs cs F) (hs:Ye F G):Yft w e xs cs G:=by
 obtain⟨h1,Fs,h2,h3⟩:=h;exact⟨h1,Fs,fun i hi=>⟨(h2 i hi).1,fun b hb=>hs b ((h2 i hi).2 b hb)⟩,h3⟩
theorem Yft.row {w0 w W:World} {e:Ty} {xs:List e.El} {cs:List Value} {F:Yd} {E:TypeId} {v:Value} (h:Yft w e xs cs F) (hF:∀ b,F b→b<w.heap.size) (hb:Below w.heap.size w W) (h0:w0.heap.size≤w.heap.size)
  (ho:W.ownsRow w.heap.size E e.size v xs.length cs):∃ A c,v=.slice A xs.length c∧Rep W noB (.sl e) .deep xs (.reg [.slice A xs.length c] 0) (fun b=>F b∨(w.heap.size≤b∧b<W.heap.size)):=by
 obtain⟨h1,Fs,h2,h3⟩:=h;obtain⟨-,hv⟩:=ho;rcases hv with ⟨rfl,hn⟩ | ⟨g,cap,cur,rfl,hg,hh,hcap,-,hsz,htake⟩
 ·have hl:xs=[]:=kL hn
  subst hl;exact⟨none,0,rfl,none,0,rfl,jB _,fun h=>absurd rfl h⟩
 ·have hgl:g<W.heap.size:=(Array.getElem?_eq_some_iff.1 hh).1
  have hcell:∀ i,W.cell? ⟨g,i,none⟩=cur[i]?:=fun i=>by unfold World.cell?;rw[hh];rfl
  have hbs:=hb.size
  have hget:∀ i u,cs[i]? = some u→W.cell? ⟨g,i,none⟩=some u:=fun i u hu=>by
   rw[hcell];rw[←htake,List.getElem?_take] at hu
   split at hu
   ·rw[←Array.getElem?_toList];exact hu
   ·cases hu
  refine⟨_,_,rfl,some ⟨g,0,none⟩,cap,rfl,hcap,fun hc=>⟨g,0,fun j x=>Fs j x∧j<xs.length,rfl,.inr ⟨hg,hgl⟩,fun i hi=>⟨?_,?_⟩,fun i hi=>⟨?_,fun x hx=>.inl ((h2 i hi).2 x hx.1),fun hx=>?_⟩,fun i j hij hj x hx hx'=>h3 i j hij hj x hx.1 hx'.1⟩⟩
  ·rw[hcell,jJ,Array.getElem?_eq_getElem (by omega)];rfl
  ·unfold World.frozen?;rw[hh];simp
  ·have hd:Ow.deep.elem=Ow.deep:=rfl
   rw[hd];have q:=(((h2 i hi).1.go (w':=W) (M':=noB) ⟨hbs,fun x hx=>hb.block x (hF x ((h2 i hi).2 x hx)),fun x hx hlt=>⟨hb.block x hlt,fun h=>h⟩⟩ (fun r hr=>rfl)).mv (s':=.mem g (0+i*e.size)) fun r hr=>?_).sub (G:=fun x=>Fs i x∧i<xs.length) (fun x hx=>⟨hx,hi⟩)
   ·exact q
   ·simp only[Src.cell,jJ]
    have hlt:=mul_lt hi hr;rw[←h1] at hlt;rw[kV hlt];exact hget _ _ (kV hlt)
  ·have:=hF g ((h2 i hi).2 g hx.1);omega
theorem Yft.one {w:World} {e:Ty} {xs:List e.El} {cs:List Value} {F:Yd} (h:Yft w e xs cs F):∀ u∈cs,u.oneCell'=true:=by
 obtain⟨h1,Fs,h2,-⟩:=h;intro u hu;obtain⟨i,hi,rfl⟩:=List.getElem_of_mem hu;rw[h1] at hi
 have hpos:0<e.size:=by
  rcases kN e.size with h0 | h0
  ·rw[h0] at hi;omega
  ·exact h0
 have hq:i / e.size<xs.length:=Nat.div_lt_of_lt_mul (by rw[Nat.mul_comm];exact hi)
 have hr:i % e.size<e.size:=Nat.mod_lt _ hpos;obtain⟨v,hv,h1'⟩:=(h2 _ hq).1.cells _ hr;simp only[Src.cell] at hv
 have he:i / e.size*e.size+i % e.size=i:=by rw[Nat.mul_comm];exact Nat.div_add_mod i e.size
 rw[he] at hv
 rw[kV (by rw[h1];exact hi)] at hv
 cases hv;exact h1'
end
section
open Go.RowKit
end
section
open Go.RowKit
theorem Yob {f:FuncId} (hthere:Ybb P f) {a b:Ty} {x:a.El} {y:b.El} {n:Int}
  (h:∀ (u v:Value) (w:World) (M:Yd) (L:Nat→Src) (ρ:Yc),Yb w M L ρ (.cl .sh a x) u→Yb w M L ρ (.cl .sh b y) v→Calls P f #[u,v] w fun e w'=>e=.returned (.int .i64 n)∧w'=w)
  (ha:lk 0 (Yh [.cl .sh a x,.cl .sh b y]).tm=some (.cl .sh a x)) (hb:lk 1 (Yh [.cl .sh a x,.cl .sh b y]).tm=some (.cl .sh b y)):Ycz P f [.sh,.sh] [.cl .sh a x,.cl .sh b y] ⟨[.cl .sh (.int .i64) n],[]⟩ where
 there:=hthere
 calls:=by
  intro Z C us hl hnt hP1 hP2 I;have hus:us.size=2:=hl;have h0:Yb _ _ _ _ (.cl .sh a x) ((⟨us,[]⟩:Act).tmps.getD 0 undef):=I.tm 0 (.cl .sh a x) ha;have h1:Yb _ _ _ _ (.cl .sh b y) ((⟨us,[]⟩:Act).tmps.getD 1 undef):=I.tm 1 (.cl .sh b y) hb
  have hus2:us=#[us.getD 0 undef,us.getD 1 undef]:=by
   apply Array.ext (by simp[hus])
   intro i h4 h5
   have:i=0∨i=1:=by omega
   rcases this with rfl | rfl<;>simp[Array.getD,hus]
  rw[hus2];refine(h _ _ Z.w _ _ _ h0 h1).mono fun e w' ⟨he,hw⟩=>?_;subst he;subst hw;refine⟨_,rfl,C,noB,fun _=>none,noB,Yqu (Below.refl _ _) I.str.xb I.str.kb,trivial,fun _ h=>h,?_,rfl,rfl⟩;exact Yb.Yb3 _ _ _
theorem Ymx {f:FuncId} (hthere:Ybb P f) {a b:Ty} {F:a.El→b.El→Option Int}
  (h:∀ x y n,F x y=some n→∀ (u v:Value) (w:World) (M:Yd) (L:Nat→Src) (ρ:Yc),Yb w M L ρ (.cl .sh a x) u→Yb w M L ρ (.cl .sh b y) v→Calls P f #[u,v] w fun e w'=>e=.returned (.int .i64 n)∧w'=w)
  (ha:∀ (x:a.El) (y:b.El),lk 0 (Yh [.cl .sh a x,.cl .sh b y]).tm=some (.cl .sh a x)) (hb:∀ (x:a.El) (y:b.El),lk 1 (Yh [.cl .sh a x,.cl .sh b y]).tm=some (.cl .sh b y)) :
  Ycm P f (Ycx [.sh,.sh] [.cl .sh a,.cl .sh b] (fun x=>F x.1 x.2.1) fun n=>⟨[.cl .sh (.int .i64) n],[]⟩):=by
 intro cs R k r he;simp only[Ycx] at he
 split at he
 ·rename_i x hx
  have e:=PT.Yc9 hx;subst e
  cases hf:F x.1 x.2.1 with
  |none=>rw[hf] at he;cases he
  |some n=>rw[hf] at he;exact⟨_,he,Yob hthere (h _ _ _ hf) (ha _ _) (hb _ _)⟩
 ·cases he
def Yi8 (s:List UInt8) (c:Int):Option Int:=some (Go.Lib.indexByte s c.toNat.toUInt8)
def countP (s sub:List UInt8):Option Int:=match sub with | [c]=>some (s.count c:Nat) | _=>none
theorem Yta {f:FuncId} (hthere:Ybb P f)
  (h:∀ (s:ByteArray) (c:Int) (w:World),Calls P f #[.string s,.int .u8 c] w fun e w'=>e=.returned (.int .i64 (Go.Lib.indexByte s.data.toList c.toNat.toUInt8))∧w'=w) :
  Ycm P f (Ycx [.sh,.sh] [.cl .sh .str,.cl .sh (.int .u8)] (fun x=>Yi8 x.1 x.2.1) fun n=>⟨[.cl .sh (.int .i64) n],[]⟩):=
 Ymx (a:=.str) (b:=.int .u8) hthere (ha:=fun _ _=>rfl) (hb:=fun _ _=>rfl) fun x y n hf u v w M L ρ h0 h1=>by
  obtain⟨z,rfl,rfl⟩:=h0.str;have e:=h1.int;subst e;simp only[Yi8] at hf;cases hf;exact h z y w
theorem Yvr {f:FuncId} (hthere:Ybb P f)
  (h:∀ (s:ByteArray) (c:UInt8) (w:World),Calls P f #[.string s,.string ⟨#[c]⟩] w fun e w'=>e=.returned (.int .i64 (s.data.toList.count c:Nat))∧w'=w) :
  Ycm P f (Ycx [.sh,.sh] [.cl .sh .str,.cl .sh .str] (fun x=>countP x.1 x.2.1) fun n=>⟨[.cl .sh (.int .i64) n],[]⟩):=
 Ymx (a:=.str) (b:=.str) hthere (ha:=fun _ _=>rfl) (hb:=fun _ _=>rfl) fun x y n hf u v w M L ρ h0 h1=>by
  obtain⟨z,rfl,rfl⟩:=h0.str;obtain⟨z2,rfl,h2⟩:=h1.str
  have key:∀ l:List UInt8,z2.data.toList=l→countP z.data.toList l=some n→Calls P f #[.string z,.string z2] w fun e w'=>e=.returned (.int .i64 n)∧w'=w:=fun l h2 hf=>by
   match l with
   |[c]=>
    have:z2=⟨#[c]⟩:=by
     have h3:z2.data=#[c]:=Array.toList_inj.1 h2;cases z2;simp only at h3;rw[h3]
    subst this;simp only[countP,jD] at hf;subst hf
    exact h z c w
   |[]=>cases hf
   |_::_::_=>cases hf
  exact key y h2 hf
end
section
open Go.RowKit
end
section
open Go.RowKit
theorem Ysq {Z:W0} {C:Cx} {cs:List TV} {t:Ty} {d d':t.El} {W:World} {bd od:Nat} {F':Yd} (I:Str Z (Yi Z.w (Mt Z C (Yh cs).root noB) C.L (Yh cs).root) C noB (Yh cs).root Z.w)
  (hR:(Yh cs).root 0=some ⟨.mem,.cl .deep t d⟩) (hL:C.L 0=.mem bd od) (hrep:∀ M,Rep W M t .deep d' (.mem bd od) F')
  (hF':∀ b,F' b→C.F 0 b∨(Z.w.heap.size≤b∧b<W.heap.size)) (hsz:Z.w.heap.size≤W.heap.size) (hblk:∀ b,b<Z.w.heap.size→¬ C.F 0 b→b≠bd→Same Z.w W b)
  (hcell:∀ i,¬ (od≤i∧i<od+t.size)→W.cell? ⟨bd,i,none⟩=Z.w.cell? ⟨bd,i,none⟩) (hroom:∀ i,i<t.size→(W.cell? ⟨bd,od+i,none⟩).isSome=true)
  (hfz:∀ i,W.frozen? ⟨bd,i,none⟩=Z.w.frozen? ⟨bd,i,none⟩) (hos:W.os=Z.w.os) (htape:W.tape=Z.w.tape) (hout:W.output=Z.w.output) :
  Str Z (Yi W (Mt Z ⟨C.L,fun r=>if r=0 then F' else noB⟩ (fun r=>if r=0 then some ⟨.mem,.cl .deep t d'⟩ else none) noB) C.L (fun r=>if r=0 then some ⟨.mem,.cl .deep t d'⟩ else none)) ⟨C.L,fun r=>if r=0 then F' else noB⟩ noB (fun r=>if r=0 then some ⟨.mem,.cl .deep t d'⟩ else none) W:=by
 obtain⟨b,off,e1,m1,m2,m3,m4,m5,m6⟩:=I.mem 0 _ hR rfl;rw[hL] at e1;cases e1
 have hone:∀ r R,(if r=0 then some (⟨.mem,.cl .deep t d'⟩:Root) else none)=some R→r=0∧R=⟨.mem,.cl .deep t d'⟩:=fun r R h=>by
  split at h
  ·cases h;exact⟨by assumption,rfl⟩
  ·cases h
 have hbd:¬ F' bd:=fun h=>(hF' bd h).elim m1 (fun h=>by omega)
 refine⟨fun r R h=>?_,fun r R h hk=>?_,fun r R h hk=>?_,fun r R b h hb=>?_,fun _ h=>h.elim,fun r r' R R' hne h h'=>?_,fun r R h=>fun _ _ h=>h.elim,fun r R h=>?_,hsz,fun b hb hM=>?_,fun b i hk=>?_,fun b i j hk=>?_,I.xb,I.kb,hos,htape,hout⟩
 ·obtain⟨rfl,rfl⟩:=hone r R h
  show Rep W _ t .deep d' (C.L 0) F';rw[hL];exact hrep _
 ·obtain⟨rfl,rfl⟩:=hone r R h;cases hk
 ·obtain⟨rfl,rfl⟩:=hone r R h
  refine⟨bd,od,hL,hbd,jX m2 hsz,fun i hi=>?_,m4,m5,m6⟩;have hr:=m3 i hi;rw[hfz];exact⟨hroom i hi,hr.2⟩
 ·obtain⟨rfl,rfl⟩:=hone r R h
  have hb':F' b:=hb;rcases hF' b hb' with hb | ⟨h1,h2⟩
  ·obtain⟨b1,b2,b3,b4⟩:=I.bnd 0 _ b hR hb
   exact⟨jX b1 hsz,b2,b3,b4⟩
  ·exact⟨h2,fun i hk=>by have:=I.kb b i hk;omega,fun hx=>by have:=I.xb b hx;omega,.inr h1⟩
 ·obtain⟨rfl,-⟩:=hone r R h
  obtain⟨rfl,-⟩:=hone r' R' h';exact absurd rfl hne
 ·obtain⟨rfl,rfl⟩:=hone r R h
  exact I.plc 0 ⟨.mem,.cl .deep t d⟩ hR
 ·have n1:b≠bd:=fun e=>hM ((e▸m6).resolve_right (by omega))
  have n2:¬ C.F 0 b:=fun h=>by
   obtain⟨b1,b2,b3,b4⟩:=I.bnd 0 _ b hR h
   exact hM (b4.resolve_right (by omega))
  exact hblk b hb n2 n1
 ·by_cases e:b=bd
  ·subst e
   refine hcell i fun h=>?_
   have:=m4 (i-od) (show i-od<t.size by omega)
   rw[show od+(i-od)=i by omega] at this
   exact this hk
  ·exact(hblk b (I.kb b i hk) (fun h=>(I.bnd 0 _ b hR h).2.1 i hk) e).cell i
 ·by_cases e:b=bd
  ·subst e;exact hfz j
  ·exact(hblk b (I.kb b i hk) (fun h=>(I.bnd 0 _ b hR h).2.1 i hk) e).frozen j
end
section
open Go.RowKit
abbrev Ybn:Ty:=.pair .str (.pair (.int .i64) .unit)
abbrev Yd8:Ty:=.pair (.int .i64) (.pair (.int .i64) (.pair (.int .i64) (.pair (.sl (.int .i64)) (.pair (.sl Ybn) .unit))))
abbrev Yd7:Ty:=.pair (.sl Yd8) (.pair (.sl (.sl (.int .u8))) .unit)
abbrev Yj:=List (List UInt8×Int×Unit)
abbrev Ydd:=Int×Int×Int×List Int×Yj×Unit
theorem Rep.snd {w W:World} {M M':Yd} {a b:Ty} {x:a.El} {y y':b.El} {s:Src} {F N T:Yd} (h:Rep w M (.pair a b) .deep (x,y) s F) (hsz:w.heap.size≤W.heap.size)
  (hc:∀ i,i<a.size→s.cell W i=s.cell w i) (hS:∀ b',F b'→¬ T b'→Same w W b') (hN:∀ b',N b'→w.heap.size≤b') (hF:∀ b',F b'→b'<w.heap.size)
  (hy:∀ F2,Rep w M b .deep y (s.sh a.size) F2→Ye F2 F→(∀ b',T b'→F2 b')∧Rep W M' b .deep y' (s.sh a.size) (fun b'=>F2 b'∨N b')) :
  Rep W M' (.pair a b) .deep (x,y') s (fun b'=>F b'∨N b'):=by
 obtain⟨F1,F2,h1,h2,s1,s2,d⟩:=h;obtain⟨hT,hr⟩:=hy F2 h2 s2;refine⟨F1,fun b'=>F2 b'∨N b',?_,hr,fun b' hb=>.inl (s1 b' hb),fun b' hb=>hb.elim (fun hb=>.inl (s2 b' hb)) .inr,fun b' hb hb'=>?_⟩
 ·exact(h1.Yip (M':=fun _=>True)).go ⟨hsz,fun b' hb=>hS b' (s1 b' hb) (fun ht=>d b' hb (hT b' ht)),fun b' h=>absurd trivial h⟩ hc
 ·rcases hb' with hb' | hb'
  ·exact d b' hb hb'
  ·have:=hF b' (s1 b' hb);have:=hN b' hb';omega
theorem Rep.fst {w W:World} {M M':Yd} {a b:Ty} {x x':a.El} {y:b.El} {s:Src} {F N T:Yd} (h:Rep w M (.pair a b) .deep (x,y) s F) (hsz:w.heap.size≤W.heap.size)
  (hc:∀ i,i<b.size→(s.sh a.size).cell W i=(s.sh a.size).cell w i) (hS:∀ b',F b'→¬ T b'→Same w W b') (hN:∀ b',N b'→w.heap.size≤b') (hF:∀ b',F b'→b'<w.heap.size)
  (hx:∀ F1,Rep w M a .deep x s F1→Ye F1 F→(∀ b',T b'→F1 b')∧Rep W M' a .deep x' s (fun b'=>F1 b'∨N b')) :
  Rep W M' (.pair a b) .deep (x',y) s (fun b'=>F b'∨N b'):=by
 obtain⟨F1,F2,h1,h2,s1,s2,d⟩:=h;obtain⟨hT,hr⟩:=hx F1 h1 s1;refine⟨fun b'=>F1 b'∨N b',F2,hr,?_,fun b' hb=>hb.elim (fun hb=>.inl (s1 b' hb)) .inr,fun b' hb=>.inl (s2 b' hb),fun b' hb hb'=>?_⟩
 ·exact(h2.Yip (M':=fun _=>True)).go ⟨hsz,fun b' hb=>hS b' (s2 b' hb) (fun ht=>d b' (hT b' ht) hb),fun b' h=>absurd trivial h⟩ hc
 ·rcases hb with hb | hb
  ·exact d b' hb hb'
  ·have:=hF b' (s2 b' hb');have:=hN b' hb;omega
theorem Rep.Yty {w W:World} {M M':Yd} {e:Ty} {xs:List e.El} {y:e.El} {i b off c:Nat} {s:Src} {F N T:Yd} (h:Rep w M (.sl e) .deep xs s F) (hi:i<xs.length) (hsz:w.heap.size≤W.heap.size)
  (hs:s.cell w 0=some (.slice (some ⟨b,off,none⟩) xs.length c)) (hs':s.cell W 0=s.cell w 0) (hcb:∀ k,¬ (off+i*e.size≤k∧k<off+i*e.size+e.size)→W.cell? ⟨b,k,none⟩=w.cell? ⟨b,k,none⟩)
  (hcs:∀ k,k<e.size→(W.cell? ⟨b,off+i*e.size+k,none⟩).isSome=true) (hfz:∀ k,W.frozen? ⟨b,k,none⟩=w.frozen? ⟨b,k,none⟩)
  (hS:∀ b',F b'→b'≠b→¬ T b'→Same w W b') (hN:∀ b',N b'→w.heap.size≤b') (hF:∀ b',F b'→b'<w.heap.size)
  (hy:∀ Fi,Rep w M e .deep xs[i] (.mem b (off+i*e.size)) Fi→Ye Fi F→¬ Fi b→(∀ b',T b'→Fi b')∧Rep W M' e .deep y (.mem b (off+i*e.size)) (fun b'=>Fi b'∨N b')) :
  Rep W M' (.sl e) .deep (xs.set i y) s (fun b'=>F b'∨N b'):=by
 obtain⟨A,c',k1,k2,k3⟩:=h;rw[hs] at k1;simp only[jD,Value.slice.injEq] at k1;obtain⟨rfl,-,rfl⟩:=k1
 obtain⟨b0,off0,Fs,e0,hFb,hroom,he,hd⟩:=k3 (by omega)
 cases e0;have hdeep:Ow.deep.elem=Ow.deep:=rfl
 have hyi:=hy (Fs i) (by have:=(he i hi).1;rw[hdeep] at this;exact this) (he i hi).2.1 (he i hi).2.2
 obtain⟨hT,hr⟩:=hyi;have hbb:b<w.heap.size:=hF b hFb
 have hroomW:Room W b off (c*e.size):=fun k hk=>by
  have hr:=hroom k hk;rw[hfz];refine⟨?_,hr.2⟩
  by_cases hin:off+i*e.size≤off+k∧off+k<off+i*e.size+e.size
  ·have:=hcs (k-i*e.size) (by omega)
   rw[show off+i*e.size+(k-i*e.size)=off+k by omega] at this
   exact this
  ·rw[hcb _ hin];exact hr.1
 refine⟨some ⟨b,off,none⟩,c,by rw[hs',hs,kC],by rw[kC];exact k2,fun _=>⟨b,off,fun j=>if j=i then(fun b'=>Fs i b'∨N b') else Fs j,rfl,.inl hFb,hroomW,fun j hj=>?_,fun j k hjk hk=>?_⟩⟩
 ·have hj':j<xs.length:=by simpa using hj
  rw[hdeep]
  by_cases e1:j=i
  ·subst e1
   simp only[if_true,List.getElem_set_self]
   exact⟨hr,fun b' hb=>hb.elim (fun hb=>.inl ((he j hj').2.1 b' hb)) .inr,fun hb=>hb.elim (he j hj').2.2 (fun hb=>by have:=hN b hb;omega)⟩
  ·simp only[jM e1,List.getElem_set_ne (fun e=>e1 e.symm)]
   refine⟨?_,fun b' hb=>.inl ((he j hj').2.1 b' hb),(he j hj').2.2⟩;have h1:=(he j hj').1;rw[hdeep] at h1;refine(h1.Yip (M':=fun _=>True)).go ⟨hsz,fun b' hb=>hS b' ((he j hj').2.1 b' hb) (fun e=>(he j hj').2.2 (e▸hb)) (fun ht=>?_),fun b' h=>absurd trivial h⟩ (fun r hr=>?_)
   ·have:=hT b' ht
    rcases Nat.lt_or_gt_of_ne e1 with hlt | hgt
    ·exact hd j i hlt hi b' hb this
    ·exact hd i j hgt hj' b' this hb
   ·simp only[Src.cell]
    refine hcb _ fun hin=>?_;rcases Nat.lt_or_gt_of_ne e1 with hlt | hgt
    ·have:(j+1)*e.size≤i*e.size:=jR _ hlt
     rw[jY] at this;omega
    ·have:(i+1)*e.size≤j*e.size:=jR _ hgt
     rw[jY] at this;omega
 ·rw[kC] at hk
  intro b' h1 h2
  by_cases e1:j=i
  ·subst e1
   have e2:k≠j:=by omega
   simp only[if_true] at h1;simp only[jM e2] at h2;rcases h1 with h1 | h1
   ·exact hd j k hjk hk b' h1 h2
   ·have:=hF b' ((he k hk).2.1 b' h2);have:=hN b' h1;omega
  ·simp only[jM e1] at h1
   by_cases e2:k=i
   ·subst e2
    simp only[if_true] at h2;rcases h2 with h2 | h2
    ·exact hd j k hjk hk b' h1 h2
    ·have:=hF b' ((he j (by omega)).2.1 b' h1);have:=hN b' h2;omega
   ·simp only[jM e2] at h2
    exact hd j k hjk hk b' h1 h2
def Ydm (w:World) (b o:Nat) (es:Yj):Prop:=∀ j (hj:j<es.length),w.cell? ⟨b,o+j*2,none⟩=some (.string ⟨es[j].1.toArray⟩)∧w.cell? ⟨b,o+j*2+1,none⟩=some (.int .i64 es[j].2.1)
theorem Ymt {w:World} {M F:Yd} {es:Yj} {b k:Nat} (h:Rep w M (.sl Ybn) .deep es (.mem b k) F) :
  ∃ A c,w.cell? ⟨b,k,none⟩=some (.slice A es.length c)∧es.length≤c∧(c≠0→∃ b2 o2,A=some ⟨b2,o2,none⟩∧F b2∧Room w b2 o2 (c*2)∧Ydm w b2 o2 es):=by
 obtain⟨A,c,k1,k2,k3⟩:=h
 refine⟨A,c,by simpa [Src.cell] using k1,k2,fun hc=>?_⟩
 obtain⟨b2,o2,Fs,e,hF,hroom,he,-⟩:=k3 hc;refine⟨b2,o2,e,hF,hroom,fun j hj=>?_⟩;obtain⟨F1,F2,h1,⟨F3,F4,h2,-⟩,-⟩:=(he j hj).1;obtain⟨z,z1,z2⟩:=h1;have hs:Ybn.size=2:=rfl;have hs1:Ty.str.size=1:=rfl
 have z1':w.cell? ⟨b2,o2+j*2,none⟩=some (.string z):=by simpa [Src.cell,hs] using z1
 have h2':w.cell? ⟨b2,o2+j*2+1,none⟩=some (.int .i64 es[j].2.1):=by
  have h3:((Src.mem b2 (o2+j*Ybn.size)).sh Ty.str.size).cell w 0=some (.int .i64 es[j].2.1):=h2
  simpa [Src.cell,Src.sh,hs,hs1] using h3
 refine⟨?_,h2'⟩;rw[z1',←z2]
theorem Yri {W:World} {M:Yd} {F:Yd} {es:Yj} {b k:Nat} {A:Option Addr} {c:Nat} (h1:W.cell? ⟨b,k,none⟩=some (.slice A es.length c)) (h2:es.length≤c)
  (h3:c≠0→∃ b2 o2,A=some ⟨b2,o2,none⟩∧F b2∧Room W b2 o2 (c*2)∧Ydm W b2 o2 es):Rep W M (.sl Ybn) .deep es (.mem b k) F:=by
 refine⟨A,c,by simpa [Src.cell] using h1,h2,fun hc=>?_⟩
 obtain⟨b2,o2,e,hF,hroom,he⟩:=h3 hc
 refine⟨b2,o2,fun _=>noB,e,hF,hroom,fun j hj=>⟨⟨noB,noB,⟨⟨es[j].1.toArray⟩,?_,by simp⟩,⟨noB,noB,?_,trivial,fun _ h=>h,fun _ h=>h,fun _ h=>h.elim⟩,fun _ h=>h,fun _ h=>h,fun _ h=>h.elim⟩,fun _ h=>h.elim,fun h=>h.elim⟩,fun _ _ _ _ _ h=>h.elim⟩
 ·have hs:Ybn.size=2:=rfl
  simpa [Src.cell,hs] using (he j hj).1
 ·have hs:Ybn.size=2:=rfl
  have hs1:Ty.str.size=1:=rfl;show((Src.mem b2 (o2+j*Ybn.size)).sh Ty.str.size).cell W 0=some (.int .i64 es[j].2.1)
  simpa [Src.cell,Src.sh,hs,hs1] using (he j hj).2
def Yka (x:Ydd) (es:Yj):Ydd:=(x.1,x.2.1,x.2.2.1,x.2.2.2.1,es,())
theorem Ypg {w:World} {M F:Yd} {xs:List Ydd} {ds:List (List Int)} {bd od dir:Nat} (h:Rep w M Yd7 .deep (xs,ds,()) (.mem bd od) F) (hd:dir<xs.length) :
  ∃ b1 o1 c1 A2 c2,w.cell? ⟨bd,od,none⟩=some (.slice (some ⟨b1,o1,none⟩) xs.length c1)∧F b1∧Room w b1 o1 (c1*5)∧xs.length≤c1∧w.cell? ⟨b1,o1+dir*5+4,none⟩=some (.slice A2 xs[dir].2.2.2.2.1.length c2)∧xs[dir].2.2.2.2.1.length≤c2∧
   (c2≠0→∃ b2 o2,A2=some ⟨b2,o2,none⟩∧F b2∧b2≠b1∧Room w b2 o2 (c2*2)∧Ydm w b2 o2 xs[dir].2.2.2.2.1):=by
 obtain⟨F1,F2,hB,-,s1,-,-⟩:=h;obtain⟨A,c1,a1,a2,a3⟩:=hB
 obtain⟨b1,o1,Fs,rfl,hF1,hroom,he,-⟩:=a3 (by have:xs.length≤c1:=a2;omega)
 obtain⟨h1,h2,h3⟩:=he dir hd;have hs:Yd8.size=5:=rfl;obtain⟨_,G1,-,⟨_,G2,-,⟨_,G3,-,⟨_,G4,-,⟨G5,_,hE,-,t5,-⟩,-,t4,-⟩,-,t3,-⟩,-,t2,-⟩,-,t1,-⟩:=h1
 have hE':Rep w M (.sl Ybn) .deep xs[dir].2.2.2.2.1 (.mem b1 (o1+dir*5+4)) G5:=by
  have e:((((Src.mem b1 (o1+dir*Yd8.size)).sh (Ty.int .i64).size).sh (Ty.int .i64).size).sh (Ty.int .i64).size).sh (Ty.sl (.int .i64)).size=Src.mem b1 (o1+dir*5+4):=by
   simp[Src.sh,hs,Ty.size]
  rw[←e];exact hE
 obtain⟨A2,c2,q1,q2,q3⟩:=Ymt hE';have hG:∀ b',G5 b'→Fs dir b':=fun b' hb=>t1 b' (t2 b' (t3 b' (t4 b' (t5 b' hb))))
 refine⟨b1,o1,c1,A2,c2,by simpa [Src.cell] using a1,s1 b1 hF1,by rw[←hs];exact hroom,a2,q1,q2,fun hc=>?_⟩
 obtain⟨b2,o2,r1,r2,r3,r4⟩:=q3 hc;exact⟨b2,o2,r1,s1 b2 (h2 b2 (hG b2 r2)),fun e=>h3 (e▸hG b2 r2),r3,r4⟩
def Yb8 (A2:Option Addr) (c2:Nat):Yd:=fun b=>c2≠0∧∃ o,A2=some ⟨b,o,none⟩
theorem Yg0 {w:World} {M F:Yd} {es:Yj} {b k c2 n:Nat} {A2:Option Addr} (h:Rep w M (.sl Ybn) .deep es (.mem b k) F) (g:w.cell? ⟨b,k,none⟩=some (.slice A2 n c2)):∀ b',Yb8 A2 c2 b'→F b':=by
 obtain⟨A,c,q1,-,q3⟩:=Ymt h;rw[g] at q1;simp only[jD,Value.slice.injEq] at q1;obtain⟨rfl,-,rfl⟩:=q1;rintro b' ⟨hc,o,rfl⟩;obtain⟨b2,o2,e,hF,-⟩:=q3 hc;cases e;exact hF
theorem Ym3 {w:World} {M F:Yd} {x:Ydd} {b k c2 n:Nat} {A2:Option Addr} (h:Rep w M Yd8 .deep x (.mem b k) F) (g:w.cell? ⟨b,k+4,none⟩=some (.slice A2 n c2)):∀ b',Yb8 A2 c2 b'→F b':=by
 obtain⟨_,G1,-,⟨_,G2,-,⟨_,G3,-,⟨_,G4,-,⟨G5,_,hE,-,t5,-⟩,-,t4,-⟩,-,t3,-⟩,-,t2,-⟩,-,t1,-⟩:=h;exact fun b' hb=>t1 b' (t2 b' (t3 b' (t4 b' (t5 b' (Yg0 (b:=b) (k:=k+1+1+1+1) hE g b' hb)))))
theorem Yp8 {w W:World} {M M' F N:Yd} {x:Ydd} {b k c2 n:Nat} {A2:Option Addr} (h:Rep w M Yd8 .deep x (.mem b k) F) (g:w.cell? ⟨b,k+4,none⟩=some (.slice A2 n c2)) (hsz:w.heap.size≤W.heap.size)
  (hc:∀ i,i≠k+4→W.cell? ⟨b,i,none⟩=w.cell? ⟨b,i,none⟩) (hS:∀ b',F b'→¬ Yb8 A2 c2 b'→Same w W b') (hN:∀ b',N b'→w.heap.size≤b') (hF:∀ b',F b'→b'<w.heap.size) {es':Yj}
  (hnew:∀ G:Yd,(∀ b',Yb8 A2 c2 b'→G b')→Rep W M' (.sl Ybn) .deep es' (.mem b (k+4)) (fun b'=>G b'∨N b')):Rep W M' Yd8 .deep (Yka x es') (.mem b k) (fun b'=>F b'∨N b'):=by
 obtain⟨kd,ln,sz,bl,es,_⟩:=x
 refine Rep.snd (T:=Yb8 A2 c2) h hsz (fun i hi=>by simp only[Src.cell];exact hc _ (by simp[Ty.size] at hi;omega)) hS hN hF fun F2 h2 s2=>?_
 refine⟨fun b' hb=>?_,Rep.snd (T:=Yb8 A2 c2) h2 hsz (fun i hi=>by simp only[Src.cell,Src.sh];exact hc _ (by simp[Ty.size] at *;omega)) (fun b' hb=>hS b' (s2 b' hb)) hN (fun b' hb=>hF b' (s2 b' hb)) fun F3 h3 s3=>?_⟩
 ·obtain⟨_,G2,-,⟨_,G3,-,⟨_,G4,-,⟨G5,_,hE,-,t5,-⟩,-,t4,-⟩,-,t3,-⟩,-,t2,-⟩:=h2
  exact t2 b' (t3 b' (t4 b' (t5 b' (Yg0 (b:=b) (k:=k+1+1+1+1) hE g b' hb))))
 refine⟨fun b' hb=>?_,Rep.snd (T:=Yb8 A2 c2) h3 hsz (fun i hi=>by simp only[Src.cell,Src.sh];exact hc _ (by simp[Ty.size] at *;omega)) (fun b' hb=>hS b' (s2 b' (s3 b' hb))) hN (fun b' hb=>hF b' (s2 b' (s3 b' hb))) fun F4 h4 s4=>?_⟩
 ·obtain⟨_,G3,-,⟨_,G4,-,⟨G5,_,hE,-,t5,-⟩,-,t4,-⟩,-,t3,-⟩:=h3
  exact t3 b' (t4 b' (t5 b' (Yg0 (b:=b) (k:=k+1+1+1+1) hE g b' hb)))
 refine⟨fun b' hb=>?_,Rep.snd (T:=Yb8 A2 c2) h4 hsz (fun i hi=>by simp only[Src.cell,Src.sh];exact hc _ (by simp[Ty.size] at *;omega)) (fun b' hb=>hS b' (s2 b' (s3 b' (s4 b' hb)))) hN (fun b' hb=>hF b' (s2 b' (s3 b' (s4 b' hb)))) fun F5 h5 s5=>?_⟩
 ·obtain⟨_,G4,-,⟨G5,_,hE,-,t5,-⟩,-,t4,-⟩:=h4
  exact t4 b' (t5 b' (Yg0 (b:=b) (k:=k+1+1+1+1) hE g b' hb))
 obtain⟨G5,G6,hE,-,t5,t6,d⟩:=h5;refine⟨fun b' hb=>t5 b' (Yg0 (b:=b) (k:=k+1+1+1+1) hE g b' hb),fun b'=>G5 b'∨N b',noB,?_,trivial,fun b' hb=>hb.elim (fun hb=>.inl (t5 b' hb)) .inr,fun _ h=>h.elim,fun _ _ h=>h.elim⟩;exact hnew G5 (Yg0 (b:=b) (k:=k+1+1+1+1) hE g)
theorem Yro {w W:World} {M M' F:Yd} {xs:List Ydd} {ds:List (List Int)} {bd od dir b1 o1 c1 c2:Nat} {A2:Option Addr} (h:Rep w M Yd7 .deep (xs,ds,()) (.mem bd od) F) (hd:dir<xs.length)
  (g1:w.cell? ⟨bd,od,none⟩=some (.slice (some ⟨b1,o1,none⟩) xs.length c1)) (g2:w.cell? ⟨b1,o1+dir*5+4,none⟩=some (.slice A2 xs[dir].2.2.2.2.1.length c2)) (hF:∀ b,F b→b<w.heap.size)
  {es':Yj} {A':Option Addr} {c':Nat} (hsz:w.heap.size≤W.heap.size) (hbd:Same w W bd) (hkeep:∀ b,F b→b≠b1→¬ Yb8 A2 c2 b→Same w W b)
  (hc1:∀ k,k≠o1+dir*5+4→W.cell? ⟨b1,k,none⟩=w.cell? ⟨b1,k,none⟩) (hf1:∀ k,W.frozen? ⟨b1,k,none⟩=w.frozen? ⟨b1,k,none⟩)
  (hh:W.cell? ⟨b1,o1+dir*5+4,none⟩=some (.slice A' es'.length c')) (hle:es'.length≤c')
  (hnew:c'≠0→∃ b' o',A'=some ⟨b',o',none⟩∧(Yb8 A2 c2 b'∨(w.heap.size≤b'∧b'<W.heap.size))∧Room W b' o' (c'*2)∧Ydm W b' o' es') :
  Rep W M' Yd7 .deep (xs.set dir (Yka xs[dir] es'),ds,()) (.mem bd od) (fun b=>F b∨(w.heap.size≤b∧b<W.heap.size)):=by
 have hs:Yd8.size=5:=rfl;have hN:∀ b',(w.heap.size≤b'∧b'<W.heap.size)→w.heap.size≤b':=fun _ h=>h.1;refine Rep.fst (T:=fun b=>b=b1∨Yb8 A2 c2 b) h hsz (fun i hi=>?_) (fun b' hb ht=>hkeep b' hb (fun e=>ht (.inl e)) (fun e=>ht (.inr e))) hN hF fun F1 hrow hsub=>?_
 ·simp only[Src.sh,Src.cell];exact hbd.cell _
 have hrow2:=hrow;obtain⟨A,c,k1,k2,k3⟩:=hrow2
 have k1':w.cell? ⟨bd,od,none⟩=some (.slice A xs.length c):=by simpa [Src.cell] using k1
 rw[g1] at k1';simp only[jD,Value.slice.injEq] at k1';obtain⟨rfl,-,rfl⟩:=k1'
 obtain⟨b0,o0,Fs,e0,hFb,hroom,he,-⟩:=k3 (by have:xs.length≤c1:=k2;omega)
 cases e0;have hin:=Ym3 (b:=b1) (k:=o1+dir*5) (he dir hd).1 g2;refine⟨fun b' hb=>hb.elim (fun e=>e▸hFb) (fun hb=>(he dir hd).2.1 b' (hin b' hb)),?_⟩
 refine Rep.Yty (T:=Yb8 A2 c2) (b:=b1) (off:=o1) (c:=c1) hrow hd hsz (by simpa [Src.cell] using g1) (by simp only[Src.cell];exact hbd.cell _) (fun k hk=>hc1 k fun e=>hk (by rw[hs];omega)) (fun k hk=>?_) hf1
  (fun b' hb n1 n2=>hkeep b' (hsub b' hb) n1 n2) hN (fun b' hb=>hF b' (hsub b' hb)) fun Fi hi si ni=>?_
 ·rw[hs] at hk ⊢
  by_cases e:o1+dir*5+k=o1+dir*5+4
  ·rw[e,hh];rfl
  ·rw[hc1 _ e]
   have hx:(dir+1)*5≤c1*5:=jR _ (by have:xs.length≤c1:=k2;omega)
   have:=(hroom (dir*5+k) (by rw[hs];omega)).1
   rw[←kH] at this;exact this
 ·rw[hs] at hi ⊢
  refine⟨Ym3 hi g2,Yp8 hi g2 hsz hc1 (fun b' hb ht=>hkeep b' (hsub b' (si b' hb)) (fun e=>ni (e▸hb)) ht) hN (fun b' hb=>hF b' (hsub b' (si b' hb))) fun G hG=>Yri hh hle fun hc=>?_⟩;obtain⟨b',o',r1,r2,r3,r4⟩:=hnew hc;exact⟨b',o',r1,r2.elim (fun h=>.inl (hG b' h)) .inr,r3,r4⟩
end
section
open Go.RowKit
def Yux (nm:List UInt8):Yj→Nat
 |[]=>0
 |e::es=>cond (leB e.1 nm) (Yux nm es+1) 0
def Yp9 (es:Yj) (nm:List UInt8) (a:Int):Yj:=es.take (Yux nm es)++(nm,a,())::es.drop (Yux nm es)
def Ye4 (f:List Ydd×List (List Int)×Unit) (dir:Int) (nm:List UInt8) (a:Int):Option (List Ydd×List (List Int)×Unit):=
 cond (inB dir f.1.length&&decide ((f.1.getD dir.toNat (0,0,0,[],[],())).2.2.2.2.1.length≤1048576)) (some (f.1.set dir.toNat (Yka (f.1.getD dir.toNat (0,0,0,[],[],())) (Yp9 (f.1.getD dir.toNat (0,0,0,[],[],())).2.2.2.2.1 nm a)),f.2.1,())) none
structure Yml (w W:World) (b1 k:Nat) (A2:Option Addr) (c2:Nat) (es':Yj):Prop where
 sz:w.heap.size≤W.heap.size
 keep:∀ b,b<w.heap.size→b≠b1→¬ Yb8 A2 c2 b→Same w W b
 c1:∀ i,i≠k→W.cell? ⟨b1,i,none⟩=w.cell? ⟨b1,i,none⟩
 f1:∀ i,W.frozen? ⟨b1,i,none⟩=w.frozen? ⟨b1,i,none⟩
 hdr:∃ A' c',W.cell? ⟨b1,k,none⟩=some (.slice A' es'.length c')∧es'.length≤c'∧(c'≠0→∃ b' o',A'=some ⟨b',o',none⟩∧(Yb8 A2 c2 b'∨(w.heap.size≤b'∧b'<W.heap.size))∧Room W b' o' (c'*2)∧Ydm W b' o' es')
 os:W.os=w.os
 tape:W.tape=w.tape
 output:W.output=w.output
theorem Yj9 {f:FuncId} (ht:Ybb P f)
  (h:∀ (w:World) (bd od b1 o1 n1 c1 dir c2:Nat) (A2:Option Addr) (nm:ByteArray) (a:Int) (es:Yj),w.cell? ⟨bd,od,none⟩=some (.slice (some ⟨b1,o1,none⟩) n1 c1)→dir<n1→n1≤1152921504606846976→bd<w.heap.size→b1<w.heap.size→bd≠b1→w.cell? ⟨b1,o1+dir*5+4,none⟩=some (.slice A2 es.length c2)→
   w.frozen? ⟨b1,o1+dir*5+4,none⟩=false→es.length≤c2→es.length≤1048576→(c2≠0→∃ b2 o2,A2=some ⟨b2,o2,none⟩∧b2<w.heap.size∧b2≠b1∧b2≠bd∧Room w b2 o2 (c2*2)∧Ydm w b2 o2 es)→
   Calls P f #[.pointer (some ⟨bd,od,none⟩),.int .i64 dir,.string nm,.int .i64 a] w fun e W=>e=.returned (.tuple #[])∧Yml w W b1 (o1+dir*5+4) A2 c2 (Yp9 es nm.data.toList a))
  (x x':Yd7.El) (dir:Int) (nm:List UInt8) (a:Int) (hx:Ye4 x dir nm a=some x') (hlen:List.length x.1≤1152921504606846976) :
  Ycz P f [.mu,.sh,.sh,.sh] [.op (.cl .deep Yd7 x),.cl .sh (.int .i64) dir,.cl .sh .str nm,.cl .sh (.int .i64) a] ⟨[],[.op (.cl .deep Yd7 x')]⟩ where
 there:=ht
 calls:=by
  intro Z C us hl hnt hP1 hP2 I;obtain⟨xs,ds,_⟩:=x;have hus:us.size=4:=hl;have hR:(Yh [.op (.cl .deep Yd7 (xs,ds,())),.cl .sh (.int .i64) dir,.cl .sh .str nm,.cl .sh (.int .i64) a]).root 0=some ⟨.mem,.cl .deep Yd7 (xs,ds,())⟩:=rfl;obtain⟨bd,od,hL,m1,m2,m3,m4,m5,m6⟩:=I.str.mem 0 _ hR rfl;have hrep:Rep Z.w _ Yd7 .deep (xs,ds,()) (C.L 0) (C.F 0):=I.str.rep 0 _ hR;rw[hL] at hrep;have h0:Yb _ _ _ _ (.loc 0 []) ((⟨us,[]⟩:Act).tmps.getD 0 undef):=I.tm 0 (.loc 0 []) rfl;have h1:Yb _ _ _ _ (.cl .sh (.int .i64) dir) ((⟨us,[]⟩:Act).tmps.getD 1 undef):=I.tm 1 (.cl .sh (.int .i64) dir) rfl;have h2:Yb _ _ _ _ (.cl .sh .str nm) ((⟨us,[]⟩:Act).tmps.getD 2 undef):=I.tm 2 (.cl .sh .str nm) rfl;have h3:Yb _ _ _ _ (.cl .sh (.int .i64) a) ((⟨us,[]⟩:Act).tmps.getD 3 undef):=I.tm 3 (.cl .sh (.int .i64) a) rfl;have e1:=h1.int;have e3:=h3.int;obtain⟨z,e2,hz⟩:=h2.str;obtain⟨R,b,off,q1,q2,q3⟩:=h0.leaf rfl;rw[hR] at q1;cases q1;rw[Yf,hL] at q2;cases q2
  have hus2:us=#[.pointer (some ⟨bd,od,none⟩),.int .i64 dir,.string z,.int .i64 a]:=by
   apply Array.ext (by simp[hus])
   intro i h4 h5
   have:i=0∨i=1∨i=2∨i=3:=by omega
   rcases this with rfl | rfl | rfl | rfl
   ·have:us.getD 0 undef=.pointer (some ⟨bd,od,none⟩):=q3
    simpa [Array.getD,h4] using this
   ·have:us.getD 1 undef=.int .i64 dir:=e1
    simpa [Array.getD,h4] using this
   ·have:us.getD 2 undef=.string z:=e2
    simpa [Array.getD,h4] using this
   ·have:us.getD 3 undef=.int .i64 a:=e3
    simpa [Array.getD,h4] using this
  rw[hus2];simp only[Ye4] at hx
  cases hcond:(inB dir xs.length&&decide ((xs.getD dir.toNat (0,0,0,[],[],())).2.2.2.2.1.length≤1048576)) with
  |false=>rw[hcond] at hx;cases hx
  |true=>
   rw[hcond] at hx;cases hx;simp only[jC,jI,inB] at hcond;obtain⟨⟨d0,d1⟩,d2⟩:=hcond
   obtain⟨dn,rfl⟩:∃ dn:Nat,dir=dn:=⟨dir.toNat,by omega⟩
   have hdn:dn<xs.length:=by omega
   have hg:xs.getD (dn:Int).toNat (0,0,0,[],[],())=xs[dn]:=by simp[List.getD,hdn]
   rw[hg] at d2;have hFb:∀ x,C.F 0 x→x<Z.w.heap.size∧x≠bd:=fun x hx=>⟨(I.str.bnd 0 _ x hR hx).1,fun e=>m1 (e▸hx)⟩;obtain⟨b1,o1,c1,A2,c2,g1,g2,g3,g4,g5,g6,g7⟩:=Ypg hrep hdn
   have hfz:Z.w.frozen? ⟨b1,o1+dn*5+4,none⟩=false:=by
    have hx:(dn+1)*5≤c1*5:=jR _ (by omega)
    have:=(g3 (dn*5+4) (by omega)).2
    rw[←kH] at this;exact this
   have hEF:∀ b',Yb8 A2 c2 b'→C.F 0 b':=by
    rintro b' ⟨hc,o,e⟩;obtain⟨b2,o2,e2,hb,-⟩:=g7 hc;rw[e2] at e;cases e;exact hb
   refine(h Z.w bd od b1 o1 xs.length c1 dn c2 A2 z a xs[dn].2.2.2.2.1 g1 hdn hlen m2 (hFb _ g2).1 (hFb _ g2).2.symm g5 hfz g6 d2 (fun hc=>?_)).mono ?_
   ·obtain⟨b2,o2,r1,r2,r3,r4,r5⟩:=g7 hc
    exact⟨b2,o2,r1,(hFb _ r2).1,r3,(hFb _ r2).2,r4,r5⟩
   ·rintro e W ⟨rfl,R⟩
    rw[hz] at R;have hbd:Same Z.w W bd:=R.keep bd m2 (hFb _ g2).2.symm fun hE=>m1 (hEF bd hE);obtain⟨A',c',r1,r2,r3⟩:=R.hdr;have hnew:=fun M=>Yro (M':=M) (c1:=c1) hrep hdn g1 g5 (fun b hb=>(hFb b hb).1) R.sz hbd (fun b hb n1 n2=>R.keep b (hFb b hb).1 n1 n2) R.c1 R.f1 r1 r2 r3
    have hg2:xs.set (dn:Int).toNat (Yka (xs.getD (dn:Int).toNat (0,0,0,[],[],())) (Yp9 (xs.getD (dn:Int).toNat (0,0,0,[],[],())).2.2.2.2.1 nm a))=xs.set dn (Yka xs[dn] (Yp9 xs[dn].2.2.2.2.1 nm a)):=by rw[hg];rfl
    refine⟨_,rfl,_,noB,_,noB,Ysq (d':=(xs.set dn (Yka xs[dn] (Yp9 xs[dn].2.2.2.2.1 nm a)),ds,())) I.str hR hL hnew (fun b hb=>hb) R.sz (fun b hb n1 n2=>R.keep b hb (fun e=>n1 (e▸g2)) fun hE=>n1 (hEF b hE)) (fun i _=>hbd.cell i) (fun i hi=>?_) (fun i=>hbd.frozen i) R.os R.tape R.output,?_,fun _ h=>h,rfl,rfl,rfl⟩
    ·rw[hbd.cell];exact(m3 i hi).1
    ·refine⟨⟨_,rfl,?_⟩,trivial⟩
     show _=_;rw[hg2];rfl
theorem Yud {f:FuncId} (ht:Ybb P f)
  (h:∀ (w:World) (bd od b1 o1 n1 c1 dir c2:Nat) (A2:Option Addr) (nm:ByteArray) (a:Int) (es:Yj),w.cell? ⟨bd,od,none⟩=some (.slice (some ⟨b1,o1,none⟩) n1 c1)→dir<n1→n1≤1152921504606846976→bd<w.heap.size→b1<w.heap.size→bd≠b1→w.cell? ⟨b1,o1+dir*5+4,none⟩=some (.slice A2 es.length c2)→
   w.frozen? ⟨b1,o1+dir*5+4,none⟩=false→es.length≤c2→es.length≤1048576→(c2≠0→∃ b2 o2,A2=some ⟨b2,o2,none⟩∧b2<w.heap.size∧b2≠b1∧b2≠bd∧Room w b2 o2 (c2*2)∧Ydm w b2 o2 es)→
   Calls P f #[.pointer (some ⟨bd,od,none⟩),.int .i64 dir,.string nm,.int .i64 a] w fun e W=>e=.returned (.tuple #[])∧Yml w W b1 (o1+dir*5+4) A2 c2 (Yp9 es nm.data.toList a)) :
  Ycm P f (Ycx [.mu,.sh,.sh,.sh] [.op (.cl .deep Yd7),.cl .sh (.int .i64),.cl .sh .str,.cl .sh (.int .i64)] (fun x=>cond (decide (List.length x.1.1≤1152921504606846976)) (Ye4 x.1 x.2.1 x.2.2.1 x.2.2.2.1) none) fun y=>⟨[],[.op (.cl .deep Yd7 y)]⟩):=by
 intro cs R k r he;simp only[Ycx] at he
 split at he
 ·rename_i x hx
  have e:=PT.Yc9 hx;subst e
  cases hd:decide (List.length x.1.1≤1152921504606846976) with
  |false=>rw[hd] at he;cases he
  |true=>
   rw[hd] at he;simp only[cond_true] at he
   cases hb:Ye4 x.1 x.2.1 x.2.2.1 x.2.2.2.1 with
   |none=>rw[hb] at he;cases he
   |some t=>rw[hb] at he;exact⟨_,he,Yj9 ht h x.1 t _ _ _ hb (of_decide_eq_true hd)⟩
 ·cases he
end
section
open Go.RowKit
structure Yj3 (w W:World) (A:Option Addr) (c:Nat) (ds:List Value) (A':Option Addr) (n' c':Nat):Prop where
 sz:w.heap.size≤W.heap.size
 keep:∀ b,b<w.heap.size→¬ Yb8 A c b→Same w W b
 le:n'≤c'
 row:∃ b' o',A'=some ⟨b',o',none⟩∧(Yb8 A c b'∨(w.heap.size≤b'∧b'<W.heap.size))∧Room W b' o' (c'*2)∧∀ j u,ds[j]? = some u→W.cell? ⟨b',o'+j,none⟩=some u
 os:W.os=w.os
 tape:W.tape=w.tape
 output:W.output=w.output
theorem Yb1 (b:Nat) (vs:List Value) (o:Nat) (w:World) (h:∀ j,j<vs.length→(w.cell? ⟨b,o+j,none⟩).isSome=true) (k:Nat) (hk:(w.cell? ⟨b,k,none⟩).isSome=true):((w.setCells b o vs).cell? ⟨b,k,none⟩).isSome=true:=by
 by_cases hin:o≤k∧k<o+vs.length
 ·have:=World.cell?_setCells_in b vs o w h (k-o) (by omega)
  rw[show o+(k-o)=k by omega] at this
  rw[this];rfl
 ·rw[World.cell?_setCells_out b vs o w ⟨b,k,none⟩ (fun _ _=>by show k<o∨o+vs.length≤k;omega)]
  exact hk
theorem Yj3.shift {w:World} {b off n c i:Nat} {cs vs:List Value} (hi:i≤n) (hc:n+1≤c) (hcl:cs.length=n*2) (hvl:vs.length=2) (hr:Room w b off (c*2)) (hcs:∀ j u,cs[j]? = some u→w.cell? ⟨b,off+j,none⟩=some u) :
  Yj3 w ((w.drew.setCells b (off+(i+1)*2) (cs.drop (i*2))).setCells b (off+i*2) vs) (some ⟨b,off,none⟩) c (cs.take (i*2)++vs++cs.drop (i*2)) (some ⟨b,off,none⟩) (n+1) c:=by
 have hdl:(cs.drop (i*2)).length=(n-i)*2:=by rw[List.length_drop,hcl];omega
 have h1:∀ j,j<(cs.drop (i*2)).length→(w.drew.cell? ⟨b,off+(i+1)*2+j,none⟩).isSome=true:=fun j hj=>by
  have:=(hr ((i+1)*2+j) (by omega)).1
  rw[←kH] at this;exact this
 have hs1:∀ k,k<c*2→((w.drew.setCells b (off+(i+1)*2) (cs.drop (i*2))).cell? ⟨b,off+k,none⟩).isSome=true:=fun k hk=>Yb1 b _ _ _ h1 _ (hr k hk).1
 have h2:∀ j,j<vs.length→((w.drew.setCells b (off+(i+1)*2) (cs.drop (i*2))).cell? ⟨b,off+i*2+j,none⟩).isSome=true:=fun j hj=>by
  have:=hs1 (i*2+j) (by omega)
  rw[←kH] at this;exact this
 refine⟨by rw[setCells_size,setCells_size];exact jB _,fun b0 hb0 hne=>?_,hc,⟨b,off,rfl,.inl ⟨by omega,off,rfl⟩,fun k hk=>⟨?_,?_⟩,fun j u hj=>?_⟩,?_,?_,?_⟩
 ·have hb:b0≠b:=fun e=>hne ⟨by omega,off,by rw[e]⟩
  have s1:(w.drew.setCells b (off+(i+1)*2) (cs.drop (i*2))).heap[b0]? = w.heap[b0]?:=World.heap_setCells_other w.drew b _ _ hb0 hb
  exact(World.heap_setCells_other _ b _ _ (by rw[setCells_size];exact hb0) hb).trans s1
 ·exact Yb1 b _ _ _ h2 _ (hs1 k hk)
 ·rw[World.frozen?_setCells,World.frozen?_setCells];exact(hr k hk).2
 ·by_cases hj1:j<i*2
  ·rw[kO,List.getElem?_append_left (by rw[kK];omega),List.getElem?_take] at hj
   rw[jL hj1] at hj
   rw[World.cell?_setCells_out b _ _ _ _ (fun _ _=>.inl (by show off+j<off+i*2;omega)),World.cell?_setCells_out b _ _ _ _ (fun _ _=>.inl (by show off+j<off+(i+1)*2;omega))]
   exact hcs j u hj
  ·by_cases hj2:j<i*2+2
   ·rw[kO,List.getElem?_append_right (by rw[kK];omega),List.getElem?_append_left (by rw[kK];omega),kK] at hj
    obtain⟨hlt,hv⟩:=List.getElem?_eq_some_iff.1 hj
    have:=World.cell?_setCells_in b vs (off+i*2) _ h2 (j-i*2) (by omega)
    rw[show off+i*2+(j-i*2)=off+j by omega] at this
    rw[this,←hv]
    congr 2
    omega
   ·rw[List.getElem?_append_right (by simp;omega)] at hj
    obtain⟨hlt,hv⟩:=List.getElem?_eq_some_iff.1 hj;simp only[jP,kK] at hlt hv
    rw[World.cell?_setCells_out b _ _ _ _ (fun _ _=>.inr (by show off+i*2+vs.length≤off+j;omega))]
    have:=World.cell?_setCells_in b (cs.drop (i*2)) (off+(i+1)*2) w.drew h1 (j-(i*2+2)) (by omega)
    rw[show off+(i+1)*2+(j-(i*2+2))=off+j by omega] at this
    rw[this,←hv]
    congr 2
    omega
 ·rw[World.os_setCells,World.os_setCells];rfl
 ·rw[Yaa,Yaa];rfl
 ·rw[World.output_setCells,World.output_setCells];rfl
theorem Yj3.alloc {w:World} {A:Option Addr} {c n' G:Nat} {ds:List Value} {ROW:Array Value} {E:TypeId} (hG:n'≤G) (hs:ROW.size=G*2) (hd:∀ (j:Nat) (u:Value),ds[j]? = some u→ROW[j]? = some u) :
  Yj3 w (w.drew.alloc (.cells ROW E)) A c ds (some ⟨w.heap.size,0,none⟩) n' G:=by
 have hsz:(w.drew.alloc (.cells ROW E)).heap.size=w.heap.size+1:=by rw[World.size_alloc];rfl
 have hcell:∀ j,(w.drew.alloc (.cells ROW E)).cell? ⟨w.heap.size,j,none⟩=ROW[j]?:=fun j=>World.cell?_alloc_at (w:=w.drew) ROW E w.heap.size j rfl
 refine⟨by omega,fun b hb _=>?_,hG,⟨_,_,rfl,.inr ⟨jB _,by omega⟩,fun k hk=>⟨?_,?_⟩,fun j u hj=>?_⟩,rfl,rfl,rfl⟩
 ·exact((Below.refl _ w).alloc (jB _) _).block b hb
 ·rw[jJ,hcell,Array.getElem?_eq_getElem (by omega)];rfl
 ·exact World.frozen?_alloc_at (w:=w.drew) ROW E w.heap.size _ rfl
 ·rw[jJ,hcell];exact hd j u hj
theorem Yj3.grow {w:World} {A:Option Addr} {c n i G:Nat} {cs vs:List Value} {ROW:Array Value} {E:TypeId} (hi:i≤n) (hG:n+1≤G) (hcl:cs.length=n*2) (hvl:vs.length=2) (hs:ROW.size=G*2) (hd:∀ (j:Nat) (u:Value),(cs.take (i*2))[j]? = some u→ROW[j]? = some u) :
  Yj3 w ((((w.alloc (.cells ROW E)).drew.setCells w.heap.size (i*2) vs).drew).setCells w.heap.size ((i+1)*2) (cs.drop (i*2))) A c (cs.take (i*2)++vs++cs.drop (i*2)) (some ⟨w.heap.size,0,none⟩) (n+1) G:=by
 have hsz:(w.alloc (.cells ROW E)).heap.size=w.heap.size+1:=by rw[World.size_alloc]
 have hcell:∀ j,(w.alloc (.cells ROW E)).drew.cell? ⟨w.heap.size,j,none⟩=ROW[j]?:=fun j=>World.cell?_alloc_at (w:=w) ROW E w.heap.size j rfl
 have hdl:(cs.drop (i*2)).length=(n-i)*2:=by rw[List.length_drop,hcl];omega
 have h1:∀ j,j<vs.length→((w.alloc (.cells ROW E)).drew.cell? ⟨w.heap.size,i*2+j,none⟩).isSome=true:=fun j hj=>by
  rw[hcell,Array.getElem?_eq_getElem (by omega)];rfl
 have hs1:∀ k,k<G*2→(((w.alloc (.cells ROW E)).drew.setCells w.heap.size (i*2) vs).drew.cell? ⟨w.heap.size,k,none⟩).isSome=true:=fun k hk=>
  Yb1 w.heap.size vs (i*2) _ h1 k (by rw[hcell,Array.getElem?_eq_getElem (by omega)];rfl)
 have h2:∀ j,j<(cs.drop (i*2)).length→(((w.alloc (.cells ROW E)).drew.setCells w.heap.size (i*2) vs).drew.cell? ⟨w.heap.size,(i+1)*2+j,none⟩).isSome=true:=fun j hj=>hs1 _ (by omega)
 refine⟨by rw[setCells_size];show w.heap.size≤(((w.alloc (.cells ROW E)).drew.setCells w.heap.size (i*2) vs)).heap.size;rw[setCells_size];show w.heap.size≤(w.alloc (.cells ROW E)).heap.size;omega,fun b0 hb0 _=>?_,hG,⟨_,_,rfl,.inr ⟨jB _,?_⟩,fun k hk=>⟨?_,?_⟩,fun j u hj=>?_⟩,?_,?_,?_⟩
 ·have hb:b0≠w.heap.size:=by omega
  have s0:(w.alloc (.cells ROW E)).drew.heap[b0]? = w.heap[b0]?:=((Below.refl _ w).alloc (jB _) (.cells ROW E)).block b0 hb0
  have s1:((w.alloc (.cells ROW E)).drew.setCells w.heap.size (i*2) vs).heap[b0]? = (w.alloc (.cells ROW E)).drew.heap[b0]?:=World.heap_setCells_other _ _ _ _ (by show b0<(w.alloc (.cells ROW E)).heap.size;omega) hb
  have s2:((((w.alloc (.cells ROW E)).drew.setCells w.heap.size (i*2) vs).drew).setCells w.heap.size ((i+1)*2) (cs.drop (i*2))).heap[b0]? = ((w.alloc (.cells ROW E)).drew.setCells w.heap.size (i*2) vs).heap[b0]?:=
   World.heap_setCells_other _ _ _ _ (by show b0<((w.alloc (.cells ROW E)).drew.setCells w.heap.size (i*2) vs).heap.size;rw[setCells_size];show b0<(w.alloc (.cells ROW E)).heap.size;omega) hb
  exact(s2.trans s1).trans s0
 ·rw[setCells_size];show w.heap.size<(((w.alloc (.cells ROW E)).drew.setCells w.heap.size (i*2) vs)).heap.size;rw[setCells_size];show w.heap.size<(w.alloc (.cells ROW E)).heap.size;omega
 ·rw[jJ];exact Yb1 _ _ _ _ h2 _ (hs1 k hk)
 ·rw[World.frozen?_setCells]
  show(((w.alloc (.cells ROW E)).drew.setCells w.heap.size (i*2) vs)).frozen? _=false;rw[World.frozen?_setCells];exact World.frozen?_alloc_at (w:=w) ROW E w.heap.size _ rfl
 ·rw[jJ]
  have hd2:∀ x,(((w.alloc (.cells ROW E)).drew.setCells w.heap.size (i*2) vs).drew).cell? x=((w.alloc (.cells ROW E)).drew.setCells w.heap.size (i*2) vs).cell? x:=fun _=>rfl
  by_cases hj1:j<i*2
  ·rw[kO,List.getElem?_append_left (by rw[kK];omega)] at hj
   rw[World.cell?_setCells_out _ _ _ _ _ (fun _ _=>.inl (by show j<(i+1)*2;omega)),hd2,World.cell?_setCells_out _ _ _ _ _ (fun _ _=>.inl hj1),hcell]
   exact hd j u hj
  ·by_cases hj2:j<i*2+2
   ·rw[kO,List.getElem?_append_right (by rw[kK];omega),List.getElem?_append_left (by rw[kK];omega),kK] at hj
    obtain⟨hlt,hv⟩:=List.getElem?_eq_some_iff.1 hj
    have:=World.cell?_setCells_in w.heap.size vs (i*2) _ h1 (j-i*2) (by omega)
    rw[show i*2+(j-i*2)=j by omega] at this
    rw[World.cell?_setCells_out _ _ _ _ _ (fun _ _=>.inl (by show j<(i+1)*2;omega)),hd2,this,←hv]
    congr 2
    omega
   ·rw[List.getElem?_append_right (by simp;omega)] at hj
    obtain⟨hlt,hv⟩:=List.getElem?_eq_some_iff.1 hj;simp only[jP,kK] at hlt hv
    have:=World.cell?_setCells_in w.heap.size (cs.drop (i*2)) ((i+1)*2) _ h2 (j-(i*2+2)) (by omega)
    rw[show(i+1)*2+(j-(i*2+2))=j by omega] at this
    rw[this,←hv]
    congr 2
    omega
 ·rw[World.os_setCells];show((w.alloc (.cells ROW E)).drew.setCells w.heap.size (i*2) vs).os=w.os;rw[World.os_setCells];rfl
 ·rw[Yaa];show((w.alloc (.cells ROW E)).drew.setCells w.heap.size (i*2) vs).tape=w.tape;rw[Yaa];rfl
 ·rw[World.output_setCells];show((w.alloc (.cells ROW E)).drew.setCells w.heap.size (i*2) vs).output=w.output;rw[World.output_setCells];rfl
theorem Yj3.heap {w W W':World} {A A':Option Addr} {c n' c':Nat} {ds:List Value} (h:Yj3 w W A c ds A' n' c') (hh:W'.heap=W.heap) (ho:W'.os=W.os) (ht:W'.tape=W.tape) (hp:W'.output=W.output):Yj3 w W' A c ds A' n' c':=by
 obtain⟨h1,h2,h3,⟨b',o',r1,r2,r3,r4⟩,h5,h6,h7⟩:=h
 have hc:∀ x,W'.cell? x=W.cell? x:=fun x=>by unfold World.cell?;rw[hh]
 have hf:∀ x,W'.frozen? x=W.frozen? x:=fun x=>by unfold World.frozen?;rw[hh]
 refine⟨by rw[hh];exact h1,fun b hb hn=>?_,h3,⟨b',o',r1,by rw[hh];exact r2,fun k hk=>by rw[hc,hf];exact r3 k hk,fun j u hj=>by rw[hc];exact r4 j u hj⟩,ho.trans h5,ht.trans h6,hp.trans h7⟩
 have:=h2 b hb hn;unfold Same at *;rw[hh];exact this
theorem Ywb {w:World} {b o:Nat} (h:(w.cell? ⟨b,o,none⟩).isSome=true):∃ t k,w.shape? b=some (t,k)∧k≠0:=by
 unfold World.cell? at h
 cases hb:w.heap[b]? with
 |none=>rw[hb] at h;cases h
 |some x=>
  rw[hb] at h
  cases x with
  |cells c t fr=>
   refine⟨t,c.size,by unfold World.shape?;rw[hb],fun e=>?_⟩
   have:c[o]? = none:=Array.getElem?_eq_none (by omega)
   simp[this] at h
  |_=>cases h
end
section
open Go.RowKit
def Ygy (es:Yj) (nm:List UInt8):Yj:=es.filter fun e=>!(e.1 == nm)
def Yd9 (f:List Ydd×List (List Int)×Unit) (dir:Int) (nm:List UInt8):Option (List Ydd×List (List Int)×Unit):=
 cond (inB dir f.1.length&&decide ((f.1.getD dir.toNat (0,0,0,[],[],())).2.2.2.2.1.length≤1048576)) (some (f.1.set dir.toNat (Yka (f.1.getD dir.toNat (0,0,0,[],[],())) (Ygy (f.1.getD dir.toNat (0,0,0,[],[],())).2.2.2.2.1 nm)),f.2.1,())) none
theorem Yjy {f:FuncId} (ht:Ybb P f)
  (h:∀ (w:World) (bd od b1 o1 n1 c1 dir c2:Nat) (A2:Option Addr) (nm:ByteArray) (es:Yj),w.cell? ⟨bd,od,none⟩=some (.slice (some ⟨b1,o1,none⟩) n1 c1)→dir<n1→n1≤1152921504606846976→bd<w.heap.size→b1<w.heap.size→bd≠b1→w.cell? ⟨b1,o1+dir*5+4,none⟩=some (.slice A2 es.length c2)→
   w.frozen? ⟨b1,o1+dir*5+4,none⟩=false→es.length≤c2→es.length≤1048576→(c2≠0→∃ b2 o2,A2=some ⟨b2,o2,none⟩∧b2<w.heap.size∧b2≠b1∧b2≠bd∧Room w b2 o2 (c2*2)∧Ydm w b2 o2 es)→
   Calls P f #[.pointer (some ⟨bd,od,none⟩),.int .i64 dir,.string nm] w fun e W=>e=.returned (.tuple #[])∧Yml w W b1 (o1+dir*5+4) A2 c2 (Ygy es nm.data.toList))
  (x x':Yd7.El) (dir:Int) (nm:List UInt8) (hx:Yd9 x dir nm=some x') (hlen:List.length x.1≤1152921504606846976) :
  Ycz P f [.mu,.sh,.sh] [.op (.cl .deep Yd7 x),.cl .sh (.int .i64) dir,.cl .sh .str nm] ⟨[],[.op (.cl .deep Yd7 x')]⟩ where
 there:=ht
 calls:=by
  intro Z C us hl hnt hP1 hP2 I;obtain⟨xs,ds,_⟩:=x;have hus:us.size=3:=hl;have hR:(Yh [.op (.cl .deep Yd7 (xs,ds,())),.cl .sh (.int .i64) dir,.cl .sh .str nm]).root 0=some ⟨.mem,.cl .deep Yd7 (xs,ds,())⟩:=rfl;obtain⟨bd,od,hL,m1,m2,m3,m4,m5,m6⟩:=I.str.mem 0 _ hR rfl;have hrep:Rep Z.w _ Yd7 .deep (xs,ds,()) (C.L 0) (C.F 0):=I.str.rep 0 _ hR;rw[hL] at hrep;have h0:Yb _ _ _ _ (.loc 0 []) ((⟨us,[]⟩:Act).tmps.getD 0 undef):=I.tm 0 (.loc 0 []) rfl;have h1:Yb _ _ _ _ (.cl .sh (.int .i64) dir) ((⟨us,[]⟩:Act).tmps.getD 1 undef):=I.tm 1 (.cl .sh (.int .i64) dir) rfl;have h2:Yb _ _ _ _ (.cl .sh .str nm) ((⟨us,[]⟩:Act).tmps.getD 2 undef):=I.tm 2 (.cl .sh .str nm) rfl;have e1:=h1.int;obtain⟨z,e2,hz⟩:=h2.str;obtain⟨R,b,off,q1,q2,q3⟩:=h0.leaf rfl;rw[hR] at q1;cases q1;rw[Yf,hL] at q2;cases q2
  have hus2:us=#[.pointer (some ⟨bd,od,none⟩),.int .i64 dir,.string z]:=by
   apply Array.ext (by simp[hus])
   intro i h4 h5
   have:i=0∨i=1∨i=2:=by omega
   rcases this with rfl | rfl | rfl
   ·have:us.getD 0 undef=.pointer (some ⟨bd,od,none⟩):=q3
    simpa [Array.getD,h4] using this
   ·have:us.getD 1 undef=.int .i64 dir:=e1
    simpa [Array.getD,h4] using this
   ·have:us.getD 2 undef=.string z:=e2
    simpa [Array.getD,h4] using this
  rw[hus2];simp only[Yd9] at hx
  cases hcond:(inB dir xs.length&&decide ((xs.getD dir.toNat (0,0,0,[],[],())).2.2.2.2.1.length≤1048576)) with
  |false=>rw[hcond] at hx;cases hx
  |true=>
   rw[hcond] at hx;cases hx;simp only[jC,jI,inB] at hcond;obtain⟨⟨d0,d1⟩,d2⟩:=hcond
   obtain⟨dn,rfl⟩:∃ dn:Nat,dir=dn:=⟨dir.toNat,by omega⟩
   have hdn:dn<xs.length:=by omega
   have hg:xs.getD (dn:Int).toNat (0,0,0,[],[],())=xs[dn]:=by simp[List.getD,hdn]
   rw[hg] at d2;have hFb:∀ x,C.F 0 x→x<Z.w.heap.size∧x≠bd:=fun x hx=>⟨(I.str.bnd 0 _ x hR hx).1,fun e=>m1 (e▸hx)⟩;obtain⟨b1,o1,c1,A2,c2,g1,g2,g3,g4,g5,g6,g7⟩:=Ypg hrep hdn
   have hfz:Z.w.frozen? ⟨b1,o1+dn*5+4,none⟩=false:=by
    have hx:(dn+1)*5≤c1*5:=jR _ (by omega)
    have:=(g3 (dn*5+4) (by omega)).2
    rw[←kH] at this;exact this
   have hEF:∀ b',Yb8 A2 c2 b'→C.F 0 b':=by
    rintro b' ⟨hc,o,e⟩;obtain⟨b2,o2,e2,hb,-⟩:=g7 hc;rw[e2] at e;cases e;exact hb
   refine(h Z.w bd od b1 o1 xs.length c1 dn c2 A2 z xs[dn].2.2.2.2.1 g1 hdn hlen m2 (hFb _ g2).1 (hFb _ g2).2.symm g5 hfz g6 d2 (fun hc=>?_)).mono ?_
   ·obtain⟨b2,o2,r1,r2,r3,r4,r5⟩:=g7 hc
    exact⟨b2,o2,r1,(hFb _ r2).1,r3,(hFb _ r2).2,r4,r5⟩
   ·rintro e W ⟨rfl,R⟩
    rw[hz] at R;have hbd:Same Z.w W bd:=R.keep bd m2 (hFb _ g2).2.symm fun hE=>m1 (hEF bd hE);obtain⟨A',c',r1,r2,r3⟩:=R.hdr;have hnew:=fun M=>Yro (M':=M) (c1:=c1) hrep hdn g1 g5 (fun b hb=>(hFb b hb).1) R.sz hbd (fun b hb n1 n2=>R.keep b (hFb b hb).1 n1 n2) R.c1 R.f1 r1 r2 r3
    have hg2:xs.set (dn:Int).toNat (Yka (xs.getD (dn:Int).toNat (0,0,0,[],[],())) (Ygy (xs.getD (dn:Int).toNat (0,0,0,[],[],())).2.2.2.2.1 nm))=xs.set dn (Yka xs[dn] (Ygy xs[dn].2.2.2.2.1 nm)):=by rw[hg];rfl
    refine⟨_,rfl,_,noB,_,noB,Ysq (d':=(xs.set dn (Yka xs[dn] (Ygy xs[dn].2.2.2.2.1 nm)),ds,())) I.str hR hL hnew (fun b hb=>hb) R.sz (fun b hb n1 n2=>R.keep b hb (fun e=>n1 (e▸g2)) fun hE=>n1 (hEF b hE)) (fun i _=>hbd.cell i) (fun i hi=>?_) (fun i=>hbd.frozen i) R.os R.tape R.output,?_,fun _ h=>h,rfl,rfl,rfl⟩
    ·rw[hbd.cell];exact(m3 i hi).1
    ·refine⟨⟨_,rfl,?_⟩,trivial⟩
     show _=_;rw[hg2];rfl
theorem Yt3 {f:FuncId} (ht:Ybb P f)
  (h:∀ (w:World) (bd od b1 o1 n1 c1 dir c2:Nat) (A2:Option Addr) (nm:ByteArray) (es:Yj),w.cell? ⟨bd,od,none⟩=some (.slice (some ⟨b1,o1,none⟩) n1 c1)→dir<n1→n1≤1152921504606846976→bd<w.heap.size→b1<w.heap.size→bd≠b1→w.cell? ⟨b1,o1+dir*5+4,none⟩=some (.slice A2 es.length c2)→
   w.frozen? ⟨b1,o1+dir*5+4,none⟩=false→es.length≤c2→es.length≤1048576→(c2≠0→∃ b2 o2,A2=some ⟨b2,o2,none⟩∧b2<w.heap.size∧b2≠b1∧b2≠bd∧Room w b2 o2 (c2*2)∧Ydm w b2 o2 es)→
   Calls P f #[.pointer (some ⟨bd,od,none⟩),.int .i64 dir,.string nm] w fun e W=>e=.returned (.tuple #[])∧Yml w W b1 (o1+dir*5+4) A2 c2 (Ygy es nm.data.toList)) :
  Ycm P f (Ycx [.mu,.sh,.sh] [.op (.cl .deep Yd7),.cl .sh (.int .i64),.cl .sh .str] (fun x=>cond (decide (List.length x.1.1≤1152921504606846976)) (Yd9 x.1 x.2.1 x.2.2.1) none) fun y=>⟨[],[.op (.cl .deep Yd7 y)]⟩):=by
 intro cs R k r he;simp only[Ycx] at he
 split at he
 ·rename_i x hx
  have e:=PT.Yc9 hx;subst e
  cases hd:decide (List.length x.1.1≤1152921504606846976) with
  |false=>rw[hd] at he;cases he
  |true=>
   rw[hd] at he;simp only[cond_true] at he
   cases hb:Yd9 x.1 x.2.1 x.2.2.1 with
   |none=>rw[hb] at he;cases he
   |some t=>rw[hb] at he;exact⟨_,he,Yjy ht h x.1 t _ _ hb (of_decide_eq_true hd)⟩
 ·cases he
end
section
open Go.RowKit
def Yr:Yj→List Value
 |[]=>[]
 |e::es=>.string ⟨e.1.toArray⟩::.int .i64 e.2.1::Yr es
theorem Yf1:∀ a b:Yj,Yr (a++b)=Yr a++Yr b
 |[],_=>rfl
 |e::a,b=>by simp[Yr,Yf1 a b]
theorem Yf2:∀ es:Yj,(Yr es).length=es.length*2
 |[]=>rfl
 |e::es=>by simp[Yr,Yf2 es];omega
theorem Yls:∀ es:Yj,∀ v∈Yr es,v.oneCell'=true
 |[],_,h=>nomatch h
 |e::es,v,h=>by
  simp only[Yr,List.mem_cons] at h;rcases h with rfl | rfl | h
  ·rfl
  ·rfl
  ·exact Yls es v h
theorem Yc5:∀ (es:Yj) (j:Nat) (hj:j<es.length),(Yr es)[j*2]? = some (.string ⟨es[j].1.toArray⟩)∧(Yr es)[j*2+1]? = some (.int .i64 es[j].2.1)
 |e::es,0,_=>⟨rfl,rfl⟩
 |e::es,j+1,hj=>by
  have h:=Yc5 es j (by simpa using hj)
  have e1:(j+1)*2=j*2+1+1:=by omega
  rw[e1];exact h
theorem Yde:∀ (es:Yj) (i:Nat),(Yr es).take (i*2)=Yr (es.take i)∧(Yr es).drop (i*2)=Yr (es.drop i)
 |[],i=>by simp[Yr]
 |e::es,0=>by simp[Yr]
 |e::es,i+1=>by
  have h:=Yde es i
  have e1:(i+1)*2=i*2+1+1:=by omega
  rw[e1];simp[Yr,h.1,h.2]
theorem Ys5 (es:Yj) (i:Nat) (nm:ByteArray) (a:Int):(Yr es).take (i*2)++[.string nm,.int .i64 a]++(Yr es).drop (i*2)=Yr (es.take i++(nm.data.toList,a,())::es.drop i):=by
 rw[(Yde es i).1,(Yde es i).2,Yf1];simp[Yr]
theorem Ys4 {W:World} {b o:Nat} {es:Yj} (h:∀ j u,(Yr es)[j]? = some u→W.cell? ⟨b,o+j,none⟩=some u):Ydm W b o es:=fun j hj=>
 ⟨h _ _ (Yc5 es j hj).1,h _ _ (Yc5 es j hj).2⟩
theorem Ydm.cells {w:World} {b o:Nat} {es:Yj} (h:Ydm w b o es) (j:Nat) (u:Value) (hj:(Yr es)[j]? = some u):w.cell? ⟨b,o+j,none⟩=some u:=by
 obtain⟨hlt,-⟩:=List.getElem?_eq_some_iff.1 hj;rw[Yf2] at hlt
 have hk:j / 2<es.length:=by omega
 have h1:=Yc5 es (j / 2) hk;have h2:=h (j / 2) hk;rcases Nat.mod_two_eq_zero_or_one j with e | e
 ·have e1:j=j / 2*2:=by omega
  rw[e1] at hj ⊢;rw[h1.1] at hj;cases hj;exact h2.1
 ·have e1:j=j / 2*2+1:=by omega
  rw[e1] at hj ⊢;rw[h1.2] at hj;cases hj;exact h2.2
theorem Yii (w:World) (x:Obj) {b:Nat} (hb:b<w.heap.size):Same w (w.alloc x) b:=((Below.refl _ w).alloc (jB _) x).block b hb
theorem Yun (w:World) (o:Obj):(w.alloc o).heap[w.heap.size]? = some o:=by unfold World.alloc;show(w.heap.push o)[w.heap.size]? = some o;rw[Array.getElem?_push_size]
theorem Yml.ins {w W:World} {b1 k c2 n c':Nat} {A2 A':Option Addr} {es':Yj} {x:Obj} {u:Value} (hn:n=es'.length) (h1:b1<w.heap.size) (hne:¬ Yb8 A2 c2 b1)
  (R:Yj3 (w.alloc x) W A2 c2 (Yr es') A' n c') (hc:W.cell? ⟨b1,k,none⟩=some u):Yml w (W.setCell ⟨b1,k,none⟩ (.slice A' n c')) b1 k A2 c2 es':=by
 subst hn
 have hsz:(w.alloc x).heap.size=w.heap.size+1:=by rw[World.size_alloc]
 have hS:∀ b,b<w.heap.size→¬ Yb8 A2 c2 b→Same w W b:=fun b hb n1=>(Yii w x hb).trans (R.keep b (by omega) n1)
 have hset:∀ b,b≠b1→Same W (W.setCell ⟨b1,k,none⟩ (.slice A' es'.length c')) b:=fun b hb=>Y9 b1 hb [_] k W;obtain⟨b',o',r1,r2,r3,r4⟩:=R.row
 have hb':b'≠b1:=fun e=>by
  subst e;rcases r2 with r2 | r2
  ·exact hne r2
  ·omega
 refine⟨by rw[World.size_setCell];have:=R.sz;omega,fun b hb n1 n2=>(hS b hb n2).trans (hset b n1),fun i hi=>?_,fun i=>?_,⟨A',c',?_,R.le,fun _=>⟨b',o',r1,?_,fun j hj=>?_,Ys4 fun j v hj=>?_⟩⟩,?_,?_,?_⟩
 ·rw[World.cell?_setCell_other (h:=fun e=>hi (by cases e;rfl))]
  exact(hS b1 h1 hne).cell i
 ·rw[World.frozen?_setCell];exact(hS b1 h1 hne).frozen i
 ·exact World.cell?_setCell_same (h:=hc) ..
 ·rw[World.size_setCell]
  exact r2.imp id fun h=>⟨by omega,h.2⟩
 ·rw[(hset b' hb').cell,(hset b' hb').frozen];exact r3 j hj
 ·rw[(hset b' hb').cell];exact r4 j v hj
 ·exact R.os
 ·exact R.tape
 ·exact R.output
structure Ysx (w W:World) (A:Option Addr) (c:Nat) (es':Yj):Prop where
 sz:w.heap.size≤W.heap.size
 keep:∀ b,b<w.heap.size→¬ Yb8 A c b→Same w W b
 le:es'.length≤c
 row:c≠0→∃ b o,A=some ⟨b,o,none⟩∧Room W b o (c*2)∧Ydm W b o es'
 os:W.os=w.os
 tape:W.tape=w.tape
 output:W.output=w.output
structure Yj2 (w W:World) (b o c:Nat) (es:Yj) (j:Nat) (ks:Yj):Prop where
 sz:w.heap.size≤W.heap.size
 keep:∀ b',b'<w.heap.size→b'≠b→Same w W b'
 room:Room W b o (c*2)
 low:Ydm W b o ks
 high:∀ k (hk:k<es.length),j≤k→W.cell? ⟨b,o+k*2,none⟩=some (.string ⟨es[k].1.toArray⟩)∧W.cell? ⟨b,o+k*2+1,none⟩=some (.int .i64 es[k].2.1)
 os:W.os=w.os
 tape:W.tape=w.tape
 output:W.output=w.output
theorem Ydm.take {w:World} {b o:Nat} {es:Yj} (h:Ydm w b o es) (i:Nat):Ydm w b o (es.take i):=fun j hj=>by
 have hj':j<es.length:=by rw[kK] at hj;omega
 have:=h j hj';rw[List.getElem_take];exact this
theorem Yj2.start {w W:World} {b o c k:Nat} {es:Yj} (hB:Below w.heap.size w W) (hb:b<w.heap.size) (hr:Room w b o (c*2)) (he:Ydm w b o es):Yj2 w W b o c es (k+1) (es.take k) where
 sz:=hB.size
 keep:=fun b' hb' _=>hB.block b' hb'
 room:=fun i hi=>by rw[show W.cell? ⟨b,o+i,none⟩=_ from hB.cell hb,show W.frozen? ⟨b,o+i,none⟩=_ from hB.frozen hb];exact hr i hi
 low:=fun j hj=>by
  have h:=he.take k j hj;exact⟨(hB.cell (p:=⟨b,o+j*2,none⟩) hb).trans h.1,(hB.cell (p:=⟨b,o+j*2+1,none⟩) hb).trans h.2⟩
 high:=fun j hj _=>⟨(hB.cell (p:=⟨b,o+j*2,none⟩) hb).trans (he j hj).1,(hB.cell (p:=⟨b,o+j*2+1,none⟩) hb).trans (he j hj).2⟩
 os:=hB.os
 tape:=hB.tape
 output:=hB.output
theorem Yj2.on {w W W':World} {b o c j j':Nat} {es ks:Yj} (h:Yj2 w W b o c es j ks) (hB:Below W.heap.size W W') (hb:b<W.heap.size) (hj:j≤j'):Yj2 w W' b o c es j' ks where
 sz:=jU h.sz hB.size
 keep:=fun b' hb' hn=>(h.keep b' hb' hn).trans (hB.block b' (jX hb' h.sz))
 room:=fun i hi=>by rw[show W'.cell? ⟨b,o+i,none⟩=_ from hB.cell hb,show W'.frozen? ⟨b,o+i,none⟩=_ from hB.frozen hb];exact h.room i hi
 low:=fun j hj=>⟨(hB.cell (p:=⟨b,o+j*2,none⟩) hb).trans (h.low j hj).1,(hB.cell (p:=⟨b,o+j*2+1,none⟩) hb).trans (h.low j hj).2⟩
 high:=fun k hk hjk=>⟨(hB.cell (p:=⟨b,o+k*2,none⟩) hb).trans (h.high k hk (jU hj hjk)).1,(hB.cell (p:=⟨b,o+k*2+1,none⟩) hb).trans (h.high k hk (jU hj hjk)).2⟩
 os:=hB.os.trans h.os
 tape:=hB.tape.trans h.tape
 output:=hB.output.trans h.output
theorem Yj2.cells {w W:World} {b o c j m:Nat} {es ks ks':Yj} {vs:List Value} (h:Yj2 w W b o c es j ks) (hm:o+ks.length*2=m) (hin:∀ i,i<vs.length→ks.length*2+i<c*2)
  (hhi:∀ k,j+1≤k→ks.length*2+vs.length≤k*2∨es.length≤k) (hks:ks'=ks∨∃ e:List UInt8×Int×Unit,ks'=ks++[e]∧vs=[.string ⟨e.1.toArray⟩,.int .i64 e.2.1]):Yj2 w (W.setCells b m vs) b o c es (j+1) ks':=by
 subst hm
 have hc:∀ i,i<vs.length→(W.cell? ⟨b,o+ks.length*2+i,none⟩).isSome=true:=fun i hi=>by
  have:=(h.room _ (hin i hi)).1
  rwa [←kH] at this
 have hlow:Ydm (W.setCells b (o+ks.length*2) vs) b o ks:=fun i hi=>by
  rw[World.cell?_setCells_out b vs _ _ _ (fun _ _=>.inl (by show o+i*2<o+ks.length*2;omega)),World.cell?_setCells_out b vs _ _ _ (fun _ _=>.inl (by show o+i*2+1<o+ks.length*2;omega))]
  exact h.low i hi
 refine⟨by rw[setCells_size];exact h.sz,fun b' hb' hn=>(h.keep b' hb' hn).trans (Y9 b hn _ _ _),fun i hi=>⟨Yb1 b vs _ _ hc _ (h.room i hi).1,by rw[World.frozen?_setCells];exact(h.room i hi).2⟩,?_,fun k hk hjk=>?_,by rw[World.os_setCells];exact h.os,by rw[Yaa];exact h.tape,by rw[World.output_setCells];exact h.output⟩
 ·rcases hks with rfl | ⟨e,rfl,rfl⟩
  ·exact hlow
  ·intro i hi
   by_cases e1:i<ks.length
   ·have:=hlow i e1
    rw[kW e1];exact this
   ·have e2:i=ks.length:=by simp at hi;omega
    subst e2
    have q0:=World.cell?_setCells_in b [.string ⟨e.1.toArray⟩,.int .i64 e.2.1] (o+ks.length*2) W hc 0 (by simp)
    have q1:=World.cell?_setCells_in b [.string ⟨e.1.toArray⟩,.int .i64 e.2.1] (o+ks.length*2) W hc 1 (by simp)
    simp only[kX (jB _),Nat.sub_self,List.getElem_cons_zero];exact⟨q0,q1⟩
 ·rcases hhi k hjk with e | e
  ·rw[World.cell?_setCells_out b vs _ _ _ (fun _ _=>.inr (by show o+ks.length*2+vs.length≤o+k*2;omega)),World.cell?_setCells_out b vs _ _ _ (fun _ _=>.inr (by show o+ks.length*2+vs.length≤o+k*2+1;omega))]
   exact h.high k hk (by omega)
  ·omega
theorem Yj2.done {w W:World} {b o c j:Nat} {es ks:Yj} (h:Yj2 w W b o c es j ks) (hl:ks.length≤c) (hc:c≠0):Ysx w W (some ⟨b,o,none⟩) c ks where
 sz:=h.sz
 keep:=fun b' hb' hn=>h.keep b' hb' fun e=>hn ⟨hc,o,by rw[e]⟩
 le:=hl
 row:=fun _=>⟨b,o,rfl,h.room,h.low⟩
 os:=h.os
 tape:=h.tape
 output:=h.output
theorem Ysx.same {w W:World} {A:Option Addr} {c:Nat} {es:Yj} (hB:Below w.heap.size w W) (hl:es.length≤c) (h:c≠0→∃ b o,A=some ⟨b,o,none⟩∧b<w.heap.size∧Room w b o (c*2)∧Ydm w b o es):Ysx w W A c es where
 sz:=hB.size
 keep:=fun b' hb' _=>hB.block b' hb'
 le:=hl
 row:=fun hc=>by
  obtain⟨b,o,e,hb,hr,he⟩:=h hc
  exact⟨b,o,e,fun i hi=>by rw[show W.cell? ⟨b,o+i,none⟩=_ from hB.cell hb,show W.frozen? ⟨b,o+i,none⟩=_ from hB.frozen hb];exact hr i hi,fun j hj=>⟨(hB.cell (p:=⟨b,o+j*2,none⟩) hb).trans (he j hj).1,(hB.cell (p:=⟨b,o+j*2+1,none⟩) hb).trans (he j hj).2⟩⟩
 os:=hB.os
 tape:=hB.tape
 output:=hB.output
theorem Yml.del {w W:World} {b1 k c2 n:Nat} {A2:Option Addr} {es':Yj} {x:Obj} {u:Value} (hn:n=es'.length) (h1:b1<w.heap.size) (hne:¬ Yb8 A2 c2 b1)
  (R:Ysx (w.alloc x) W A2 c2 es') (hc:W.cell? ⟨b1,k,none⟩=some u):Yml w (W.setCell ⟨b1,k,none⟩ (.slice A2 n c2)) b1 k A2 c2 es':=by
 subst hn
 have hsz:(w.alloc x).heap.size=w.heap.size+1:=by rw[World.size_alloc]
 have hS:∀ b,b<w.heap.size→¬ Yb8 A2 c2 b→Same w W b:=fun b hb n1=>(Yii w x hb).trans (R.keep b (by omega) n1)
 have hset:∀ b,b≠b1→Same W (W.setCell ⟨b1,k,none⟩ (.slice A2 es'.length c2)) b:=fun b hb=>Y9 b1 hb [_] k W
 refine⟨by rw[World.size_setCell];have:=R.sz;omega,fun b hb n1 n2=>(hS b hb n2).trans (hset b n1),fun i hi=>?_,fun i=>?_,⟨A2,c2,World.cell?_setCell_same (h:=hc) ..,R.le,fun hc2=>?_⟩,R.os,R.tape,R.output⟩
 ·rw[World.cell?_setCell_other (h:=fun e=>hi (by cases e;rfl))]
  exact(hS b1 h1 hne).cell i
 ·rw[World.frozen?_setCell];exact(hS b1 h1 hne).frozen i
 ·obtain⟨b',o',r1,r3,r4⟩:=R.row hc2
  have hE:Yb8 A2 c2 b':=⟨hc2,o',r1⟩;have hb':b'≠b1:=fun e=>hne (e▸hE);refine⟨b',o',r1,.inl hE,fun j hj=>?_,fun j hj=>?_⟩
  ·rw[(hset b' hb').cell,(hset b' hb').frozen];exact r3 j hj
  ·rw[(hset b' hb').cell,(hset b' hb').cell];exact r4 j hj
theorem Yvh {es:Yj} {nm:List UInt8} {j:Nat} (hj:j<es.length):Ygy (es.take (j+1)) nm=Ygy (es.take j) nm++cond (es[j].1 == nm) [] [es[j]]:=by
 rw[List.take_succ_eq_append_getElem hj];unfold Ygy;rw[List.filter_append]
 congr 1
 cases h:es[j].1 == nm<;>simp[List.filter_cons,h]
theorem Yvt {es:Yj} {nm:List UInt8} {k:Nat} (hk:k≤es.length) (h:∀ j (hj:j<es.length),j<k→(es[j].1 == nm)=false):Ygy (es.take k) nm=es.take k:=by
 unfold Ygy;rw[List.filter_eq_self];intro e he;obtain⟨j,hj,rfl⟩:=List.getElem_of_mem he;rw[kK] at hj
 rw[List.getElem_take,h j (by omega) (by omega)]
 rfl
theorem Ywh (es:Yj) (nm:List UInt8):(Ygy es nm).length≤es.length:=List.length_filter_le _ _
def Yxa (es:Yj) (nm:List UInt8) (j:Nat) (ks:Yj):Prop:=Ygy (es.take j) nm=ks
end
section
open Go.RowKit
def Out.frz:Out→Out
 |⟨[.cl _ t x],os⟩=>⟨[.cl .sh t x],os⟩
 |⟨[.cl _ t x,.cl _ u y],os⟩=>⟨[.cl .sh t x,.cl .sh u y],os⟩
 |o=>o
def FS.frz (fs:FS):FS:=⟨fs.modes,fun cs R k=>fs.F cs R fun out=>k out.frz⟩
theorem Ycz.frz {f:FuncId} {ms:List Md} {cs:List TV} {o:Ow} {t:Ty} {x:t.El} {os:List TV} (h:Ycz P f ms cs ⟨[.cl o t x],os⟩):Ycz P f ms cs ⟨[.cl .sh t x],os⟩ where
 there:=h.there
 calls:=by
  intro Z C us h1 h2 h3 h4 I;refine(h.calls Z C us h1 h2 h3 h4 I).mono ?_;rintro e w' ⟨v,rfl,C',G,ρ,Fr,hs,ho,hF,hr,hs1,hs2⟩;obtain⟨r1,r2,r3⟩:Ya w' (Mt Z C' ρ G) (Yi w' (Mt Z C' ρ G) C'.L ρ) (.cl o t x) (.reg v.cells.toList 0) Fr∧v.cells.size=(TV.cl o t x).size∧((TV.cl o t x).isAgg=true↔∃ cs,v=.agg cs):=hr;obtain⟨w1,hm⟩:=hs.weak (ρ':=ρ) (G':=noB) (fun _ _ h=>h) (fun _ h=>h.elim);have gs:=hs.Yci (ρ':=ρ) (G':=noB) hm Dd.none (fun _ _ _ h _=>h) (fun _ _ _ h _=>h);refine⟨v,rfl,C',noB,ρ,noB,w1.lf (fun v u hl=>Yi.go gs (Yz.Ypn v) hl),ho,fun _ h=>h,⟨?_,r2,r3⟩,rfl,hs2⟩;show Rep w' (Mt Z C' ρ noB) t .sh x _ noB;refine Rep.share (r1:Rep w' _ t o x _ Fr) hm (fun b hb=>⟨?_,(hs.gbnd b (hF b hb)).1⟩);rintro(⟨r,R,hR,hT⟩ | hh | hh)
  ·exact hs.gdis r R hR b hT (hF b hb)
  ·exact hh
  ·exact(hs.gbnd b (hF b hb)).2.2.1 hh
theorem Ycz.Ywv {f:FuncId} {ms:List Md} {cs:List TV} {o p:Ow} {t u:Ty} {x:t.El} {y:u.El} {os:List TV} (h:Ycz P f ms cs ⟨[.cl o t x,.cl p u y],os⟩):Ycz P f ms cs ⟨[.cl .sh t x,.cl .sh u y],os⟩ where
 there:=h.there
 calls:=by
  intro Z C us h1 h2 h3 h4 I;refine(h.calls Z C us h1 h2 h3 h4 I).mono ?_;rintro e w' ⟨v,rfl,C',G,ρ,Fr,hs,ho,hF,hr,hs1,hs2⟩;obtain⟨vs,rfl,hr⟩:=hr;obtain⟨w1,hm⟩:=hs.weak (ρ':=ρ) (G':=noB) (fun _ _ h=>h) (fun _ h=>h.elim);have gs:=hs.Yci (ρ':=ρ) (G':=noB) hm Dd.none (fun _ _ _ h _=>h) (fun _ _ _ h _=>h)
  have one:∀ {o:Ow} {t:Ty} {x:t.El} {v:Value} {F:Yd},Ye F G→Ygv w' (Mt Z C' ρ G) C'.L ρ (.cl o t x) v F→Ygv w' (Mt Z C' ρ noB) C'.L ρ (.cl .sh t x) v noB:=by
   rintro o t x v F hFG ⟨r1,r2,r3⟩;refine⟨?_,r2,r3⟩;show Rep w' (Mt Z C' ρ noB) t .sh x _ noB;refine Rep.share (r1:Rep w' _ t o x _ F) hm (fun b hb=>⟨?_,(hs.gbnd b (hFG b hb)).1⟩);rintro(⟨r,R,hR,hT⟩ | hh | hh)
   ·exact hs.gdis r R hR b hT (hFG b hb)
   ·exact hh
   ·exact(hs.gbnd b (hFG b hb)).2.2.1 hh
  refine⟨.tuple vs,rfl,C',noB,ρ,noB,w1.lf (fun v u hl=>Yi.go gs (Yz.Ypn v) hl),ho,fun _ h=>h,⟨vs,rfl,?_⟩,rfl,hs2⟩
  match vs.toList,hr with
  |[v1,v2],hr=>
   obtain⟨F1,F2,a1,⟨F3,F4,a2,_,b1,b2,_⟩,c1,c2,_⟩:=hr
   exact⟨noB,noB,one (fun b hb=>hF b (c1 b hb)) a1,⟨noB,noB,one (fun b hb=>hF b (c2 b (b1 b hb))) a2,trivial,fun _ h=>h,fun _ h=>h,fun _ h=>h.elim⟩,fun _ h=>h,fun _ h=>h,fun _ h=>h.elim⟩
  |[],hr=>exact hr.elim
  |[v1],hr=>obtain⟨_,_,_,h,_⟩:=hr;exact h.elim
  |v1::v2::v3::l,hr=>obtain⟨_,_,_,⟨_,_,_,h,_⟩,_⟩:=hr;exact h.elim
theorem Ycm.frz {f:FuncId} {fs:FS} (h:Ycm P f fs):Ycm P f fs.frz:=by
 intro cs R k r he;obtain⟨out,h1,h2⟩:=h cs R (fun out=>k out.frz) r he;refine⟨out.frz,h1,?_⟩;show Ycz P f fs.modes cs out.frz;obtain⟨res,os⟩:=out
 match res,h2 with
 |[.cl o t x],h2=>exact h2.frz
 |[],h2=>exact h2
 |[.pr a b],h2=>exact h2
 |[.loc a b],h2=>exact h2
 |[.seg a b],h2=>exact h2
 |[.sub a b c d],h2=>exact h2
 |[.pt a b],h2=>exact h2
 |[.clo a b],h2=>exact h2
 |[.nl],h2=>exact h2
 |[.dead a],h2=>exact h2
 |[.rw a b c d e],h2=>exact h2
 |[.tup a],h2=>exact h2
 |[.op a],h2=>exact h2
 |[.gd a b c],h2=>exact h2
 |[.kb a],h2=>exact h2
 |[a,b],h2=>
  cases a with
  |cl o t x=>
   cases b with
   |cl p u y=>exact h2.Ywv
   |_=>exact h2
  |_=>exact h2
 |a::b::c::l,h2=>cases a<;>first | exact h2 | (cases b<;>exact h2)
end
end Mf
