import Derived.Test.YtmkdncckdmanlaaGreatDoorMf1
set_option linter.unusedVariables false
set_option linter.unusedSimpArgs false
set_option autoImplicit true
set_option relaxedAutoImplicit true
namespace Mf
open Go
variable {C C1:Cx} {D:Dd} {G:Yd} {K K':Yp} {P:Program} {S:St} {Z:W0} {g:Gd} {hn:Hint} {tb:Tb} {w w':World}
section
variable {P:Program} {tb:Tb} {g:Gd} {o:Oper}
def Yq1 (a:Act) (x:Option Operand) (l:Option Int):Prop:=match x,l with
 |none,none=>True
 |some x,some n=>∃ k,a.eval x=.int k n
 |_,_=>False
theorem Ygf (I:Inv Z S C a w) (hg:Yax a g) (h:(Yjl g x).run S=some l):Yq1 a x l:=by
 cases x with
 |none=>simp only[Yjl,RD.run] at h;cases h;trivial
 |some x=>
  simp only[Yjl] at h;replace h:=RD.bind_some h;obtain⟨v,h1,h⟩:=h;have hv:=Yg I hg h1
  cases v with
  |cl o t n=>
   cases t with
   |int k=>cases h;exact⟨k,(hv:Yb _ _ _ _ _ _).int⟩
   |_=>cases h
  |_=>cases h
theorem run_sliceBound {k:IntKind} {n:Int} {y:Nat} {c:BoundsCode} {w:World} (h0:0≤n) (h1:n≤y):(Instr.sliceBound (.int k n) y c).run P w=.ok n.toNat w:=by
 simp[Instr.sliceBound,asIntOf,h0,h1]
theorem Yaz {a:Act} {lo hi:Option Operand} {l h:Option Int} {isS:Bool} {len cap l' h':Nat} {w:World} (hl:Yq1 a lo l) (hh:Yq1 a hi h) (hs:slb l h len=(true,l',h')) (hc:len≤cap) :
  (Instr.sliceBounds isS len cap (lo.map a.eval) (hi.map a.eval) none).run P w=.ok (l',h',cap) w∧l'≤h'∧h'≤len:=by
 cases lo with
 |none=>
  cases l with
  |some l=>exact hl.elim
  |none=>
   cases hi with
   |none=>
    cases h with
    |some h=>exact hh.elim
    |none=>simp only[slb,jV,true_and] at hs;obtain⟨rfl,rfl⟩:=hs;exact⟨by simp[Instr.sliceBounds],by omega,by omega⟩
   |some y=>
    cases h with
    |none=>exact hh.elim
    |some n=>
     obtain⟨k,e⟩:=hh;simp only[slb,jV,jC,jI] at hs;obtain⟨⟨q1,q2⟩,rfl,rfl⟩:=hs
     refine⟨?_,by omega,by omega⟩
     simp[Instr.sliceBounds,e,run_sliceBound q1 (show n≤cap by omega)]
 |some x=>
  cases l with
  |none=>exact hl.elim
  |some m=>
   obtain⟨k',e'⟩:=hl
   cases hi with
   |none=>
    cases h with
    |some h=>exact hh.elim
    |none=>
     simp only[slb,jV,jC,jI] at hs;obtain⟨⟨q1,q2⟩,rfl,rfl⟩:=hs
     refine⟨?_,by omega,by omega⟩
     simp[Instr.sliceBounds,e',run_sliceBound q1 q2]
   |some y=>
    cases h with
    |none=>exact hh.elim
    |some n=>
     obtain⟨k,e⟩:=hh;simp only[slb,jV,jC,jI] at hs;obtain⟨⟨⟨q1,q2⟩,q3,q4⟩,rfl,rfl⟩:=hs
     refine⟨?_,by omega,by omega⟩
     simp[Instr.sliceBounds,e,e',run_sliceBound q1 (show n≤cap by omega),run_sliceBound q3 (show m≤(n.toNat:Int) by omega)]
theorem Yd5 (hd:P.underlying t=some (.slice e)) (hj:P.info? e=some j)
  (hl:Yq1 a lo l) (hh:Yq1 a hi h) (hs:slb l h len=(true,l',h')) (hc:len≤cap) :
  (Instr.sliceAt t (.slice A len cap) (lo.map a.eval) (hi.map a.eval) none).run P w=.ok (.slice (if cap=l' then A else A.map (·.add (l'*j.size))) (h'-l') (cap-l')) w:=by
 obtain⟨q,_,_⟩:=Yaz (P:=P) (isS:=true) (w:=w) hl hh hs hc;simp only[Instr.sliceAt,Instr.slice,Sem.run_bind,run_underlying hd,Result.andThen_ok,q,Y3 hj];rfl
theorem Ysi {t:TypeId} {x:Operand} {lo hi mx:Option Operand} (ho:o.op=.slice t x lo hi mx):PvS P tb g o:=by
 intro Z S C a w ht I hg b v h hb;simp only[pv,ho] at h;replace h:=RD.bind_some h;obtain⟨vx,h1,h⟩:=h;replace h:=RD.bind_some h;obtain⟨ti,h2,h⟩:=h;have hx:=Yg I hg h1;obtain⟨⟨d,hd,hdk,_⟩,_⟩:=ht t ti (Yq h2)
 have ex:∀ u,(Instr.sliceAt t (a.eval x) (lo.map a.eval) (hi.map a.eval) (mx.map a.eval)).run P w=.ok u w→(execOp a.eval o).run P w=.ok (.value u) w:=by
  intro u hu;simp[execOp,ho,hu]
 split at h
 ·
  rename_i k1
  split at h
  ·rename_i k2
   split at h
   ·rename_i e hid
    rw[hid] at hdk;obtain⟨rfl,te,j,q1,q2,q3,_⟩:=hdk;replace h:=RD.bind_some h;obtain⟨n,h3,h⟩:=h
    have hns:∀ oo s,vx≠.cl oo .str s:=by
     rintro oo s rfl;cases h
    obtain⟨A,c,e1⟩:=Yem I hx h3 hns
    have hv:v=.nl:=by
     split at h
     ·cases h
     ·cases h;rfl
    subst hv;rw[e1] at ex
    refine⟨.slice (if 0=0 then A else A.map (·.add (0*j.size))) 0 0,ex _ ?_,.inr ?_⟩
    ·simp[Instr.sliceAt,Instr.slice,Instr.sliceBounds,run_underlying hd,Act.eval,run_sliceBound (P:=P) (k:=k1) (n:=0) (y:=c) (c:=.slice3Acap) (w:=w) (by omega) (by omega),
      run_sliceBound (P:=P) (k:=k2) (n:=0) (y:=0) (c:=.slice3B) (w:=w) (by omega) (by omega),Y3 q2]
    ·exact Yb.Yah (v:=.nl) ⟨_,rfl⟩
   ·cases h
  ·cases h
 ·cases h
 ·replace h:=RD.bind_some h;obtain⟨l,h3,h⟩:=h
  replace h:=RD.bind_some h;obtain⟨hh,h4,h⟩:=h;have hl:=Ygf I hg h3;have hhi:=Ygf I hg h4;simp only[Option.map_none] at ex
  split at h
  ·have hid:ti.d=.str:=by assumption
   rw[hid] at hdk;obtain⟨rfl,_⟩:=hdk;rename_i oo s _ _ _;obtain⟨z,e1,e2⟩:=(hx:Yb _ _ _ _ _ _).str;rw[e1] at ex
   have hz:z.size=s.length:=by rw[←e2];simp
   generalize hs:slb l hh s.length=r at h;obtain⟨b',l',h'⟩:=r;cases h;have hb':=Yae hb;subst hb';rw[←hz] at hs;obtain⟨q,q1,q2⟩:=Yaz (P:=P) (isS:=false) (w:=w) hl hhi hs (jB _);refine⟨.string (z.extract l' h'),ex _ ?_,.inr ?_⟩
   ·simp only[Instr.sliceAt,Instr.slice,Sem.run_bind,run_underlying hd,Result.andThen_ok,Option.isSome_none,Bool.false_eq_true,if_false,q];rfl
   ·have:(s.take h').drop l'=(z.extract l' h').data.toList:=by
     rw[ByteArray.data_extract,Array.toList_extract,List.extract_eq_take_drop,e2,List.drop_take]
    rw[this];exact .Ym9 _ _
  ·have hid:∃ e,ti.d=.sl e:=⟨_,by assumption⟩
   obtain⟨ee,hid⟩:=hid;rw[hid] at hdk;obtain⟨rfl,te,j,q1,q2,q3,_⟩:=hdk
   split at h
   ·rename_i e xs _ _ _ _ _ _
    have hty:Ty.sl e=ti.ty:=by assumption
    obtain rfl:e=te:=by rw[q1] at hty;exact Ty.sl.inj hty
    generalize hs:slb l hh xs.length=r at h;obtain⟨b',l',h'⟩:=r;cases h;have hb':=Yae hb;subst hb';obtain⟨A,c,e1,e2,e3⟩:=Yf0 (o:=.sh) I hx rfl;rw[e1] at ex;obtain⟨_,r1,r2⟩:=Yaz (P:=P) (isS:=true) (w:=w) hl hhi hs e2
    have hlen:((xs.take h').drop l').length=h'-l':=by simp;omega
    refine⟨_,ex _ (Yd5 hd q2 hl hhi hs e2),.inr (Yb.v (Yb.mk1 ?_ rfl rfl rfl (by rintro⟨_,h⟩;cases h)) rfl)⟩
    refine⟨_,c-l',by rw[hlen];rfl,by rw[hlen];omega,fun hne=>?_⟩
    have hpos:0<h'-l':=by rw[←hlen];exact List.length_pos_iff.2 hne
    obtain⟨b0,off,rfl,f1,f2⟩:=e3 (by intro h0;subst h0;simp at r2;omega)
    obtain⟨f3,f4⟩:=f1 rfl
    refine⟨b0,off+l'*e.size,by rw[jM (by omega)];simp[Addr.add_mid,q3],f3,f4,fun i hi=>?_⟩
    have hi':i<h'-l':=by rw[←hlen];exact hi
    obtain⟨F,o',g1,g2⟩:=f2 (l'+i) (by omega)
    have:=g2 rfl;subst this;simp only[List.getElem_drop,List.getElem_take]
    rw[show off+l'*e.size+i*e.size=off+(l'+i)*e.size by rw[jY];omega]
    exact Rep.Yh6 g1 (fun _ _=>rfl)
   ·cases h
  ·have hid:∃ e,ti.d=.sl e:=⟨_,by assumption⟩
   obtain⟨ee,hid⟩:=hid;rw[hid] at hdk;obtain⟨rfl,te,j,q1,q2,q3,_⟩:=hdk;replace h:=RD.bind_some h;obtain⟨⟨e,xs,oo⟩,h5,h⟩:=h;simp only at h
   split at h
   ·rename_i hty _
    rw[q1] at hty;cases hty;generalize hs:slb l hh xs.length=r at h;obtain⟨b',l',h'⟩:=r;cases h;have hb':=Yae hb;subst hb';obtain⟨A,c,e1,e2,e3⟩:=Yf0 I hx h5;rw[e1] at ex;obtain⟨_,r1,r2⟩:=Yaz (P:=P) (isS:=true) (w:=w) hl hhi hs e2;rcases Ybz h5 with ⟨_,hh,_⟩ | ⟨r,p,R,hh,hR,hget⟩ | ⟨_,_,_,_,_,_,hh,_⟩
    ·cases hh
    ·cases hh
     obtain⟨s,A',c',F,k1,k2,k3,k4,k5⟩:=Yda I ((hx:Yb _ _ _ _ _ _).leaf rfl) hR hget;rw[e1] at k3;cases k3;refine⟨_,ex _ (Yd5 hd q2 hl hhi hs e2),.inr ?_⟩
     refine Yb.Yah (v:=.sub _ _ l' (h'-l')) ⟨R,s,oo,_,xs,A,_,c,_,c-l',hR,k1,Yee hget,k2,rfl,by omega,by omega,by omega,fun hc=>?_⟩
     rw[jM (by omega),q3]
    ·cases hh
   ·cases h
  ·have hid:∃ e,ti.d=.sl e:=⟨_,by assumption⟩
   obtain⟨ee,hid⟩:=hid;rw[hid] at hdk;obtain⟨rfl,te,j,q1,q2,q3,_⟩:=hdk;replace h:=RD.bind_some h;obtain⟨⟨e,xs,oo⟩,h5,h⟩:=h;simp only at h
   split at h
   ·rename_i r p lo' n _ _ _ _ hty _
    rw[q1] at hty;cases hty;generalize hs:slb l hh n=r' at h;obtain⟨b',l',h'⟩:=r';cases h;have hb':=Yae hb;subst hb';obtain⟨R,s,o2,e',ys,A,len,c,A',c',p1,p2,p3,p4,p5,p6,p7,p8,p9⟩:=(hx:Yb _ _ _ _ _ _).leaf rfl;rw[p5] at ex;obtain⟨_,r1,r2⟩:=Yaz (P:=P) (isS:=true) (w:=w) hl hhi hs p7
    have hte:e'=te:=by
     rcases Ybz h5 with ⟨_,hh,_⟩ | ⟨_,_,_,hh,_⟩ | ⟨_,_,_,_,R',ys',hh,hR',hg',_⟩
     ·cases hh
     ·cases hh
     ·cases hh;rw[hR'] at p1;cases p1;rw[Yee hg'] at p3;cases p3;rfl
    subst hte;refine⟨_,ex _ (Yd5 hd q2 hl hhi hs p7),.inr ?_⟩
    refine Yb.Yah (v:=.sub r p (lo'+l') (h'-l')) ⟨R,s,o2,e',ys,A,len,c,_,c'-l',p1,p2,p3,p4,rfl,by omega,by omega,by omega,fun hc=>?_⟩
    rw[jM (by omega),q3,p9 (by omega)]
    cases A with
    |none=>rfl
    |some ad=>
     simp only[jT,jD];unfold Addr.add
     by_cases z1:lo'*e'.size=0
     ·have:(lo'+l')*e'.size=l'*e'.size:=by rw[jY,z1];omega
      simp[z1,this]
     ·by_cases z2:l'*e'.size=0
      ·have:(lo'+l')*e'.size=lo'*e'.size:=by rw[jY,z2];omega
       simp[z2,this,z1]
      ·have:(lo'+l')*e'.size≠0:=by rw[jY];omega
       simp only[z1,z2,this,if_false];rw[jY];simp[kH]
   ·cases h
  ·cases h
end
section
variable {P:Program} {tb:Tb} {g:Gd} {o:Oper}
theorem Ys7:∀ (f:Nat) {v u:TV} {k:Nat},v.Ycc f=some k→v.get (Yai f)=some u→k+u.size≤v.size:=by
 intro f
 induction f with
 |zero=>
  intro v u k h hg
  cases v with
  |pr a b=>simp only[TV.Ycc,jD] at h;simp only[Yai,TV.get,TV.get_nil,jD] at hg;subst h hg;simp[TV.size]
  |cl o t x=>
   cases t with
   |pair a b=>simp only[TV.Ycc,jD] at h;simp only[Yai,TV.get,TV.get_nil,jD] at hg;subst h hg;simp[TV.size,Ty.size]
   |_=>cases h
  |_=>cases h
 |succ f ih=>
  intro v u k h hg
  cases v with
  |pr a b=>
   simp only[TV.Ycc] at h
   split at h
   ·rename_i k' hk;cases h
    simp only[Yai,TV.get] at hg;have:=ih hk hg;simp only[TV.size];omega
   ·cases h
  |cl o t x=>
   cases t with
   |pair a b=>
    simp only[TV.Ycc] at h
    split at h
    ·rename_i k' hk;cases h
     simp only[Yai,TV.get] at hg;have:=ih hk hg;simp only[TV.size,Ty.size] at *;omega
    ·cases h
   |_=>cases h
  |_=>cases h
theorem Ya.Ypo (h:Ya w M (Yi w M L ρ) v s F) (hF:Ye F noB):(∃ n,v=.dead n)∨v.plain=true:=by
 cases v with
 |rw o e xs i v=>obtain⟨_,_,_,b,_,_,_,_,Fs,h6,_⟩:=h;exact(hF b h6).elim
 |op v=>obtain⟨u,_,h⟩:=h;exact h.elim
 |dead n=>exact .inl ⟨_,rfl⟩
 |tup l=>obtain⟨u,_,h⟩:=h;exact h.elim
 |gd t b l=>obtain⟨u,_,h⟩:=h;exact h.elim
 |kb l=>obtain⟨u,_,h⟩:=h;exact h.elim
 |_=>exact .inr rfl
theorem Ysg (ho:o.op=.field t x f):PvS P tb g o:=by
 intro Z S C a w ht I hg b u h hb;simp only[pv,ho] at h;replace h:=RD.bind_some h;obtain⟨vx,h1,h⟩:=h;replace h:=RD.bind_some h;obtain⟨i,h2,h⟩:=h;have hx:=Yg I hg h1;obtain⟨⟨d,hd,hdk,hda⟩,_⟩:=ht t i (Yq h2)
 split at h
 ·rename_i offs hoffs
  rw[hoffs] at hdk
  split at h
  ·rename_i hlay _
   split at h
   ·rename_i aa bb u0 hfo hob hget
    split at h
    ·rename_i hbeq
     cases h
     have:aa=bb:=by simpa using hbeq
     subst this;obtain⟨fs,fd,j,de,e1,e2,e3,e4,e5,e6,e7,e8⟩:=Yjx hdk hob;subst e1
     have hv:Yb w (Mt Z C S.root noB) C.L S.root vx (a.eval x)∧vx.isAgg=true:=by
      cases vx with
      |pr p q=>exact⟨hx,rfl⟩
      |cl oo tt xx=>cases tt<;>first | exact⟨hx,rfl⟩ | (cases f<;>cases hfo)
      |_=>cases f<;>cases hfo
     obtain⟨hv,hagg⟩:=hv;obtain⟨cs,hcs⟩:=hv.2.2.1 hagg;have hul:=Yj6 f hlay hget
     have husz:u.size=j.size:=by rw[←TV.lay_size,hul,Ty.lay_size,e6]
     have hle:=Ys7 f hfo hget
     have hsz:cs.size=vx.size:=by have:=hv.2.1;rw[hcs] at this;exact this
     obtain⟨F',_,hr⟩:=focus (Yai f) hv.1 (Yix f _ hfo) hget
     rw[hcs] at hr
     have ex:∀ u,(part fd.type cs fd.offset).run P w=.ok u w→(execOp a.eval o).run P w=.ok (.value u) w:=by
      intro u hu;simp only[execOp,ho,Sem.run_bind,Instr.field,run_underlying hd,Result.andThen_ok,e2,hcs,asAgg,Sem.run_pure,hu]
     have hkind:=Ya.Ypo hr (by assumption)
     have hr':∀ u':Value,(∀ i,i<j.size→u'.cells.toList[i]? = cs.toList[aa+i]?)→Ya w (Mt Z C S.root noB) (Yi w (Mt Z C S.root noB) C.L S.root) u (.reg u'.cells.toList 0) noB:=by
      intro u' hu'
      have:Ya w (Mt Z C S.root noB) (Yi w (Mt Z C S.root noB) C.L S.root) u (.reg u'.cells.toList 0) F':=
       hr.mv (fun i hi=>by
        simp only[Src.sh,Src.cell,jJ,Value.cells]
        exact hu' i (by omega))
      have hF:Ye F' noB:=by assumption
      exact this.sub hF
     cases hrow:de.isRow with
     |true=>
      refine⟨.agg (cs.extract fd.offset (fd.offset+j.size)),ex _ ?_,?_⟩
      ·simp[part,Ycy e7,hrow,Y3 e4]
      ·rcases hkind with hk | hk
       ·exact .inl hk
       ·refine .inr (VOk.Yhs (hr' _ (fun i hi=>?_)) ?_ ?_ hk)
        ·simp only[Value.cells,Array.toList_extract,List.extract_eq_take_drop,e3]
         rw[List.getElem?_take_of_lt (by omega),List.getElem?_drop]
        ·simp only[Value.cells,Array.size_extract,e3];omega
        ·have:u.isAgg=(Y7 i.ty f).isAgg:=Ye0 hul (fun e=>by rw[e] at hk;cases hk)
         rw[this,e8,hrow];simp
     |false=>
      have h1:j.size=1:=by
       have:(Y7 i.ty f).isAgg=false:=by
        cases hh:(Y7 i.ty f).isAgg with
        |false=>rfl
        |true=>rw[e8.1 hh] at hrow;cases hrow
       rw[e6]
       cases hty:Y7 i.ty f<;>rw[hty] at this<;>first | rfl | cases this
      have hlt:fd.offset<cs.size:=by omega
      refine⟨cs[fd.offset],ex _ ?_,?_⟩
      ·simp[part,Ycy e7,hrow,Array.getElem?_eq_getElem hlt]
      ·rcases hkind with hk | hk
       ·exact .inl hk
       ·have hna:u.isAgg=false:=by
         have:u.isAgg=(Y7 i.ty f).isAgg:=Ye0 hul (fun e=>by rw[e] at hk;cases hk)
         rw[this]
         cases hh:(Y7 i.ty f).isAgg with
         |false=>rfl
         |true=>rw[e8.1 hh] at hrow;cases hrow
        have hlive:u.live=true:=by
         cases u with
         |pr p q=>cases hna
         |dead n=>cases hk
         |rw o e xs i v=>
          obtain⟨_,_,_,b,_,_,_,_,Fs,h6,_⟩:=hr
          have hF:Ye F' noB:=by assumption
          exact(hF b h6).elim
         |_=>rfl
        have hcell:=hr.cells (fun v u h=>h.one.1)
        have hc:=hcell.resolve_right (fun hn=>hn hlive) 0 (by omega)
        obtain⟨c,hc1,hc2⟩:=hc
        have:c=cs[fd.offset]:=by
         simp only[Src.sh,Src.cell,Value.cells,jJ,kF,Array.getElem?_toList] at hc1;rw[←e3,Array.getElem?_eq_getElem hlt] at hc1;exact(jN hc1).symm
        rw[this] at hc2
        have hnagg:¬ ∃ q,cs[fd.offset]=.agg q:=by
         rintro⟨q,hq⟩;rw[hq] at hc2;cases hc2
        have h1c:=Ydi hnagg
        refine .inr (VOk.Yhs (hr' _ (fun i hi=>?_)) (by rw[h1c,husz,h1];rfl) ?_ hk)
        ·have:i=0:=by omega
         subst this;rw[h1c,←e3];simp[Array.getElem?_eq_getElem hlt]
        ·rw[hna];exact⟨fun h=>(by cases h),fun h=>absurd h hnagg⟩
    ·cases h
   ·cases h
  ·cases h
 ·cases h
theorem Yjn:PvS P tb g o:=by
 intro Z S C a w ht I hg b v h hb;have h0:=h
 cases ho:o.op with
 |move x=>exact Ytu ho Z S C a w ht I hg b v h hb
 |pick c x y=>exact Ytv ho Z S C a w ht I hg b v h hb
 |load t x=>exact Ytt ho Z S C a w ht I hg b v h hb
 |fieldAddr t x f=>exact Ymb ho Z S C a w ht I hg b v h hb
 |field t x f=>exact Ysg ho Z S C a w ht I hg b v h hb
 |indexAddr t x i=>exact Ymc ho Z S C a w ht I hg b v h hb
 |index t x i=>exact Ysh ho Z S C a w ht I hg b v h hb
 |binOp op t x y yt=>exact Ysf ho Z S C a w ht I hg b v h hb
 |unOp op t x=>exact Ytw ho Z S C a w ht I hg b v h hb
 |nilCheck x=>exact Yng ho Z S C a w ht I hg b v h hb
 |extract x i=>exact Yox ho Z S C a w ht I hg b v h hb
 |slice t x lo hi mx=>exact Ysi ho Z S C a w ht I hg b v h hb
 |convert s d x=>exact Yow ho Z S C a w ht I hg b v h hb
 |makeFunc fn first cap=>exact Ynf ho Z S C a w ht I hg b v h hb
 |call c=>
  obtain⟨callee,args,ats⟩:=c
  cases callee with
  |builtin bb=>
   cases bb with
   |len=>exact Yu7 ho Z S C a w ht I hg b v h hb
   |min=>exact Yu9 ho Z S C a w ht I hg b v h hb
   |max=>exact Yu8 ho Z S C a w ht I hg b v h hb
   |_=>simp only[pv,ho] at h;cases h
  |_=>simp only[pv,ho] at h;cases h
 |_=>simp only[pv,ho] at h;cases h
end
theorem Ydo {α:Type} (i:Nat):∀ (a b:List (Nat×α)),lk i (a++b)=match lk i a with | some x=>some x | none=>lk i b
 |[],b=>rfl
 |(j,x)::a,b=>by
  simp only[jQ,lk]
  cases h:Nat.beq i j with
  |true=>rfl
  |false=>exact Ydo i a b
theorem Yol {α β:Type} (i:Nat) (f:α→β):∀ (a:List (Nat×α)),lk i (a.map fun x=>(x.1,f x.2))=(lk i a).map f
 |[]=>rfl
 |(j,x)::a=>by
  simp only[jS,lk]
  cases h:Nat.beq i j with
  |true=>rfl
  |false=>exact Yol i f a
theorem Yl {α:Type} (i:Nat) (x:α) (l:List (Nat×α)):lk i ((i,x)::l)=some x:=by
 simp only[lk];rw[show Nat.beq i i=true by simp]
theorem Yv {α:Type} {i j:Nat} (h:i≠j) (x:α) (l:List (Nat×α)):lk i ((j,x)::l)=lk i l:=by
 simp only[lk];rw[show Nat.beq i j=false by cases hb:Nat.beq i j with | false=>rfl | true=>exact absurd (Nat.eq_of_beq_eq_true hb) h]
def Patch.roots (p:Patch) (S:St):Yc:=fun r=>match lk r p.rt with | some x=>x | none=>S.root r
theorem Ye6 (S:St) (p:Patch):(S.ap p).root=fun r=>(p.roots S r).map (Root.kill p.ks):=by
 funext r
 unfold St.ap Patch.roots
 split
 ·rename_i hk
  simp only[hk,St.root,Ydo]
  cases lk r p.rt with
  |none=>simp only;cases lk r S.rt with
   |none=>rfl
   |some x=>cases x<;>rfl
  |some x=>cases x<;>rfl
 ·rename_i hk
  simp only[St.root];rw[Yol r (Yrv p.ks),Ydo]
  cases lk r p.rt with
  |none=>simp only;cases lk r S.rt with
   |none=>rfl
   |some x=>cases x<;>rfl
  |some x=>cases x<;>rfl
theorem Yeh (S:St) (p:Patch) (i:Nat):lk i (S.ap p).tm=match lk i p.tm with | some v=>some v | none=>(lk i S.tm).map (Yx p.ks):=by
 unfold St.ap
 split
 ·rename_i hk
  simp only[hk,Ydo]
  cases lk i p.tm with
  |none=>simp only;cases lk i S.tm<;>rfl
  |some v=>rfl
 ·simp only[Ydo]
  cases lk i p.tm with
  |none=>exact Yol i (Yx p.ks) S.tm
  |some v=>rfl
theorem Gs.Yvb (ks:Ks):Gs w w M M ρ (fun r=>(ρ r).map (Root.kill ks)) L L Dd.none:=(Gs.refl w M ρ L).kill ks
theorem Yz.Ypn:∀ v:TV,Yz Dd.none v:=by
 intro v
 induction v with
 |pr a b iha ihb=>exact⟨iha,ihb⟩
 |loc r q=>exact fun x=>x
 |seg r q=>exact fun x=>x
 |sub r q lo n=>exact fun x=>x
 |clo f c ih=>exact ih
 |_=>trivial
theorem Yts (a:Act) (d:Nat) (u:Value) (h:d<a.tmps.size):(a.put (some d) u).tmps.getD d undef=u:=by
 simp[Act.put,kU,h]
theorem Ysd (a:Act) (d:Option Nat) (u:Value) (h:d≠some i):(a.put d u).tmps.getD i undef=a.tmps.getD i undef:=by
 cases d with
 |none=>rfl
 |some d=>
  have:d≠i:=fun e=>h (by rw[e])
  simp[Act.put,kU,Array.getElem?_setIfInBounds,this]
theorem Yse (a:Act) (d:Option Nat) (u:Value):(a.put d u).tmps.size=a.tmps.size:=by cases d<;>simp[Act.put]
theorem put_defers (a:Act) (d:Option Nat) (u:Value):(a.put d u).defers=a.defers:=by cases d<;>rfl
def Yu (S:St) (d:Option Nat):Prop:=∀ i t b x,lk i S.tm=some (.gd t b x)→d≠some t
theorem Inv.ap {Z:W0} {S:St} {C C':Cx} {a:Act} {w w':World} {D:Dd} {p:Patch} {Q:TV→Value→Prop} {dst:Option Nat} {u:Value}
  (I:Inv Z S C a w)
  (J:Str Z (fun v u=>Yi w (Mt Z C S.root noB) C.L S.root v u∨Q v u) C' noB (p.roots S) w')
  (g:Gs w w' (Mt Z C S.root noB) (Mt Z C' (p.roots S) noB) S.root (p.roots S) C.L C'.L D)
  (hQ:∀ v u,Q v u→Yi w' (Mt Z C' (p.roots S) noB) C'.L (p.roots S) v u)
  (hcl:∀ r q R,S.root r=some R→D.l r q→(ddK p.ks).l r q) (hcs:∀ r q R,S.root r=some R→D.s r q→(ddK p.ks).s r q)
  (hgd:Yu S dst) (hd:∀ d,dst=some d→d<Z.nt∧∃ v,lk d p.tm=some v)
  (htm:∀ i v,lk i p.tm=some v→dst=some i∧Yfv w' (Mt Z C' (p.roots S) noB) C'.L (p.roots S) (a.put dst u) v u) :
  Inv Z (S.ap p) C' (a.put dst u) w':=by
 have hM:Mt Z C' (S.ap p).root noB=Mt Z C' (p.roots S) noB:=by rw[Ye6,Yle]
 have gk:Gs w' w' (Mt Z C' (p.roots S) noB) (Mt Z C' (p.roots S) noB) (p.roots S) (S.ap p).root C'.L C'.L Dd.none:=by
  rw[Ye6];exact Gs.Yvb p.ks
 refine Inv.step (Q:=Q) (ks:=p.ks) I J g ?_ ?_ (Ye6 S p) hcl hcs (by rw[put_defers];exact I.df) (by rw[Yse];exact I.ts) ?_
 ·intro v u h _
  rw[hM];exact(hQ v u h).go gk (Yz.Ypn v)
 ·intro v u h;exact(hQ v u h).Yi9
 ·intro i v' h
  rw[Yeh] at h
  cases hp:lk i p.tm with
  |some v=>
   rw[hp] at h;cases h;obtain⟨rfl,ht⟩:=htm i _ hp;refine .inr ?_
   rw[Yts a i u (by rw[I.ts];exact(hd i rfl).1),hM]
   exact ht.go gk (Kd.refl Yz.Ypn _) (fun _ _ _ _=>rfl)
  |none=>
   rw[hp] at h
   cases hs:lk i S.tm with
   |none=>rw[hs] at h;cases h
   |some v=>
    rw[hs] at h;cases h
    have hne:dst≠some i:=by
     rintro rfl;obtain⟨_,v0,hv0⟩:=hd i rfl;rw[hp] at hv0;cases hv0
    exact .inl ⟨v,rfl,rfl,Ysd a dst u hne,fun t b x e=>Ysd a dst u (hgd i t b x (by rw[←e];exact hs))⟩
theorem Inv.slot {Z:W0} {S:St} {C:Cx} {a:Act} {w:World} {d:Nat} {v:TV} {u:Value} (I:Inv Z S C a w) (hgd:Yu S (some d)) (hd:d<Z.nt)
  (hv:Yfv w (Mt Z C S.root noB) C.L S.root (a.put (some d) u) v u):Inv Z (S.ap ⟨[(d,v)],[],[]⟩) C (a.put (some d) u) w:=by
 have hr:Patch.roots ⟨[(d,v)],[],[]⟩ S=S.root:=rfl;refine Inv.ap (Q:=fun _ _=>False) (D:=Dd.none) I ?_ ?_ (fun _ _ h=>h.elim) (fun _ _ _ _ h=>h.elim) (fun _ _ _ _ h=>h.elim) hgd ?_ ?_
 ·rw[hr];exact I.str.lf (fun _ _ h=>.inl h)
 ·rw[hr];exact Gs.refl _ _ _ _
 ·intro d' e;cases e;exact⟨hd,v,Yl _ _ _⟩
 ·intro i v' h
  simp only[lk] at h
  split at h
  ·rename_i he
   have:i=d:=by simpa using he
   subst this;cases h
   exact⟨rfl,by rw[hr];exact hv⟩
  ·cases h
theorem Inv.Yor {Z:W0} {S:St} {C:Cx} {a:Act} {w:World} {u:Value} (I:Inv Z S C a w):Inv Z (S.ap ⟨[],[],[]⟩) C (a.put none u) w:=by
 have hr:Patch.roots ⟨[],[],[]⟩ S=S.root:=rfl
 refine Inv.ap (Q:=fun _ _=>False) (D:=Dd.none) (dst:=none) I ?_ ?_ (fun _ _ h=>h.elim) (fun _ _ _ _ h=>h.elim) (fun _ _ _ _ h=>h.elim) (fun _ _ _ _ _ e=>by cases e) ?_ ?_
 ·rw[hr];exact I.str.lf (fun _ _ h=>.inl h)
 ·rw[hr];exact Gs.refl _ _ _ _
 ·intro d' e;cases e
 ·intro i v' h;cases h
theorem Yl4:∀ (p:Path) {a b u:TV} {s s1:Src},p.flat=true→a.lay=b.lay→nav w a s p=some s1→b.get p=some u→nav w b s p=some s1:=by
 intro p
 induction p with
 |nil=>intro a b u s s1 _ _ h _;rw[Yf] at h ⊢;exact h
 |cons c p ih=>
  intro a b u s s1 hf hl hn hg
  cases c with
  |el i=>simp[Path.flat] at hf
  |f1=>
   simp only[Path.flat] at hf
   cases a with
   |pr x y=>
    simp only[nav] at hn
    cases b with
    |pr x' y'=>simp only[TV.lay,Lay.pair.injEq] at hl;simp only[TV.get] at hg;simp only[nav];exact ih hf hl.1 hn hg
    |cl o t z=>
     cases t<;>simp only[TV.get] at hg<;>first | cases hg | (simp only[TV.lay,Ty.lay,Lay.pair.injEq] at hl;simp only[nav];exact ih (b:=TV.cl o _ z.1) hf hl.1 hn hg)
    |_=>cases hg
   |cl o t z=>
    cases t<;>simp only[nav] at hn<;>first | cases hn | skip
    cases b with
    |pr x' y'=>simp only[TV.lay,Ty.lay,Lay.pair.injEq] at hl;simp only[TV.get] at hg;simp only[nav];exact ih (a:=TV.cl o _ z.1) hf hl.1 hn hg
    |cl o' t' z'=>
     cases t'<;>simp only[TV.get] at hg<;>first | cases hg | (simp only[TV.lay,Ty.lay,Lay.pair.injEq] at hl;simp only[nav];exact ih (a:=TV.cl o _ z.1) (b:=TV.cl o' _ z'.1) hf hl.1 hn hg)
    |_=>cases hg
   |_=>cases hn
  |f2=>
   simp only[Path.flat] at hf
   cases a with
   |pr x y=>
    simp only[nav] at hn
    cases b with
    |pr x' y'=>
     simp only[TV.lay,Lay.pair.injEq] at hl;simp only[TV.get] at hg;simp only[nav]
     rw[←TV.Yak hl.1];exact ih hf hl.2 hn hg
    |cl o t z=>
     cases t<;>simp only[TV.get] at hg<;>first | cases hg | (simp only[TV.lay,Ty.lay,Lay.pair.injEq] at hl;simp only[nav];rw[←show x.size=Ty.size _ by rw[←TV.lay_size,hl.1,Ty.lay_size]];exact ih (b:=TV.cl o _ z.2) hf hl.2 hn hg)
    |_=>cases hg
   |cl o t z=>
    cases t<;>simp only[nav] at hn<;>first | cases hn | skip
    cases b with
    |pr x' y'=>
     simp only[TV.lay,Ty.lay,Lay.pair.injEq] at hl;simp only[TV.get] at hg;simp only[nav]
     rw[show x'.size=Ty.size _ by rw[←TV.lay_size,←hl.1,Ty.lay_size]];exact ih (a:=TV.cl o _ z.2) hf hl.2 hn hg
    |cl o' t' z'=>
     cases t'<;>simp only[TV.get] at hg<;>first | cases hg | skip
     rename_i a1 b1 a2 b2;simp only[TV.lay,Ty.lay,Lay.pair.injEq] at hl;simp only[nav]
     rw[show a2.size=a1.size by rw[←Ty.lay_size,←hl.1,Ty.lay_size]];exact ih (a:=TV.cl o _ z.2) (b:=TV.cl o' _ z'.2) hf hl.2 hn hg
    |_=>cases hg
   |_=>cases hn
def Yp.roots (K:Yp) (S:St):Yc:=fun r=>match lk r K.rt with | some x=>x | _=>S.root r
structure Y0 (Z:W0) (S:St) (C:Cx) (w:World) (K:Yp) (G:Yd) (C1:Cx) (D:Dd):Prop where
 str:Str Z (Yi w (Mt Z C S.root noB) C.L S.root) C1 G (K.roots S) w
 gs:Gs w w (Mt Z C S.root noB) (Mt Z C1 (K.roots S) G) S.root (K.roots S) C.L C1.L D
 L:C1.L=C.L
 lay:∀ r R,K.roots S r=some R→∃ R0,S.root r=some R0∧R.tv.lay=R0.tv.lay∧R.k=R0.k
 cl:∀ r q,D.l r q→(ddK K.ks).l r q
 cs:∀ r q,D.s r q→(ddK K.ks).s r q
 ty:∀ r R q o e,∀ xs:List e.El,K.roots S r=some R→R.tv.get q=some (.cl o (.sl e) xs)→∃ R0 o0,S.root r=some R0∧R0.tv.get q=some (.cl o0 (.sl e) xs)
theorem Yc6 {a b:TV} {q:Path} {o:Ow} {e:Ty} {xs:List e.El} (h:(Yal a b).get (.f1::q)=some (.cl o (.sl e) xs)):∃ o',a.get q=some (.cl o' (.sl e) xs):=by
 rcases Y2 a b with eq | ⟨o1,t,x,o',u,y,p,rfl,rfl,eq,_⟩
 ·rw[eq] at h;exact⟨o,h⟩
 ·rw[eq] at h;exact Yod q h
theorem Yc7 {a b:TV} {q:Path} {o:Ow} {e:Ty} {xs:List e.El} (h:(Yal a b).get (.f2::q)=some (.cl o (.sl e) xs)):∃ o',b.get q=some (.cl o' (.sl e) xs):=by
 rcases Y2 a b with eq | ⟨o1,t,x,o',u,y,p,rfl,rfl,eq,_⟩
 ·rw[eq] at h;exact⟨o,h⟩
 ·rw[eq] at h;exact Yod q h
theorem Yid {a b:TV} {o:Ow} {e:Ty} {xs:List e.El} (h:Yal a b=.cl o (.sl e) xs):False:=by
 rcases Y2 a b with eq | ⟨o1,t,x,o',u,y,p,rfl,rfl,eq,_⟩<;>rw[eq] at h<;>cases h
theorem Yic {a b:TV} {i:Nat} {q:Path} {v:TV} (h:(Yal a b).get (.el i::q)=some v):False:=by
 rcases Y2 a b with eq | ⟨o1,t,x,o',u,y,p,rfl,rfl,eq,_⟩<;>rw[eq] at h<;>cases h
theorem Kp.refl (w:World) (s:Src) (n b:Nat):Kp w w s n b:=by
 cases s with
 |reg cs o=>exact Same.refl w b
 |mem b0 off0=>
  by_cases h:b=b0<;>simp[Kp,h,Same]
theorem Y0.start (I:Inv Z S C a w):Y0 Z S C w .none noB C Dd.none where
 str:=I.str
 gs:=Gs.refl _ _ _ _
 L:=rfl
 lay:=fun r R h=>⟨R,h,rfl,rfl⟩
 cl:=fun _ _ h=>h.elim
 cs:=fun _ _ h=>h.elim
 ty:=fun r R q o e xs h1 h2=>⟨R,o,h1,h2⟩
theorem Yby:(∀ r q,(ddK ks).l r q→(ddK (k::ks)).l r q)∧(∀ r q,(ddK ks).s r q→(ddK (k::ks)).s r q):=
 ⟨fun r q ⟨x,h,e⟩=>⟨x,jG _ h,e⟩,fun r q ⟨x,h,e⟩=>⟨x,jG _ h,e⟩⟩
theorem Path.Yie (p t:Path):Path.pre p (p++t)=true:=by
 induction p with
 |nil=>cases t<;>rfl
 |cons a p ih=>cases a<;>simp[Path.pre,ih]
theorem Path.Yh9 (p t:Path):Path.far p (p++t) = !Path.flat t:=by
 induction p with
 |nil=>cases t<;>rfl
 |cons a p ih=>cases a<;>simp[Path.far,ih]
theorem Ygm:∀ (p:Path) {tv tv':TV},tv.set p (.dead 1)=some tv'→tv'.opn=true:=by
 have rs:∀ {o:Ow} {e:Ty} {xs:List e.El} {i:Nat} {v tv':TV},Ybs o e xs i v=some tv'→v.opn=true→tv'=.rw o e xs i v:=by
  intro o e xs i v tv' h hv;rcases Yaj h with ⟨y,h1,_⟩ | ⟨_,_,rfl⟩
  ·obtain⟨o',x,rfl,_⟩:=Yav h1;cases hv
  ·rfl
 intro p
 induction p with
 |nil=>intro tv tv' h;rw[TV.set_nil] at h;cases h;rfl
 |cons a p ih=>
  intro tv tv' h
  cases tv with
  |pr x y=>
   cases a with
   |f1=>
    simp only[TV.set] at h
    split at h
    ·rename_i a' ha;cases h;rw[Yge,ih ha];rfl
    ·cases h
   |f2=>
    simp only[TV.set] at h
    split at h
    ·rename_i a' ha;cases h;rw[Yge,ih ha,Bool.or_true]
    ·cases h
   |el i=>cases h
  |cl o t x=>
   cases t with
   |pair ta tb=>
    cases a with
    |f1=>
     simp only[TV.set] at h
     split at h
     ·rename_i a' ha;cases h;rw[Yge,ih ha];rfl
     ·cases h
    |f2=>
     simp only[TV.set] at h
     split at h
     ·rename_i a' ha;cases h;rw[Yge,ih ha,Bool.or_true]
     ·cases h
    |el i=>cases o<;>cases h
   |sl e=>
    cases a with
    |el i=>obtain⟨_,tve,h1,h2⟩:=Yjs h;rw[rs h2 (ih h1)];rfl
    |f1=>cases o<;>cases h
    |f2=>cases o<;>cases h
   |arr m e=>
    cases a with
    |el i=>
     simp only[TV.set] at h
     split at h
     ·rename_i tve h1
      split at h
      ·rename_i y h2
       obtain⟨o',x',rfl,_⟩:=Yav h2;cases ih h1
      ·cases h
     ·cases h
    |f1=>cases o<;>cases h
    |f2=>cases o<;>cases h
   |_=>cases a<;>cases o<;>cases h
  |rw o e xs i v=>
   cases a with
   |el j=>obtain⟨_,_,tve,h1,h2⟩:=Yjr h;rw[rs h2 (ih h1)];rfl
   |f1=>cases o<;>cases h
   |f2=>cases o<;>cases h
  |_=>cases a<;>cases h
theorem Yhv {o:Ow} {e:Ty} {xs:List e.El} {i:Nat} {p:Path} {u v tv':TV} (hu:u.set p (.dead 1)=some v) (h:Ybs o e xs i v=some tv'):tv'=.rw o e xs i v:=by
 rcases Yaj h with ⟨y,h1,_⟩ | ⟨_,_,rfl⟩
 ·obtain⟨o',x,rfl,_⟩:=Yav h1;cases Ygm p hu
 ·rfl
theorem Ylv:∀ (p:Path) {tv tv':TV} {q:Path} {o:Ow} {e:Ty} {xs:List e.El},tv.set p (.dead 1)=some tv'→tv'.get q=some (.cl o (.sl e) xs)→∃ o',tv.get q=some (.cl o' (.sl e) xs):=by
 intro p
 induction p with
 |nil=>
  intro tv tv' q o e xs hs hg;rw[TV.set_nil] at hs;cases hs
  cases q with
  |nil=>rw[TV.get_nil] at hg;cases hg
  |cons a q=>cases a<;>cases hg
 |cons c p ih=>
  intro tv tv' q o e xs hs hg
  cases tv with
  |pr x y=>
   cases c with
   |f1=>
    simp only[TV.set] at hs
    split at hs
    ·rename_i x' hx;cases hs
     cases q with
     |nil=>rw[TV.get_nil] at hg;exact(Yid (jN hg)).elim
     |cons a q=>
      cases a with
      |f1=>show ∃ o',x.get q=some (.cl o' (.sl e) xs);obtain⟨o',h⟩:=Yc6 hg;exact ih hx h
      |f2=>show ∃ o',y.get q=some (.cl o' (.sl e) xs);exact Yc7 hg
      |el i=>exact(Yic hg).elim
    ·cases hs
   |f2=>
    simp only[TV.set] at hs
    split at hs
    ·rename_i x' hx;cases hs
     cases q with
     |nil=>rw[TV.get_nil] at hg;exact(Yid (jN hg)).elim
     |cons a q=>
      cases a with
      |f1=>show ∃ o',x.get q=some (.cl o' (.sl e) xs);exact Yc6 hg
      |f2=>show ∃ o',y.get q=some (.cl o' (.sl e) xs);obtain⟨o',h⟩:=Yc7 hg;exact ih hx h
      |el i=>exact(Yic hg).elim
    ·cases hs
   |el i=>cases hs
  |cl ow t z=>
   cases t with
   |pair t1 t2=>
    cases c with
    |f1=>
     simp only[TV.set] at hs
     split at hs
     ·rename_i x' hx;cases hs
      cases q with
      |nil=>rw[TV.get_nil] at hg;exact(Yid (jN hg)).elim
      |cons a q=>
       cases a with
       |f1=>show ∃ o',(TV.cl ow t1 z.1).get q=some (.cl o' (.sl e) xs);obtain⟨o',h⟩:=Yc6 hg;exact ih (tv:=.cl ow t1 z.1) hx h
       |f2=>show ∃ o',(TV.cl ow t2 z.2).get q=some (.cl o' (.sl e) xs);exact Yc7 hg
       |el i=>exact(Yic hg).elim
     ·cases hs
    |f2=>
     simp only[TV.set] at hs
     split at hs
     ·rename_i x' hx;cases hs
      cases q with
      |nil=>rw[TV.get_nil] at hg;exact(Yid (jN hg)).elim
      |cons a q=>
       cases a with
       |f1=>show ∃ o',(TV.cl ow t1 z.1).get q=some (.cl o' (.sl e) xs);exact Yc6 hg
       |f2=>show ∃ o',(TV.cl ow t2 z.2).get q=some (.cl o' (.sl e) xs);obtain⟨o',h⟩:=Yc7 hg;exact ih (tv:=.cl ow t2 z.2) hx h
       |el i=>exact(Yic hg).elim
     ·cases hs
    |el i=>cases ow<;>cases hs
   |sl e0=>
    cases c with
    |el i=>
     obtain⟨_,tve,h1,h2⟩:=Yjs hs;cases Yhv h1 h2
     cases q with
     |nil=>rw[TV.get_nil] at hg;cases hg
     |cons a q=>
      cases a with
      |el j=>
       rw[Ycs] at hg;show ∃ o',(TV.cl ow.elem e0 (z.getD j e0.zero)).get q=_
       by_cases hji:j=i
       ·subst hji;rw[jL rfl] at hg;exact ih h1 hg
       ·rw[jM hji] at hg;exact⟨o,hg⟩
      |f1=>cases hg
      |f2=>cases hg
    |f1=>cases ow<;>cases hs
    |f2=>cases ow<;>cases hs
   |arr m e0=>
    cases c with
    |el i=>
     simp only[TV.set] at hs
     split at hs
     ·rename_i tve h1
      split at hs
      ·rename_i y h2
       obtain⟨o',x',rfl,_⟩:=Yav h2;cases Ygm p h1
      ·cases hs
     ·cases hs
    |f1=>cases ow<;>cases hs
    |f2=>cases ow<;>cases hs
   |_=>cases c<;>cases ow<;>cases hs
  |rw ow e0 z i v=>
   cases c with
   |el j=>
    obtain⟨_,rfl,tve,h1,h2⟩:=Yjr hs;cases Yhv h1 h2
    cases q with
    |nil=>rw[TV.get_nil] at hg;cases hg
    |cons a q=>
     cases a with
     |el k=>
      rw[Ycs] at hg ⊢
      by_cases hki:k=j
      ·rw[jL hki] at hg ⊢;exact ih h1 hg
      ·rw[jM hki] at hg ⊢;exact⟨o,hg⟩
     |f1=>cases hg
     |f2=>cases hg
   |f1=>cases ow<;>cases hs
   |f2=>cases ow<;>cases hs
  |_=>cases c<;>cases hs
theorem Ynq (T:Y0 Z S C w K G C1 D)
  (hR:K.roots S r=some R) (hR0:S.root r=some R0) (hn0:nav w R0.tv (C.L r) p=some s) (hfn:p.flat=true∨R=R0) (h:(Yhz K r p R).run S=some (c,K')) :
  ∃ C2 D2 F G',Y0 Z S C w K' G' C2 D2∧Ye G G'∧Ye F G'∧Dis F G∧(∀ b,G' b→G b∨F b)∧
   ∃ o e,∃ x:List e.El,o≠.sh∧c=.cl o (.sl e) x∧(∃ o0,R0.tv.get p=some (.cl o0 (.sl e) x))∧Rep w (Mt Z C1 (K.roots S) G) (.sl e) o x s F∧Ye (Mt Z C2 (K'.roots S) G') (Mt Z C1 (K.roots S) G):=by
 obtain⟨R0',hR0',hlay,hkind⟩:=T.lay r R hR;rw[hR0] at hR0';cases hR0';unfold Yhz at h
 split at h
 ·rename_i o e x hget
  have body:o≠.sh→(takeC K r p R (.cl o (.sl e) x)).run S=some (c,K')→∃ C2 D2 F G',Y0 Z S C w K' G' C2 D2∧Ye G G'∧Ye F G'∧Dis F G∧(∀ b,G' b→G b∨F b)∧
   ∃ o e,∃ x:List e.El,o≠.sh∧c=.cl o (.sl e) x∧(∃ o0,R0.tv.get p=some (.cl o0 (.sl e) x))∧Rep w (Mt Z C1 (K.roots S) G) (.sl e) o x s F∧Ye (Mt Z C2 (K'.roots S) G') (Mt Z C1 (K.roots S) G):=by
   intro ho h
   have hold:∃ o0,R0.tv.get p=some (.cl o0 (.sl e) x):=by
    obtain⟨R1,o1,h1,h2⟩:=T.ty r R p o e x hR hget;rw[hR0] at h1;cases h1;exact⟨o1,h2⟩
   by_cases hpk:p=[]∧R.k=.reg
   ·
    obtain⟨rfl,hk⟩:=hpk;simp only[takeC,hk] at h;cases h;rw[Yf] at hn0;cases hn0;rw[TV.get_nil] at hget;have hRtv:R.tv=.cl o (.sl e) x:=jN hget
    have hk':(⟨(r,none)::K.rt,(r,none)::K.ks⟩:Yp).roots S=(K.roots S).set r none:=by
     funext i
     unfold Yp.roots Yc.set
     by_cases e:i=r
     ·subst e;rw[Yl,jL rfl]
     ·rw[Yv e,jM e]
    have hrep:=T.str.rep r R hR;have hgd:=T.str.gdis r R hR
    obtain⟨W,hW⟩:=T.str.weak (ρ':=(K.roots S).set r none) (G':=fun b=>G b∨C1.F r b) (fun i R' h=>by
      by_cases e:i=r
      ·subst e;rw[Yc.Yo] at h;cases h
      ·rwa [Yc.Yn _ _ e] at h)
     (fun b hb=>hb.imp id (fun hb=>⟨r,R,hR,Yc.Yo _ _ _,hb⟩))
    have Wg:=T.str.Yci hW ⟨fun i _=>i=r,fun i _=>i=r⟩
     (fun i R' q h1 h2=>by rw[Yc.Yn _ _ h2];exact h1) (fun i R' q h1 h2=>by rw[Yc.Yn _ _ h2];exact h1)
    refine⟨C1,_,C1.F r,fun b=>G b∨C1.F r b,⟨by rw[hk'];exact W,by rw[hk'];exact T.gs.trans Wg,T.L,?_,?_,?_,?_⟩,fun _ h=>.inl h,fun _ h=>.inr h,
     fun b h1 h2=>hgd b (.inl h1) h2,fun _ h=>h,o,e,x,ho,rfl,hold,?_,by rw[hk'];exact hW⟩
    ·intro i R' h
     rw[hk'] at h
     by_cases e:i=r
     ·subst e;rw[Yc.Yo] at h;cases h
     ·rw[Yc.Yn _ _ e] at h;exact T.lay i R' h
    ·rintro i q (h | h)
     ·exact Yby.1 i q (T.cl i q h)
     ·exact⟨_,jF,h.symm,rfl⟩
    ·rintro i q (h | h)
     ·exact Yby.2 i q (T.cs i q h)
     ·exact⟨_,jF,h.symm,rfl⟩
    ·intro i R' q o' e' xs' h hg
     rw[hk'] at h
     by_cases e:i=r
     ·subst e;rw[Yc.Yo] at h;cases h
     ·rw[Yc.Yn _ _ e] at h;exact T.ty i R' q o' e' xs' h hg
    ·rw[hRtv,T.L] at hrep;exact hrep
   ·
    have hF:takeC K r p R (.cl o (.sl e) x)=Ynp K r p R (.cl o (.sl e) x):=by
     unfold takeC
     cases p with
     |nil=>cases hk:R.k with
      |reg=>exact absurd ⟨rfl,hk⟩ hpk
      |mem=>rfl
     |cons a p=>rfl
    rw[hF] at h;unfold Ynp at h
    split at h
    ·rename_i tv hset
     have hn:nav w R.tv (C1.L r) p=some s:=by
      rw[T.L];rcases hfn with hfl | rfl
      ·exact Yl4 p hfl hlay.symm hn0 hget
      ·exact hn0
     cases h
     ·obtain⟨Fo,Fr,f1,f2,f3,f4,f5,f6,f7⟩:=T.str.put hR hn hget hset (by rfl)
      have hk':(⟨(r,some ⟨R.k,tv⟩)::K.rt,(r,some p)::K.ks⟩:Yp).roots S=(K.roots S).set r (some ⟨R.k,tv⟩):=by
       funext i
       unfold Yp.roots Yc.set
       by_cases e:i=r
       ·subst e;rw[Yl,jL rfl]
       ·rw[Yv e,jM e]
      obtain⟨W,Wg⟩:=f7 w noB (fun b=>G b∨Fo b) ⟨fun i q=>i=r∧∃ t,q=p++t∧Path.flat t=false,fun i q=>i=r∧∃ t,q=p++t⟩
       ⟨rfl,fun b=>Kp.refl w s _ b⟩
       trivial (fun _ h=>h.elim) (fun b hb=>⟨hb,fun h=>h⟩) rfl rfl rfl
       (fun t b off hd hn=>by
        have ht:Path.flat t=true:=by
         cases hh:Path.flat t with
         |true=>rfl
         |false=>exact absurd ⟨rfl,t,rfl,hh⟩ hd
        cases t with
        |nil=>rw[Yf] at hn ⊢;exact hn
        |cons a t=>cases a<;>first | (simp[nav] at hn;done) | simp[Path.flat] at ht)
       (fun t s1 hd=>absurd ⟨rfl,t,rfl⟩ hd)
      have hsub:Ye (Mt Z (C1.Ydj r fun b=>Fr b∨noB b) ((K.roots S).set r (some ⟨R.k,tv⟩)) (fun b=>G b∨Fo b)) (Mt Z C1 (K.roots S) G):=by
       rintro b (⟨i,R',h1,h2⟩ | (h | h) | h)
       ·by_cases e:i=r
        ·subst e;rw[Yc.Yo] at h1;cases h1
         refine .inl ⟨i,R,hR,?_⟩;rcases h2 with h2 | h2
         ·simp only[Cx.Ydj,if_true] at h2
          rcases h2 with h2 | h2
          ·exact .inl (f2 b h2)
          ·exact h2.elim
         ·exact .inr h2
        ·rw[Yc.Yn _ _ e] at h1
         refine .inl ⟨i,R',h1,?_⟩;unfold Tot at h2;simp only[Cx.Ydj,jM e] at h2;exact h2
       ·exact .inr (.inl h)
       ·exact .inl ⟨r,R,hR,.inl (f1 b h)⟩
       ·exact .inr (.inr h)
      refine⟨C1.Ydj r fun b=>Fr b∨noB b,_,Fo,fun b=>G b∨Fo b,⟨by rw[hk'];exact W,by rw[hk'];exact T.gs.trans Wg,T.L,?_,?_,?_,?_⟩,fun _ h=>.inl h,fun _ h=>.inr h,
       fun b h1 h2=>T.str.gdis r R hR b (.inl (f1 b h1)) h2,fun _ h=>h,o,e,x,ho,rfl,hold,f4,by rw[hk'];exact hsub⟩
      ·intro i R' h
       rw[hk'] at h
       by_cases e:i=r
       ·subst e;rw[Yc.Yo] at h;cases h
        exact⟨R0,hR0,by rw[f6];exact hlay,hkind⟩
       ·rw[Yc.Yn _ _ e] at h;exact T.lay i R' h
      ·rintro i q (h | ⟨rfl,t,rfl,ht⟩)
       ·exact Yby.1 i q (T.cl i q h)
       ·exact⟨_,jF,rfl,by show Path.far p (p++t)=true;rw[Path.Yh9,ht];rfl⟩
      ·rintro i q (h | ⟨rfl,t,rfl⟩)
       ·exact Yby.2 i q (T.cs i q h)
       ·exact⟨_,jF,rfl,Path.Yie p t⟩
      ·intro i R' q o' e' xs' h hg
       rw[hk'] at h
       by_cases e:i=r
       ·subst e;rw[Yc.Yo] at h;cases h
        obtain⟨o2,h2⟩:=Ylv p hset hg;exact T.ty i R q o2 e' xs' hR h2
       ·rw[Yc.Yn _ _ e] at h;exact T.ty i R' q o' e' xs' h hg
    ·cases h
  cases o with
  |sh=>cases h
  |top=>exact body (by simp) h
  |deep=>exact body (by simp) h
 ·cases h
def Ybc (Z:W0) (S:St) (C:Cx) (w:World) (K:Yp) (G:Yd) (C1:Cx) (K':Yp) (c:TV) (s:Src) (n:Nat):Prop:=
 ∃ C2 D2 F G',Y0 Z S C w K' G' C2 D2∧Ye G G'∧Ye F G'∧Dis F G∧(∀ b,G' b→G b∨F b)∧
  Ya w (Mt Z C2 (K'.roots S) G') (Yi w (Mt Z C S.root noB) C.L S.root) c s F∧Ye (Mt Z C2 (K'.roots S) G') (Mt Z C1 (K.roots S) G)∧c.size=n
theorem Ycf (T:Y0 Z S C w K G C1 D) (hu:Yi w (Mt Z C S.root noB) C.L S.root (.seg r p) u) (hs:s'.cell w 0=some u)
  (h:(Ybt K r p).run S=some (c,K')):Ybc Z S C w K G C1 K' c s' 1∧∃ o e,∃ x:List e.El,o≠.sh∧c=.cl o (.sl e) x∧∃ R0 o0,S.root r=some R0∧R0.tv.get p=some (.cl o0 (.sl e) x):=by
 obtain⟨R0,s,o0,e0,xs0,h1,h2,h3,h4,_⟩:=hu
 have key:∀ R,K.roots S r=some R→(p.flat=true∨R=R0)→(Yhz K r p R).run S=some (c,K')→Ybc Z S C w K G C1 K' c s' 1∧∃ o e,∃ x:List e.El,o≠.sh∧c=.cl o (.sl e) x∧∃ R0 o0,S.root r=some R0∧R0.tv.get p=some (.cl o0 (.sl e) x):=by
  intro R hR hfn h;obtain⟨C2,D2,F,G',t1,t2,t3,t4,t5,o,e,x,ho,rfl,⟨o0,hold⟩,hr,hm⟩:=Ynq T hR h1 h2 hfn h;refine⟨⟨C2,D2,F,G',t1,t2,t3,t4,t5,?_,hm,rfl⟩,o,e,x,ho,rfl,R0,o0,h1,hold⟩
  have:Rep w (Mt Z C1 (K.roots S) G) (.sl e) o x s' F:=hr.mv (fun i hi=>by
   have:i=0:=by simp[Ty.size] at hi;exact hi
   subst this;rw[hs,h4])
  exact Ya.mono (tv:=.cl o (.sl e) x) this hm
 unfold Ybt at h
 split at h
 ·rename_i R hR
  split at h
  ·rename_i hfl;exact key R (by unfold Yp.roots;rw[hR]) (.inl hfl) h
  ·cases h
 ·cases h
 ·rename_i hR
  simp only[RD.run] at h
  split at h
  ·rename_i R hR'
   exact key R (by unfold Yp.roots;rw[hR];exact hR') (.inr (by rw[h1] at hR';exact(jN hR').symm)) h
  ·cases h
theorem Rep.cut {M:Yd} {o:Ow} {e:Ty} {xs:List e.El} {s s':Src} {F:Yd} {A A':Option Addr} {len c c' lo n:Nat} (h:Rep w M (.sl e) o xs s F) (hc:s.cell w 0=some (.slice A len c))
  (hc':s'.cell w 0=some (.slice A' n c')) (h1:lo+n≤xs.length) (h2:n≤c') (h3:lo+c'≤c) (h4:c'≠0→A'=A.map (fun ad=>ad.add (lo*e.size))) :
  Rep w M (.sl e) o ((xs.drop lo).take n) s' F:=by
 obtain⟨A0,c0,q1,q2,q3⟩:=h;rw[hc] at q1;cases q1
 have hlen:((xs.drop lo).take n).length=n:=by simp;omega
 have own:∀ o:Ow,(c≠0→∃ b off,∃ Fs:Nat→Yd,A=some ⟨b,off,none⟩∧F b∧Room w b off (c*e.size)∧
   (∀ i (h:i<xs.length),Rep w M e o.elem (xs[i]'h) (.mem b (off+i*e.size)) (Fs i)∧Ye (Fs i) F∧¬ Fs i b)∧(∀ i j,i<j→j<xs.length→Dis (Fs i) (Fs j)))→
   (c'≠0→∃ b off,∃ Fs:Nat→Yd,A'=some ⟨b,off,none⟩∧F b∧Room w b off (c'*e.size)∧
   (∀ i (h:i<((xs.drop lo).take n).length),Rep w M e o.elem (((xs.drop lo).take n)[i]'h) (.mem b (off+i*e.size)) (Fs i)∧Ye (Fs i) F∧¬ Fs i b)∧(∀ i j,i<j→j<((xs.drop lo).take n).length→Dis (Fs i) (Fs j))):=by
  intro o q3 hne
  obtain⟨b,off,Fs,r1,r2,r3,r4,r5⟩:=q3 (by omega)
  refine⟨b,off+lo*e.size,fun i=>Fs (lo+i),by rw[h4 hne,r1];simp[Addr.add_mid],r2,fun i hi=>?_,fun i hi=>?_,fun i j hij hj=>r5 _ _ (by omega) (by omega)⟩
  ·have:lo*e.size+i<c*e.size:=by
    calc lo*e.size+i<lo*e.size+c'*e.size:=by omega
     _=(lo+c')*e.size:=by rw[jY]
     _≤c*e.size:=jR _ h3
   have:=r3 _ this
   rwa [show off+lo*e.size+i=off+(lo*e.size+i) by omega]
  ·simp only[List.getElem_take,List.getElem_drop]
   rw[show off+lo*e.size+i*e.size=off+(lo+i)*e.size by rw[jY];omega]
   exact r4 (lo+i) (by omega)
 refine⟨A',c',by rw[hlen];exact hc',by rw[hlen];exact h2,?_⟩
 cases o with
 |sh=>
  intro hne
  have hn:0<n:=by rw[←hlen];exact List.length_pos_iff.2 hne
  obtain⟨b,off,r1,r2,r3,r4⟩:=q3 (by intro h0;subst h0;simp at h1;omega)
  refine⟨b,off+lo*e.size,by rw[h4 (by omega),r1];simp[Addr.add_mid],r2,r3,fun i hi=>?_⟩
  simp only[List.getElem_take,List.getElem_drop]
  rw[show off+lo*e.size+i*e.size=off+(lo+i)*e.size by rw[jY];omega]
  exact r4 (lo+i) (by omega)
 |top=>exact own .top q3
 |deep=>exact own .deep q3
theorem Rep.nil (h:s.cell w 0=some (.slice A 0 0)):Rep w M (.sl e) o ([]:List e.El) s noB:=by
 refine⟨A,0,h,jB _,?_⟩
 cases o with
 |sh=>exact fun h=>absurd rfl h
 |top=>exact fun h=>absurd rfl h
 |deep=>exact fun h=>absurd rfl h
theorem Ybc.stay (T:Y0 Z S C w K G C1 D) (h:Ya w (Mt Z C S.root noB) (Yi w (Mt Z C S.root noB) C.L S.root) c s noB) (hm:Ye (Mt Z C1 (K.roots S) G) (Mt Z C S.root noB)) (hn:c.size=n) :
  Ybc Z S C w K G C1 K c s n:=
 ⟨C1,D,noB,G,T,fun _ h=>h,fun _ h=>h.elim,fun _ h=>h.elim,fun _ h=>.inl h,h.mono hm,fun _ h=>h,hn⟩
theorem Yb9 (q np:Nat):∀ (v:TV) (t:Ty) {K K':Yp} {G:Yd} {C1:Cx} {D:Dd} {c:TV} {s:Src},Y0 Z S C w K G C1 D→Ye (Mt Z C1 (K.roots S) G) (Mt Z C S.root noB)→
  Ya w (Mt Z C S.root noB) (Yi w (Mt Z C S.root noB) C.L S.root) v s noB→(Ya4 q np K t v).run S=some (c,K')→Ybc Z S C w K G C1 K' c s v.size:=by
 intro v
 induction v with
 |cl o t' x=>
  intro t K K' G C1 D c s T hm hr h
  cases t<;>simp only[Ya4,RD.run] at h<;>(cases h;exact Ybc.stay T hr hm rfl)
 |nl=>
  intro t K K' G C1 D c s T hm hr h
  cases t with
  |sl e=>
   simp only[Ya4,RD.run] at h;cases h;obtain⟨u,h1,A,rfl⟩:=id hr;unfold Yr4
   split
   ·exact Ybc.stay T hr hm rfl
   ·split
    ·exact Ybc.stay T (c:=.cl .deep (.sl e) []) (Rep.nil h1) hm rfl
    ·exact Ybc.stay T (c:=.cl .top (.sl e) []) (Rep.nil h1) hm rfl
   ·exact Ybc.stay T (c:=.cl .sh (.sl e) []) (Rep.nil h1) hm rfl
   ·exact Ybc.stay T (c:=.cl .deep (.sl e) []) (Rep.nil h1) hm rfl
  |_=>cases h
 |pr a b iha ihb=>
  intro t K K' G C1 D c s T hm hr h
  cases t with
  |pair t1 t2=>
   simp only[Ya4] at h;replace h:=RD.bind_some h;obtain⟨⟨a',K1⟩,h1,h⟩:=h;replace h:=RD.bind_some h;obtain⟨⟨b',K2⟩,h2,h⟩:=h;cases h;obtain⟨F1,F2,r1,r2,_,_,_⟩:=hr
   have r1':=r1.sub (G:=noB) (by assumption)
   have r2':=r2.sub (G:=noB) (by assumption)
   obtain⟨C2,D2,Fa,Ga,t1',g1,f1,d1,e1,ra,m1,s1⟩:=iha t1 T hm r1' h1;obtain⟨C3,D3,Fb,Gb,t2',g2,f2,d2,e2,rb,m2,s2⟩:=ihb t2 t1' (fun b hb=>hm b (m1 b hb)) r2' h2;refine⟨C3,D3,fun b=>Fa b∨Fb b,Gb,t2',fun b hb=>g2 b (g1 b hb),fun b hb=>hb.elim (fun h=>g2 b (f1 b h)) (f2 b),?_,?_,?_,fun b hb=>m1 b (m2 b hb),?_⟩
   ·rintro b (h | h) hg
    ·exact d1 b h hg
    ·exact d2 b h (g1 b hg)
   ·intro b hb
    rcases e2 b hb with h | h
    ·rcases e1 b h with h | h
     ·exact .inl h
     ·exact .inr (.inl h)
    ·exact .inr (.inr h)
   ·refine Yeq ⟨Fa,Fb,ra.mono m2,by rw[s1];exact rb,fun _ h=>.inl h,fun _ h=>.inr h,fun b h1 h2=>d2 b h2 (f1 b h1)⟩
   ·have:(Yal a' b').size=a'.size+b'.size:=by rw[←TV.lay_size,Yep,Lay.size,TV.lay_size,TV.lay_size]
    rw[this,s1,s2];rfl
  |_=>cases h
 |seg r p=>
  intro t K K' G C1 D c s T hm hr h
  have h':(match Nat.blt r np with
   |true=>(RD.ret (.seg r p,K):RD (TV×Yp))
   |false=>Ybt K r p).run S=some (c,K'):=by cases t<;>exact h
  split at h'
  ·cases h';exact Ybc.stay T hr hm rfl
  ·obtain⟨u,h1,h2⟩:=hr
   exact(Ycf T h2 h1 h').1
 |sub r p lo n=>
  intro t K K' G C1 D c s T hm hr h
  have h':((Ybt K r p).bind fun(v,k)=>match Ymr lo n v with | some v=>.ret (v,k) | none=>(RD.fail:RD (TV×Yp))).run S=some (c,K'):=by cases t<;>exact h
  ·replace h':=RD.bind_some h';obtain⟨⟨v0,K0⟩,h1,h'⟩:=h'
   obtain⟨u,q1,R,s0,o,e,xs,A,len,c0,A',c',q2,q3,q4,q5,q6,q7,q8,q9,q10⟩:=hr;obtain⟨⟨C2,D2,F,G',t1,t2,t3,t4,t5,t6,t7,t8⟩,o',e',x',ho,rfl,R1,o1,hR1,hg1⟩:=Ycf (s':=.reg [.slice A len c0] 0) T (u:=.slice A len c0) ⟨R,s0,o,e,xs,q2,q3,q4,q5,_,_,_,rfl⟩ rfl h1;simp only[Ymr] at h';cases h';rw[q2] at hR1;cases hR1;rw[Yee hg1] at q4;cases q4;refine⟨C2,D2,F,G',t1,t2,t3,t4,t5,?_,t7,rfl⟩
   exact Rep.cut (s':=s) t6 rfl (by rw[q1,q6]) q7 q8 q9 q10
 |loc r p=>intro t K K' G C1 D c s T hm hr h;cases t<;>simp only[Ya4,RD.run] at h<;>(cases h;exact Ybc.stay T hr hm rfl)
 |pt ty x=>intro t K K' G C1 D c s T hm hr h;cases t<;>simp only[Ya4,RD.run] at h<;>(cases h;exact Ybc.stay T hr hm rfl)
 |clo f x=>intro t K K' G C1 D c s T hm hr h;cases t<;>simp only[Ya4,RD.run] at h<;>(cases h;exact Ybc.stay T hr hm rfl)
 |_=>intro t K K' G C1 D c s T hm hr h;cases t<;>cases h
section
variable {a:Act}
structure Yb5 (w w':World) (G G1:Yd):Prop where
 sz:w.heap.size≤w'.heap.size
 same:∀ b,b<w.heap.size→¬ G b→Same w w' b
 g:∀ b,G1 b→G b∨(w.heap.size≤b∧b<w'.heap.size)
 os:w'.os=w.os
 tape:w'.tape=w.tape
 output:w'.output=w.output
theorem Yb5.refl (w:World) (G:Yd):Yb5 w w G G:=⟨jB _,fun _ _ _=>rfl,fun _ h=>.inl h,rfl,rfl,rfl⟩
theorem Yl7 (h:(Yao np d v rt K).run S=some p) :
  np≤d∧p.tm=[(d,v)]∧p.rt=(d,some rt)::K.rt∧(∀ k∈K.ks,k∈p.ks)∧(∀ R,S.root d=some R→(d,none)∈p.ks):=by
 unfold Yao at h
 split at h
 ·cases h
 ·rename_i hnp
  have hle:np≤d:=by
   rcases kG d np with h' | h'
   ·have:Nat.blt d np=true:=by simpa using h'
    rw[this] at hnp;cases hnp
   ·exact h'
  simp only[RD.run] at h
  split at h
  ·cases h;exact⟨hle,rfl,rfl,fun k hk=>jG _ hk,fun R _=>jF⟩
  ·rename_i hr;cases h;exact⟨hle,rfl,rfl,fun k hk=>hk,fun R hR=>absurd hR (by rw[hr];simp)⟩
theorem Yer (I:Inv Z S C a w) (T:Y0 Z S C w K G C1 D) {np d:Nat} {v:TV} {rt:Root} {p:Patch} {u:Value} {s:Src} {Fn G1:Yd}
  (h:(Yao np d v rt K).run S=some p) (hnp:∀ i,np≤i→Z.P i=none) (hgd:Yu S (some d)) (hd:d<Z.nt)
  (H:Yb5 w w' G G1)
  (hr:∀ M,Ye M (fun b=>Mt Z C1 (K.roots S) G b∨w.heap.size≤b)→(∀ b,G b→¬ G1 b→¬ M b)→Ye G1 M→Ya w' M (Yi w (Mt Z C S.root noB) C.L S.root) rt.tv s Fn) (hF:Ye Fn G1)
  (hk:(rt.k=.reg∧∃ cs,s=.reg cs 0)∨(rt.k=.mem∧∃ b off,s=.mem b off∧G1 b∧¬ Fn b∧Room w' b off rt.tv.size))
  (hv:∀ M L ρ,L d=s→ρ d=some rt→Yfv w' M L ρ (a.put (some d) u) v u) :
  ∃ C',Inv Z (S.ap p) C' (a.put (some d) u) w':=by
 obtain⟨hle,hptm,hprt,hks1,hks2⟩:=Yl7 h
 have hρ:p.roots S=((K.roots S).set d none).set d (some rt):=by
  funext i
  unfold Patch.roots Yp.roots Yc.set;rw[hprt]
  by_cases e:i=d
  ·subst e;rw[Yl];simp
  ·rw[Yv e];simp only[jM e];cases lk i K.rt<;>rfl
 obtain⟨W1,m1⟩:=T.str.weak (ρ':=(K.roots S).set d none) (G':=G) (fun i R' h=>by
   by_cases e:i=d
   ·subst e;rw[Yc.Yo] at h;cases h
   ·rwa [Yc.Yn _ _ e] at h) (fun b hb=>.inl hb)
 have g1:=T.str.Yci m1 ⟨fun i _=>i=d,fun i _=>i=d⟩
  (fun i R' q h1 h2=>by rw[Yc.Yn _ _ h2];exact h1) (fun i R' q h1 h2=>by rw[Yc.Yn _ _ h2];exact h1)
 obtain⟨W2,g2⟩:=W1.hand H.sz H.same H.g H.os H.tape H.output
 have hsub:Ye (Mt Z C1 ((K.roots S).set d none) G1) (fun b=>Mt Z C1 (K.roots S) G b∨w.heap.size≤b):=by
  rintro b (h | h | h)
  ·exact .inl (m1 b (.inl h))
  ·rcases H.g b h with h | h
   ·exact .inl (.inr (.inl h))
   ·exact .inr h.1
  ·exact .inl (.inr (.inr h))
 have hex:∀ b,G b→¬ G1 b→¬ Mt Z C1 ((K.roots S).set d none) G1 b:=by
  rintro b hG hG1 (⟨r,R',h1,h2⟩ | h | h)
  ·refine T.str.gdis r R' ?_ b h2 hG
   by_cases e:r=d
   ·subst e;rw[Yc.Yo] at h1;cases h1
   ·rwa [Yc.Yn _ _ e] at h1
  ·exact hG1 h
  ·exact(T.str.gbnd b hG).2.2.1 h
 obtain⟨W3,g3⟩:=W2.new (d:=d) (R:=rt) (s:=s) (Fn:=Fn) (G':=noB) (Yc.Yo _ _ _) (hnp d hle) (hr _ hsub hex (fun b h=>.inr (.inl h))) hF (fun _ h=>h.elim) (fun _ h=>h.elim)
  (by
   rcases hk with hk | ⟨k1,b,off,k2,k3,k4,k5⟩
   ·exact .inl hk
   ·exact .inr ⟨k1,b,off,k2,k3,k4,fun h=>h,k5⟩)
 refine⟨C1.set d s Fn,Inv.ap (Q:=fun _ _=>False) (dst:=some d) I (by rw[hρ];exact W3.lf (fun _ _ h=>.inl h)) (by rw[hρ];exact((T.gs.trans g1).trans g2).trans g3)
  (fun _ _ h=>h.elim) ?_ ?_ hgd ?_ ?_⟩
 ·rintro r q R hR (((h | h) | h) | h)
  ·obtain⟨k,k1,k2⟩:=T.cl r q h;exact⟨k,hks1 k k1,k2⟩
  ·cases h;exact⟨_,hks2 R hR,rfl,rfl⟩
  ·exact h.elim
  ·exact h.elim
 ·rintro r q R hR (((h | h) | h) | h)
  ·obtain⟨k,k1,k2⟩:=T.cs r q h;exact⟨k,hks1 k k1,k2⟩
  ·cases h;exact⟨_,hks2 R hR,rfl,rfl⟩
  ·exact h.elim
  ·exact h.elim
 ·intro d' e;cases e;exact⟨hd,v,by rw[hptm];exact Yl _ _ _⟩
 ·intro i v' h
  rw[hptm] at h
  by_cases e:i=d
  ·subst e;rw[Yl] at h;cases h
   exact⟨rfl,hv _ _ _ (by simp[Cx.set]) (by rw[hρ,Yc.Yo])⟩
  ·rw[Yv e] at h;cases h
theorem Ydh (I:Inv Z S C a w) (T:Y0 Z S C w K G C1 D) {np d:Nat} {v:TV} {rt:Root} {p:Patch} {u:Value} {s:Src} {Fn G1:Yd}
  (h:(Yao np d v rt K).run S=some p) (hnp:∀ i,np≤i→Z.P i=none) (hgd:Yu S (some d)) (hd:d<Z.nt)
  (H:Yb5 w w' G G1)
  (hr:∀ M,Ye M (fun b=>Mt Z C1 (K.roots S) G b∨w.heap.size≤b)→Ya w' M (Yi w (Mt Z C S.root noB) C.L S.root) rt.tv s Fn) (hF:Ye Fn G1)
  (hk:(rt.k=.reg∧∃ cs,s=.reg cs 0)∨(rt.k=.mem∧∃ b off,s=.mem b off∧G1 b∧¬ Fn b∧Room w' b off rt.tv.size))
  (hv:∀ M L ρ,L d=s→ρ d=some rt→Yfv w' M L ρ (a.put (some d) u) v u) :
  ∃ C',Inv Z (S.ap p) C' (a.put (some d) u) w':=
 Yer I T h hnp hgd hd H (fun M hM _ _=>hr M hM) hF hk hv
def Yad (w:World) (cs:Array Value) (e:TypeId):World:={w with heap:=w.heap.push (.cells cs e) }
theorem Ypp (w:World) (cs:Array Value) (e:TypeId):(Yad w cs e).heap[w.heap.size]? = some (.cells cs e):=by
 show(w.heap.push (.cells cs e))[w.heap.size]? = _;rw[Array.getElem?_push_size]
theorem Ydr (w:World) (cs:Array Value) (e:TypeId) (i:Nat):(Yad w cs e).cell? ⟨w.heap.size,i,none⟩=cs[i]?:=by
 simp only[World.cell?,Ypp];rfl
theorem Ynd (w:World) (cs:Array Value) (e:TypeId) (i:Nat):(Yad w cs e).frozen? ⟨w.heap.size,i,none⟩=false:=by
 simp only[World.frozen?,Ypp];simp
theorem Yck (w:World) (cs:Array Value) (e:TypeId) (h:b<w.heap.size):Same w (Yad w cs e) b:=by
 unfold Same Yad;simp[Array.getElem?_push,Nat.ne_of_lt h]
theorem Yg8 (w:World) (cs:Array Value) (e:TypeId) (G:Yd):Yb5 w (Yad w cs e) G (fun b=>G b∨b=w.heap.size) where
 sz:=by simp[Yad]
 same:=fun b hb _=>Yck w cs e hb
 g:=fun b h=>h.imp id (fun h=>by subst h;exact⟨jB _,by simp[Yad]⟩)
 os:=rfl
 tape:=rfl
 output:=rfl
theorem Yg9 (w:World) (cs:Array Value) (e:TypeId) (h:n≤cs.size):Room (Yad w cs e) w.heap.size 0 n:=by
 intro i hi;rw[jJ,Ydr,Ynd]
 exact⟨by simp;omega,rfl⟩
theorem Ya.push (h:Ya w M1 Lf c s F) (cs:Array Value) (e:TypeId) (hM:Ye M (fun b=>M1 b∨w.heap.size≤b)) (hF:∀ b,F b→b<w.heap.size)
  (hs:∀ b off,s=.mem b off→b<w.heap.size):Ya (Yad w cs e) M Lf c s F:=by
 refine h.go ⟨by simp[Yad],fun b hb=>Yck w cs e (hF b hb),fun b h1 h2=>⟨Yck w cs e h2,fun h=>(hM b h).elim h1 (fun h=>by omega)⟩⟩ (fun i _=>?_) (fun _ _ x=>x)
 cases s with
 |reg cs o=>rfl
 |mem b off=>exact(Yck w cs e (hs b off rfl)).cell _
theorem Yt:∀ t:Ty,(Yy t).length=t.size:=by
 intro t
 induction t with
 |pair a b iha ihb=>simp[Yy,Ty.size,iha,ihb]
 |arr n e ih=>simp[Yy,Ty.size,ih]
 |_=>rfl
theorem Yo5 (n:Nat) (e:Ty) (hi:i<n) (hj:j<e.size):(Yy (.arr n e))[i*e.size+j]? = (Yy e)[j]?:=by
 simp only[Yy]
 induction n generalizing i with
 |zero=>omega
 |succ n ih=>
  rw[List.replicate_succ,List.flatten_cons]
  cases i with
  |zero=>rw[Nat.zero_mul,jJ,List.getElem?_append_left (by rw[Yt];exact hj)]
  |succ i=>
   rw[List.getElem?_append_right (by rw[Yt,jY];omega),Yt]
   rw[show(i+1)*e.size+j-e.size=i*e.size+j by rw[jY];omega]
   exact ih (by omega)
theorem Yba:∀ (t:Ty) {o:Ow} {s:Src},(∀ i,i<t.size→s.cell w i=(Yy t)[i]?)→Rep w M t o t.zero s noB:=by
 intro t
 induction t with
 |int k=>intro o s h;exact h 0 (by simp[Ty.size])
 |bool=>intro o s h;exact h 0 (by simp[Ty.size])
 |str=>intro o s h;exact⟨⟨#[]⟩,h 0 (by simp[Ty.size]),rfl⟩
 |unit=>intro o s h;trivial
 |pair a b iha ihb=>
  intro o s h;refine⟨noB,noB,iha (fun i hi=>?_),ihb (fun i hi=>?_),fun _ x=>x.elim,fun _ x=>x.elim,fun _ x=>x.elim⟩
  ·rw[h i (by simp[Ty.size];omega)];simp only[Yy];rw[List.getElem?_append_left (by rw[Yt];exact hi)]
  ·rw[Src.Yk,h _ (by simp[Ty.size];omega)];simp only[Yy];rw[List.getElem?_append_right (by rw[Yt];omega),Yt]
   congr 1;omega
 |sl e ih=>intro o s h;exact Rep.nil (h 0 (by simp[Ty.size]))
 |arr n e ih=>
  intro o s h
  refine⟨by simp[Ty.zero],fun _=>noB,fun i hi=>⟨?_,fun _ x=>x.elim⟩,fun _ _ _ _ _ x=>x.elim⟩
  have hi':i<n:=by simpa [Ty.zero] using hi
  simp only[Ty.zero,List.getElem_replicate];refine ih (fun j hj=>?_);have:=Yaw (n:=n) (sz:=e.size) hi'
  rw[Src.Yk,h _ (by simp only[Ty.size];omega),Yo5 n e hi' hj]
theorem Yh2:∀ t:Ty,(Yed t).size=t.size:=by
 intro t
 induction t with
 |pair a b iha ihb=>simp only[Yed];split<;>simp[TV.size,Ty.size,iha,ihb]
 |_=>rfl
theorem Yh1:∀ (t:Ty) {s:Src},(∀ i,i<t.size→s.cell w i=(Yy t)[i]?)→Ya w M (Yi w0 M' L ρ) (Yed t) s noB:=by
 intro t
 induction t with
 |sl e ih=>intro s h;exact⟨_,h 0 (by simp[Ty.size]),none,rfl⟩
 |pair a b iha ihb=>
  intro s h;simp only[Yed]
  split
  ·exact Yba (.pair a b) h
  ·refine⟨noB,noB,iha (fun i hi=>?_),ihb (fun i hi=>?_),fun _ x=>x.elim,fun _ x=>x.elim,fun _ x=>x.elim⟩
   ·rw[h i (by simp[Ty.size];omega)];simp only[Yy];rw[List.getElem?_append_left (by rw[Yt];exact hi)]
   ·rw[Src.Yk,Yh2,h _ (by simp[Ty.size];omega)];simp only[Yy];rw[List.getElem?_append_right (by rw[Yt];omega),Yt]
    congr 1;omega
 |int k=>intro s h;exact Yba (.int k) h
 |bool=>intro s h;exact Yba .bool h
 |str=>intro s h;exact Yba .str h
 |unit=>intro s h;exact Yba .unit h
 |arr n e ih=>intro s h;exact Yba (.arr n e) h
theorem Yo6 (t:Ty) (h:∀ i,i<t.size→s.cell w i=(Yy t)[i]?):Ya w M (Yi w M L ρ) (Yed t) s noB:=Yh1 t h
variable {o:Oper}
def Done (P:Program) (o:Oper) (a:Act) (w:World) (Nx:Value→World→Prop):Prop:=
 (∃ u w',((execOp a.eval o).run P w=.ok (.value u) w'∨(u=undef∧(execOp a.eval o).run P w=.ok .skip w'))∧Nx u w')∨False
theorem Yrd (ht:Yaf P tb) (I:Inv Z S C a w) {np d:Nat} {t:TypeId} (ho:o.op=.alloc t) (hd:o.dst=some d) {b:Option Bool} {p:Patch} (hnp:∀ i,np≤i→Z.P i=none) (hgd:Yu S (some d)) (hdn:d<Z.nt)
  (h:(doR tb hn np g o).run S=some (.step b p)):Done P o a w fun u w'=>∃ C',Inv Z (S.ap p) C' (a.put o.dst u) w':=by
 simp only[doR,ho,hd] at h;replace h:=RD.bind_some h;obtain⟨i,h1,h⟩:=h;replace h:=RD.bind_some h;obtain⟨p',h2,h⟩:=h;cases h;obtain⟨_,⟨j,hj,hjs,z,hz,hzc⟩⟩:=ht t i (Yq h1);refine .inl ⟨.pointer (some ⟨w.heap.size,0,none⟩),Yad w z.cells t,.inl ?_,?_⟩
 ·simp[execOp,ho,Instr.alloc,zeroValue,typeInfo,hj,hz,newVar,newRow,Yad]
 ·rw[hd]
  have hsz:i.ty.size=z.cells.size:=by rw[←Yt,←hzc];simp
  generalize hct:Ylg hn d i.ty=ct at h2;unfold Ylg at hct
  have hcs:ct.size=i.ty.size:=by rw[←hct];split<;>first | exact Yh2 _ | rfl
  have hcell:∀ k,k<i.ty.size→(Src.mem w.heap.size 0).cell (Yad w z.cells t) k=(Yy i.ty)[k]?:=fun k hk=>by
   simp only[Src.cell,jJ];rw[Ydr,←hzc,Array.getElem?_toList]
  refine Ydh I (Y0.start I) (s:=.mem w.heap.size 0) (Fn:=noB) h2 hnp hgd hdn (Yg8 w z.cells t noB) (fun M hM=>?_) (fun _ h=>h.elim)
   (.inr ⟨rfl,w.heap.size,0,rfl,.inr rfl,fun h=>h,Yg9 w z.cells t (by show ct.size≤_;rw[hcs,←hsz];exact jB _)⟩) (fun M L ρ hL hρ=>?_)
  ·show Ya _ _ _ ct _ _
   rw[←hct]
   split
   ·exact Yh1 i.ty hcell
   ·exact Yba i.ty hcell
  ·exact Yb.Yah (v:=.loc d []) ⟨_,w.heap.size,0,hρ,by rw[Yf,hL],rfl⟩
end
section
variable {a:Act}
variable {o:Oper}
theorem VOk.rep (h:VOk w M L ρ v u) (hv:∀ l,v≠.tup l):Ya w M (Yi w M L ρ) v (.reg u.cells.toList 0) noB∧u.cells.size=v.size:=
 ⟨(h.val hv).1,(h.val hv).2.1⟩
theorem Ydu (q np:Nat) (t:Ty) (K:Yp) (l:TV) (h:(Ya4 q np K t (.tup l)).run S=some r):False:=by cases t<;>cases h
theorem Yuq (I:Inv Z S C a w) {np d:Nat} {t:TypeId} {x:Operand} (ho:o.op=.box t x) (hd:o.dst=some d) {b:Option Bool} {p:Patch} (hnp:∀ i,np≤i→Z.P i=none) (hgd:Yu S (some d)) (hdn:d<Z.nt) (hg:Yax a g)
  (h:(doR tb hn np g o).run S=some (.step b p)):Done P o a w fun u w'=>∃ C',Inv Z (S.ap p) C' (a.put o.dst u) w':=by
 simp only[doR,ho,hd] at h;replace h:=RD.bind_some h;obtain⟨v,h1,h⟩:=h;have hv:=Yg I hg h1
 have hexec:(execOp a.eval o).run P w=.ok (.value (.pointer (some ⟨w.heap.size,0,none⟩))) (Yad w (a.eval x).cells t):=by
  simp[execOp,ho,Instr.box,newVar,newRow,Yad]
 rw[hd];unfold Yvp at h
 split at h
 ·
  rename_i ty y hfz hfr;simp only[jC,Bool.not_eq_true'] at hfz;refine .inl ⟨_,_,.inl hexec,?_⟩
  obtain⟨oo,rfl,hshp⟩:∃ oo,v=.cl oo ty y∧(oo=.sh∨ty.pure=true):=by
   cases v with
   |cl oo t' y'=>
    simp only[TV.Ys8] at hfr
    split at hfr
    ·rename_i ho'
     cases hfr;refine⟨_,rfl,?_⟩;unfold Yj8 at ho'
     split at ho'
     ·cases ho'
     ·exact .inl ho'
    ·cases hfr
    ·split at hfr
     ·cases hfr;exact⟨_,rfl,.inr (by assumption)⟩
     ·cases hfr
   |_=>cases hfr
  have hval:=(hv:Yb _ _ _ _ _ _)
  have hrep:Rep w (Mt Z C S.root noB) ty .sh y (.reg (a.eval x).cells.toList 0) noB:=by
   rcases hshp with rfl | hp
   ·exact hval.1
   ·exact Rep.pure hp hval.1 (fun _ _=>rfl)
  have hpt:p.tm=[(d,.pt ty y)]∧p.rt=[(d,none)]∧(∀ R,S.root d=some R→(d,none)∈p.ks):=by
   simp only[RD.run] at h
   split at h
   ·cases h;exact⟨rfl,rfl,fun R _=>jF⟩
   ·rename_i hr;cases h;exact⟨rfl,rfl,fun R hR=>absurd hR (by rw[hr];simp)⟩
  obtain⟨e1,e2,e3⟩:=hpt
  have hρ:p.roots S=Yc.set S.root d none:=by
   funext i
   unfold Patch.roots Yc.set;rw[e2]
   by_cases e:i=d
   ·subst e;rw[Yl,jL rfl]
   ·rw[Yv e,jM e];rfl
  obtain⟨W1,m1⟩:=I.str.weak (ρ':=Yc.set S.root d none) (G':=noB) (fun i R' h=>by
    by_cases e:i=d
    ·subst e;rw[Yc.Yo] at h;cases h
    ·rwa [Yc.Yn _ _ e] at h) (fun b hb=>.inl hb)
  have g1:=I.str.Yci m1 ⟨fun i _=>i=d,fun i _=>i=d⟩
   (fun i R' q h1 h2=>by rw[Yc.Yn _ _ h2];exact h1) (fun i R' q h1 h2=>by rw[Yc.Yn _ _ h2];exact h1)
  obtain⟨W2,g2⟩:=W1.hand (w':=Yad w (a.eval x).cells t) (G':=noB) (by simp[Yad]) (fun b hb _=>Yck w _ t hb) (fun b h=>h.elim) rfl rfl rfl
  refine⟨C,Inv.ap (Q:=fun _ _=>False) (dst:=some d) I (by rw[hρ];exact W2.lf (fun _ _ h=>.inl h)) (by rw[hρ];exact g1.trans g2) (fun _ _ h=>h.elim) ?_ ?_ hgd ?_ ?_⟩
  ·rintro r q R hR (h | h)
   ·cases h;exact⟨_,e3 R hR,rfl,rfl⟩
   ·exact h.elim
  ·rintro r q R hR (h | h)
   ·cases h;exact⟨_,e3 R hR,rfl,rfl⟩
   ·exact h.elim
  ·intro d' e;cases e;exact⟨hdn,_,by rw[e1];exact Yl _ _ _⟩
  ·intro i v' hl
   rw[e1] at hl
   by_cases e:i=d
   ·subst e;rw[Yl] at hl;cases hl
    refine⟨rfl,Yb.Yah (v:=.pt ty y) ⟨w.heap.size,0,rfl,?_,by simp[Yad],?_⟩⟩
    ·
     rintro(⟨r,R,k1,k2⟩ | k | k)
     ·rw[hρ] at k1
      rcases k2 with k2 | ⟨kk,off,k2⟩
      ·have:=(W1.bnd r R _ k1 k2).1;omega
      ·obtain⟨b',off',e',_,k3,_⟩:=W1.mem r R k1 kk
       rw[k2] at e';cases e';omega
     ·exact k
     ·have:=I.str.xb _ k;have:=I.str.sz;omega
    ·rw[hρ]
     refine(hrep.go (w':=Yad w (a.eval x).cells t) (M':=Mt Z C (Yc.set S.root i none) noB) ⟨by simp[Yad],fun b hb=>hb.elim,fun b k1 k2=>⟨Yck w _ t k2,fun k=>k1 (m1 b k)⟩⟩ (fun _ _=>rfl)).mv (fun i hi=>?_)
     simp only[Src.cell,jJ];rw[Ydr,Array.getElem?_toList]
   ·rw[Yv e] at hl;cases hl
 ·replace h:=RD.bind_some h;obtain⟨⟨c,K⟩,h2,h⟩:=h
  replace h:=RD.bind_some h;obtain⟨p',h3,h⟩:=h;cases h
  obtain⟨hr,hsz⟩:=hv.rep (fun l e=>by subst e;exact Ydu _ _ _ _ _ h2)
  obtain⟨C2,D2,F,G',T,g1,g2,g3,g4,rc,m,sc⟩:=Yb9 _ np v _ (Y0.start I) (fun _ h=>h) hr h2;have hb:∀ b,G' b→b<w.heap.size:=fun b h=>(T.str.gbnd b h).1;refine .inl ⟨.pointer (some ⟨w.heap.size,0,none⟩),Yad w (a.eval x).cells t,.inl hexec,?_⟩
  refine Ydh I T (s:=.mem w.heap.size 0) (Fn:=F) h3 hnp hgd hdn (Yg8 w (a.eval x).cells t G') (fun M hM=>?_) (fun b h=>.inl (g2 b h))
   (.inr ⟨rfl,w.heap.size,0,rfl,.inr rfl,fun h=>absurd (hb _ (g2 _ h)) (Nat.lt_irrefl _),Yg9 w _ t (by rw[sc,hsz];exact jB _)⟩) (fun M L ρ hL hρ=>?_)
  ·refine(rc.push (a.eval x).cells t hM (fun b h=>hb b (g2 b h)) (fun b off e=>by cases e)).mv (fun i hi=>?_)
   simp only[Src.cell,jJ];rw[Ydr,Array.getElem?_toList]
  ·exact Yb.Yah (v:=.loc d []) ⟨_,w.heap.size,0,hρ,by rw[Yf,hL],rfl⟩
theorem Yjo (I:Inv Z S C a w) (T:Y0 Z S C w K G C1 D) {np d:Nat} {oo:Ow} {e:Ty} {xs:List e.El} {p:Patch} {u:Value} {A:Option Addr} {n c:Nat} {Fn G1:Yd}
  (h:(Yao np d (.seg d []) ⟨.reg,.cl oo (.sl e) xs⟩ K).run S=some p) (hnp:∀ i,np≤i→Z.P i=none) (hgd:Yu S (some d)) (hd:d<Z.nt)
  (H:Yb5 w w' G G1) (hu:u=.slice A n c)
  (hr:∀ M,Ye M (fun b=>Mt Z C1 (K.roots S) G b∨w.heap.size≤b)→(∀ b,G b→¬ G1 b→¬ M b)→Ye G1 M→Rep w' M (.sl e) oo xs (.reg [u] 0) Fn) (hF:Ye Fn G1) :
  ∃ C',Inv Z (S.ap p) C' (a.put (some d) u) w':=by
 refine Yer I T h hnp hgd hd H hr hF (.inl ⟨rfl,[u],rfl⟩) (fun M L ρ hL hρ=>?_)
 exact Yb.Yah (v:=.seg d []) ⟨_,_,oo,e,xs,hρ,Yf _ _ _,TV.get_nil _,by rw[hL];rfl,A,n,c,hu⟩
theorem Ye5 (I:Inv Z S C a w) (T:Y0 Z S C w K G C1 D) {np d:Nat} {oo:Ow} {e:Ty} {xs:List e.El} {p:Patch} {u:Value} {A:Option Addr} {n c:Nat} {Fn G1:Yd}
  (h:(Yao np d (.seg d []) ⟨.reg,.cl oo (.sl e) xs⟩ K).run S=some p) (hnp:∀ i,np≤i→Z.P i=none) (hgd:Yu S (some d)) (hd:d<Z.nt)
  (H:Yb5 w w' G G1) (hu:u=.slice A n c)
  (hr:∀ M,Ye M (fun b=>Mt Z C1 (K.roots S) G b∨w.heap.size≤b)→Rep w' M (.sl e) oo xs (.reg [u] 0) Fn) (hF:Ye Fn G1) :
  ∃ C',Inv Z (S.ap p) C' (a.put (some d) u) w':=by
 refine Ydh I T h hnp hgd hd H hr hF (.inl ⟨rfl,[u],rfl⟩) (fun M L ρ hL hρ=>?_)
 exact Yb.Yah (v:=.seg d []) ⟨_,_,oo,e,xs,hρ,Yf _ _ _,TV.get_nil _,by rw[hL];rfl,A,n,c,hu⟩
theorem Yur (ht:Yaf P tb) (I:Inv Z S C a w) {np d:Nat} (ho:o.op=.assign (.const (.slice none 0 0))) (hd:o.dst=some d) {b:Option Bool} {p:Patch} (hnp:∀ i,np≤i→Z.P i=none) (hgd:Yu S (some d)) (hdn:d<Z.nt)
  (h:(doR tb hn np g o).run S=some (.step b p)):Done P o a w fun u w'=>∃ C',Inv Z (S.ap p) C' (a.put o.dst u) w':=by
 simp only[doR,ho,hd] at h;replace h:=RD.bind_some h;obtain⟨i,h1,h⟩:=h
 split at h
 ·rename_i e _
  replace h:=RD.bind_some h;obtain⟨p',h2,h⟩:=h;cases h
  refine .inl ⟨.slice none 0 0,w,.inl (by simp[execOp,ho,Act.eval]),?_⟩
  rw[hd];exact Ye5 I (Y0.start I) (Fn:=noB) h2 hnp hgd hdn (Yb5.refl w noB) rfl (fun M hM=>Rep.nil rfl) (fun _ h=>h.elim)
 ·cases h
theorem Ytl {w:World} {M:Yd} {e:Ty} {xs:List e.El} {cs:Array Value} {te:TypeId} {len cap:Nat} (hlen:xs.length=len) (hc:len≤cap) (hs:cs.size=cap*e.size)
  {oo:Ow} (ho:oo≠.sh) {F:Yd} {Fs:Nat→Yd} (hF:F w.heap.size) (hFs:∀ i,i<len→Ye (Fs i) F∧¬ Fs i w.heap.size) (hd:∀ i j,i<j→j<len→Dis (Fs i) (Fs j))
  (hr:∀ i (h:i<xs.length),Rep (Yad w cs te) M e oo.elem (xs[i]'h) (.mem w.heap.size (0+i*e.size)) (Fs i)) :
  Rep (Yad w cs te) M (.sl e) oo xs (.reg [.slice (some ⟨w.heap.size,0,none⟩) len cap] 0) F:=by
 subst hlen;refine⟨_,cap,rfl,hc,?_⟩
 have own:cap≠0→∃ b off,∃ Fs:Nat→Yd,(some ⟨w.heap.size,0,none⟩:Option Addr)=some ⟨b,off,none⟩∧F b∧Room (Yad w cs te) b off (cap*e.size)∧
   (∀ i (h:i<xs.length),Rep (Yad w cs te) M e oo.elem (xs[i]'h) (.mem b (off+i*e.size)) (Fs i)∧Ye (Fs i) F∧¬ Fs i b)∧(∀ i j,i<j→j<xs.length→Dis (Fs i) (Fs j)):=
  fun _=>⟨w.heap.size,0,Fs,rfl,hF,Yg9 w cs te (by omega),fun i hi=>⟨hr i hi,hFs i hi⟩,hd⟩
 cases oo with
 |sh=>exact absurd rfl ho
 |top=>exact own
 |deep=>exact own
theorem Ynt {z:Array Value} {e:Ty} {n i j:Nat} (hz:z.toList=Yy e) (hi:i<n) (hj:j<e.size):((Array.range (n*e.size)).map (z[· % z.size]!))[i*e.size+j]? = (Yy e)[j]?:=by
 have hsz:z.size=e.size:=by rw[←Yt,←hz];simp
 have h1:=Yaw (n:=n) (sz:=e.size) hi
 have hlt:i*e.size+j<n*e.size:=by omega
 rw[Array.getElem?_map,Array.getElem?_eq_getElem (by simpa using hlt)]
 simp only[jT,Array.getElem_range]
 have hm:(i*e.size+j) % z.size=j:=by rw[hsz,Nat.mul_comm,Nat.mul_add_mod,Nat.mod_eq_of_lt hj]
 rw[hm,←hz,Array.getElem?_toList,Array.getElem?_eq_getElem (by omega:j<z.size)]
 simp[getElem!_pos,show j<z.size by omega]
theorem wrap_small (h0:0≤n) (h1:n≤2147483648):IntKind.i64.wrap n=n:=by
 unfold IntKind.wrap
 have:n % (2 ^ IntKind.i64.bits:Int)=n:=Int.emod_eq_of_lt h0 (by simp[IntKind.bits];omega)
 simp only[this];simp[IntKind.bits,IntKind.signed];omega
theorem run_makeSlice (hd:P.underlying t=some (.slice e)) (hj:P.info? e=some j) (hz:j.zero=some z) (hby:j.bytes≤4096)
  (h0:0≤n) (h1:n≤m) (h2:m≤2147483648) :
  ∃ cs:Array Value,(Instr.makeSlice t (.int kn n) (.int km m)).run P w=.ok (.slice (some ⟨w.heap.size,0,none⟩) n.toNat m.toNat) (Yad w cs e)∧
   (cs=(Array.range (m.toNat*j.size)).map (z.cells[· % z.cells.size]!)∨(m.toNat*j.size=0∧cs=#[])):=by
 have wn:=wrap_small h0 (by omega)
 have wm:=wrap_small (n:=m) (by omega) h2
 have hby':(j.bytes:Int)*m≤281474976710656:=by
  have:(j.bytes:Int)*m≤4096*m:=Int.mul_le_mul_of_nonneg_right (by omega) (by omega)
  omega
 have t1:¬ (m<0):=by omega
 have t2:¬ (n<0):=by omega
 have t3:¬ ((j.bytes:Int)*m>281474976710656):=by omega
 have t4:¬ (n>m):=by omega
 by_cases hzero:m.toNat*j.size=0
 ·refine⟨#[],?_,.inr ⟨hzero,rfl⟩⟩
  simp[Instr.makeSlice,run_underlying hd,asInt,asIntOf,Yfe hj,wn,wm,t1,t2,t3,t4,Y3 hj,hzero,newRow,Yad,h0,h1]
  have e0:(Array.range 0)=#[]:=Array.eq_empty_of_size_eq_zero (by simp)
  simp[e0]
 ·refine⟨_,?_,.inl rfl⟩
  simp[Instr.makeSlice,run_underlying hd,asInt,asIntOf,Yfe hj,wn,wm,t1,t2,t3,t4,Y3 hj,hzero,newRow,Yad,zeroValue,hz,h0,h1]
theorem Ylo (ht:Yaf P tb) (I:Inv Z S C a w) {np d:Nat} {t:TypeId} {l c:Operand} (ho:o.op=.makeSlice t l c) (hd:o.dst=some d) {b:Option Bool} {p:Patch} (hnp:∀ i,np≤i→Z.P i=none) (hgd:Yu S (some d)) (hdn:d<Z.nt) (hg:Yax a g)
  (h:(doR tb hn np g o).run S=some (.step b p)) (hb:b≠some false):Done P o a w fun u w'=>∃ C',Inv Z (S.ap p) C' (a.put o.dst u) w':=by
 simp only[doR,ho,hd] at h;replace h:=RD.bind_some h;obtain⟨vl,h1,h⟩:=h;replace h:=RD.bind_some h;obtain⟨vc,h2,h⟩:=h;replace h:=RD.bind_some h;obtain⟨i,h3,h⟩:=h;have hl:=Yg I hg h1;have hc:=Yg I hg h2;obtain⟨⟨dd,hdd,hdk,_⟩,_⟩:=ht t i (Yq h3)
 split at h
 ·rename_i k1 n _ k2 m e _
  have hty:i.ty=.sl e:=by assumption
  replace h:=RD.bind_some h;obtain⟨p',h4,h⟩:=h;cases h;have hb':=Yae hb;simp only[jC,jI] at hb';obtain⟨b1,b2,b3⟩:=hb';have e1:=(hl:Yb _ _ _ _ _ _).int;have e2:=(hc:Yb _ _ _ _ _ _).int
  have hsl:∃ ee,dd=.slice ee∧∃ te j,i.ty=.sl te∧P.info? ee=some j∧j.size=te.size∧(∃ z,j.zero=some z∧z.cells.toList=Yy te)∧j.bytes≤4096:=by
   cases hid:i.d with
   |sl ee=>rw[hid] at hdk;obtain⟨q0,te,j,q1,q2,q3,q4,_,q5⟩:=hdk;exact⟨ee,q0,te,j,q1,q2,q3,q4,q5⟩
   |int k=>rw[hid] at hdk;have:=hdk.2;rw[hty] at this;cases this
   |bool=>rw[hid] at hdk;have:=hdk.2;rw[hty] at this;cases this
   |str=>rw[hid] at hdk;have:=hdk.2;rw[hty] at this;cases this
   |arr n e=>rw[hid] at hdk;obtain⟨_,te,j,q1,_⟩:=hdk;rw[hty] at q1;cases q1
   |st offs=>rw[hid] at hdk;obtain⟨_,_,q1,_⟩:=hdk;rw[hty] at q1;cases q1
   |_=>rw[hid] at hdk;exact hdk.elim
  obtain⟨ee,rfl,te,j,q1,q2,q3,⟨z,q4,q5⟩,q6⟩:=hsl
  obtain rfl:e=te:=by rw[hty] at q1;exact Ty.sl.inj q1
  obtain⟨cs,hrun,hcs⟩:=run_makeSlice (P:=P) (kn:=k1) (km:=k2) (w:=w) hdd q2 q4 q6 b1 b2 b3
  refine .inl ⟨_,_,.inl (by simp only[execOp,ho,e1,e2,Sem.run_bind,hrun,Result.andThen_ok];rfl),?_⟩
  rw[hd];refine Ye5 I (Y0.start I) (Fn:=fun b=>b=w.heap.size) h4 hnp hgd hdn (Yg8 w cs ee noB) rfl (fun M hM=>?_) (fun b h=>.inr h)
  have hlen:(List.replicate n.toNat e.zero).length=n.toNat:=by simp
  refine Ytl hlen (Int.toNat_le_toNat b2) ?_ (by simp) rfl (Fs:=fun _=>noB) (fun _ _=>⟨fun _ h=>h.elim,fun h=>h⟩) (fun _ _ _ _ _ h=>h.elim) (fun i hi=>?_)
  ·rcases hcs with rfl | ⟨h0,rfl⟩
   ·simp[q3]
   ·rw[←q3,h0];rfl
  ·simp only[List.getElem_replicate]
   refine Yba e (fun k hk=>?_)
   simp only[Src.cell];rw[show 0+i*e.size+k=i*e.size+k by omega,Ydr]
   have hi':i<m.toNat:=jX (by rw[hlen] at hi;exact hi) (Int.toNat_le_toNat b2)
   rcases hcs with rfl | ⟨h0,rfl⟩
   ·rw[q3];exact Ynt q5 hi' hk
   ·rw[q3] at h0
    rcases Nat.mul_eq_zero.1 h0 with h | h<;>omega
 ·cases h
end
theorem Yms (n:Nat):(TV.dead n).lay=.at∨(TV.dead n).lay=.dead n:=by
 by_cases h:n=1
 ·subst h;exact .inl rfl
 ·right;unfold TV.lay;split<;>simp_all
theorem Yl5 {w w':World}:∀ (p:Path) {a b:TV} {s s1:Src},p.flat=true→a.lay=b.lay→nav w a s p=some s1→nav w' b s p=some s1:=by
 intro p
 induction p with
 |nil=>intro a b s s1 _ _ h;rw[Yf] at h ⊢;exact h
 |cons c p ih=>
  intro a b s s1 hf hl hn
  have pairOf:∀ (v:TV) (l1 l2:Lay),v.lay=.pair l1 l2→∃ x y:TV,x.lay=l1∧y.lay=l2∧(∀ (w:World) (s:Src) q,nav w v s (.f1::q)=nav w x s q)∧(∀ (w:World) (s:Src) q,nav w v s (.f2::q)=nav w y (s.sh x.size) q):=by
   intro v l1 l2 h
   cases v with
   |pr x y=>simp only[TV.lay,Lay.pair.injEq] at h;exact⟨x,y,h.1,h.2,fun _ _ _=>rfl,fun _ _ _=>rfl⟩
   |cl o t z=>
    cases t with
    |pair t1 t2=>simp only[TV.lay,Ty.lay,Lay.pair.injEq] at h;exact⟨.cl o t1 z.1,.cl o t2 z.2,h.1,h.2,fun _ _ _=>rfl,fun _ _ _=>rfl⟩
    |_=>cases h
   |dead n=>rcases Yms n with e | e<;>rw[e] at h<;>cases h
   |_=>cases h
  have isPair:∃ l1 l2,a.lay=.pair l1 l2:=by
   cases a with
   |pr x y=>exact⟨_,_,rfl⟩
   |cl o t z=>cases t<;>cases c<;>first | exact⟨_,_,rfl⟩ | (simp[nav] at hn;done) | simp[Path.flat] at hf
   |rw o e xs i v=>cases c<;>first | (simp[nav] at hn;done) | simp[Path.flat] at hf
   |_=>cases c<;>simp[nav] at hn
  obtain⟨l1,l2,ha⟩:=isPair;obtain⟨x,y,x1,y1,na1,na2⟩:=pairOf a l1 l2 ha;obtain⟨x',y',x1',y1',nb1,nb2⟩:=pairOf b l1 l2 (hl▸ha)
  cases c with
  |el i=>simp[Path.flat] at hf
  |f1=>
   simp only[Path.flat] at hf;rw[na1] at hn;rw[nb1]
   exact ih hf (x1.trans x1'.symm) hn
  |f2=>
   simp only[Path.flat] at hf;rw[na2] at hn;rw[nb2,←TV.Yak (x1.trans x1'.symm)];exact ih hf (y1.trans y1'.symm) hn
theorem Yl6 {w w':World}:∀ (p:Path) {t t':Ty} {o o':Ow} {x:t.El} {x':t'.El} {s s1:Src},t.pure=true→t.lay=t'.lay→nav w (.cl o t x) s p=some s1→nav w' (.cl o' t' x') s p=some s1:=by
 intro p
 induction p with
 |nil=>intro t t' o o' x x' s s1 _ _ h;rw[Yf] at h ⊢;exact h
 |cons c p ih=>
  intro t t' o o' x x' s s1 hp hl hn
  cases t with
  |pair a b=>
   cases t' with
   |pair a' b'=>
    simp only[Ty.lay,Lay.pair.injEq] at hl;simp only[Ty.pure,jC] at hp
    cases c with
    |f1=>simp only[nav] at hn ⊢;exact ih hp.1 hl.1 hn
    |f2=>simp only[nav] at hn ⊢;rw[←Ty.lay_size a',←hl.1,Ty.lay_size];exact ih hp.2 hl.2 hn
    |el i=>simp[nav] at hn
   |_=>cases hl
  |arr n e=>
   cases t' with
   |arr n' e'=>
    simp only[Ty.lay,Lay.arr.injEq] at hl
    cases c with
    |el i=>
     simp only[nav] at hn ⊢
     split at hn
     ·rename_i hi
      rw[jL (by omega),←Ty.lay_size e',←hl.2,Ty.lay_size]
      exact ih (t:=e) hp hl.2 hn
     ·cases hn
    |f1=>simp[nav] at hn
    |f2=>simp[nav] at hn
   |_=>cases hl
  |sl e=>simp[Ty.pure] at hp
  |_=>cases c<;>simp[nav] at hn
theorem Ygb {w w':World}:∀ (p:Path) {t:Ty} {o:Ow} {x:t.El} {c:TV} {s s1:Src},t.pure=true→c.lay=t.lay→nav w (.cl o t x) s p=some s1→nav w' c s p=some s1:=by
 intro p
 induction p with
 |nil=>intro t o x c s s1 _ _ h;rw[Yf] at h ⊢;exact h
 |cons a p ih=>
  intro t o x c s s1 hp hl hn
  cases c with
  |cl o' t' x'=>exact Yl6 _ hp hl.symm hn
  |pr u v=>
   cases t with
   |pair t1 t2=>
    simp only[TV.lay,Ty.lay,Lay.pair.injEq] at hl;simp only[Ty.pure,jC] at hp
    cases a with
    |f1=>simp only[nav] at hn ⊢;exact ih hp.1 hl.1 hn
    |f2=>
     simp only[nav] at hn ⊢
     rw[show u.size=t1.size by rw[←TV.lay_size,hl.1,Ty.lay_size]];exact ih hp.2 hl.2 hn
    |el i=>simp[nav] at hn
   |_=>cases hl
  |dead n=>
   cases t<;>cases a<;>first | (simp[nav] at hn;done) | (simp[Ty.pure] at hp;done) | skip
   all_goals (rcases Yms n with e | e<;>rw[e] at hl<;>cases hl)
  |_=>
   cases t<;>cases a<;>first | (simp[nav] at hn;done) | (simp[Ty.pure] at hp;done) | cases hl
theorem Ymz:∀ (p:Path) {t:Ty} {o o':Ow} {x:t.El} {e:Ty} {xs:List e.El},t.pure=true→(TV.cl o t x).get p=some (.cl o' (.sl e) xs)→False:=by
 intro p
 induction p with
 |nil=>intro t o o' x e xs hp h;rw[TV.get_nil] at h;cases h;simp[Ty.pure] at hp
 |cons a p ih=>
  intro t o o' x e xs hp h
  cases t with
  |pair t1 t2=>
   simp only[Ty.pure,jC] at hp
   cases a with
   |f1=>exact ih hp.1 h
   |f2=>exact ih hp.2 h
   |el i=>cases h
  |arr n t1=>
   cases a with
   |el i=>exact ih (t:=t1) hp h
   |_=>cases h
  |sl t1=>simp[Ty.pure] at hp
  |_=>cases a<;>cases h
theorem setCells_size (b:Nat):∀ (vs:List Value) (o:Nat) (w:World),(w.setCells b o vs).heap.size=w.heap.size
 |[],_,_=>rfl
 |v::r,o,w=>by rw[World.setCells,setCells_size b r];simp[World.setCell]
theorem Y9 (b:Nat) {c:Nat} (h:c≠b):∀ (vs:List Value) (o:Nat) (w:World),Same w (w.setCells b o vs) c
 |[],_,_=>rfl
 |v::r,o,w=>by
  rw[World.setCells];refine Same.trans ?_ (Y9 b h r (o+1) _);unfold Same World.setCell;simp only[Array.getElem?_modify];rw[jM (fun e=>h e.symm)]
theorem Ynl (w:World) (b o:Nat) (vs:List Value) (c:Nat):Kp w (w.setCells b o vs) (.mem b o) vs.length c:=by
 simp only[Kp]
 split
 ·rename_i e
  subst e;exact⟨fun i hi=>World.cell?_setCells_out c vs o w ⟨c,i,none⟩ (fun _ _=>hi),fun i=>World.frozen?_setCells c vs o w _,fun i hi=>World.isSome_setCells c vs o w _ hi⟩
 ·rename_i e;exact Y9 b e vs o w
def Yei (w:World):Src→Nat→Prop
 |.mem b off,n=>Room w b off n
 |.reg _ _,_=>True
theorem Yei.sub {w:World} {s:Src} {n k m:Nat} (h:Yei w s n) (hk:k+m≤n):Yei w (s.sh k) m:=by
 cases s with
 |reg cs o=>trivial
 |mem b off=>intro i hi;have:=h (k+i) (by omega);simpa [Src.sh,kH] using this
theorem Ymd {w:World} {M:Yd}:∀ (p:Path) {Lf:TV→Value→Prop} {tv:TV} {s:Src} {F:Yd} {s':Src} {old n tv':TV},Ya w M Lf tv s F→nav w tv s p=some s'→tv.get p=some old→tv.set p n=some tv'→
  Yei w s tv.size→Yei w s' old.size:=by
 intro p
 induction p with
 |nil=>intro Lf tv s F s' old n tv' _ hn hg _ hr;rw[Yf] at hn;rw[TV.get_nil] at hg;cases hn;cases hg;exact hr
 |cons a p ih=>
  intro Lf tv s F s' old n tv' hrep hn hg hs hr
  cases tv with
  |pr x y=>
   obtain⟨F1,F2,h1,h2,_⟩:=hrep
   cases a with
   |f1=>
    simp only[nav] at hn;simp only[TV.get] at hg;simp only[TV.set] at hs
    split at hs
    ·rename_i x' hx;exact ih h1 hn hg hx (by have:=hr.sub (k:=0) (m:=x.size) (by simp[TV.size]);rwa [Src.Ydb] at this)
    ·cases hs
   |f2=>
    simp only[nav] at hn;simp only[TV.get] at hg;simp only[TV.set] at hs
    split at hs
    ·rename_i x' hx;exact ih h2 hn hg hx (hr.sub (by simp[TV.size]))
    ·cases hs
   |el i=>cases hn
  |cl o t z=>
   cases t with
   |pair t1 t2=>
    obtain⟨F1,F2,h1,h2,_⟩:=hrep
    cases a with
    |f1=>
     simp only[nav] at hn;simp only[TV.get] at hg;simp only[TV.set] at hs
     split at hs
     ·rename_i x' hx;exact ih (Lf:=Lf) (tv:=.cl o t1 z.1) h1 hn hg hx (by have:=hr.sub (k:=0) (m:=t1.size) (by simp[TV.size,Ty.size]);rwa [Src.Ydb] at this)
     ·cases hs
    |f2=>
     simp only[nav] at hn;simp only[TV.get] at hg;simp only[TV.set] at hs
     split at hs
     ·rename_i x' hx;exact ih (Lf:=Lf) (tv:=.cl o t2 z.2) h2 hn hg hx (hr.sub (by simp[TV.size,Ty.size]))
     ·cases hs
    |el i=>cases hn
   |sl e=>
    cases a with
    |el i=>
     simp only[nav] at hn
     split at hn
     ·rename_i hi
      split at hn
      ·rename_i b off l c hc
       have hgd:z.getD i e.zero=z[i]'hi:=Ym _ _ _ hi;obtain⟨A,c',q1,q2,q3⟩:=id (hrep:Rep w M (.sl e) o z s F);rw[hc] at q1;cases q1
       have own:∀ o:Ow,(c≠0→∃ b' off',∃ Fs:Nat→Yd,(some ⟨b,off,none⟩:Option Addr)=some ⟨b',off',none⟩∧F b'∧Room w b' off' (c*e.size)∧
         (∀ i (h:i<z.length),Rep w M e o.elem (z[i]'h) (.mem b' (off'+i*e.size)) (Fs i)∧Ye (Fs i) F∧¬ Fs i b')∧(∀ i j,i<j→j<z.length→Dis (Fs i) (Fs j)))→
         ∃ F',Rep w M e o.elem (z[i]'hi) (.mem b (off+i*e.size)) F'∧Yei w (.mem b (off+i*e.size)) e.size:=by
        intro o q3
        obtain⟨b',off',Fs,r1,_,r3,r4,_⟩:=q3 (by omega)
        cases r1;refine⟨_,(r4 i hi).1,fun j hj=>?_⟩
        have hle:=Yaw (n:=c) (sz:=e.size) (i:=i) (by omega)
        have:=r3 (i*e.size+j) (by omega)
        rwa [←kH] at this
       have fin:o≠.sh→(∃ F',Rep w M e o.elem (z[i]'hi) (.mem b (off+i*e.size)) F'∧Yei w (.mem b (off+i*e.size)) e.size)→Yei w s' old.size:=by
        rintro ho ⟨F',g1,g2⟩;obtain⟨_,tve,hs',_⟩:=Yjs hs;have hg':(TV.cl o.elem e (z.getD i e.zero)).get p=some old:=hg;rw[hgd] at hn hs' hg';exact ih (Lf:=Lf) (tv:=.cl o.elem e (z[i]'hi)) g1 hn hg' hs' g2
       cases o with
       |sh=>cases hs
       |top=>exact fin (by simp) (own .top q3)
       |deep=>exact fin (by simp) (own .deep q3)
      ·cases hn
     ·cases hn
    |f1=>cases hn
    |f2=>cases hn
   |arr m e=>
    cases a with
    |el i=>
     obtain⟨hlen,Fs,h2,_⟩:=hrep;simp only[nav] at hn
     split at hn
     ·rename_i hi
      have hi':i<z.length:=by omega
      have hgd:z.getD i e.zero=z[i]'hi':=Ym _ _ _ hi';simp only[TV.set] at hs
      split at hs
      ·rename_i tve h1
       have hg':(TV.cl o e (z.getD i e.zero)).get p=some old:=hg;rw[hgd] at hn h1 hg'
       exact ih (Lf:=Lf) (tv:=.cl o e (z[i]'hi')) (h2 i hi').1 hn hg' h1 (hr.sub (by simp only[TV.size,Ty.size];exact Yaw hi))
      ·cases hs
     ·cases hn
    |f1=>cases hn
    |f2=>cases hn
   |_=>cases a<;>cases hn
  |rw o e xs i v=>
   cases a with
   |f1=>cases hn
   |f2=>cases hn
   |el j=>
    obtain⟨_,rfl,tve,h1,_⟩:=Yjr hs;obtain⟨_,hsz,_,b,off,c,h4,h5,Fs,_,h7,h8,_,h10⟩:=hrep;obtain⟨hj,hn⟩:=Yfq h4 hn;rw[jL rfl] at hn;rw[Ycs,jL rfl] at hg;refine ih h10 hn hg h1 ?_;rw[hsz];intro k hk
    have hle:=Yaw (n:=c) (sz:=e.size) (i:=j) (by omega)
    have:=h7 (j*e.size+k) (by omega)
    rwa [←kH] at this
  |_=>cases a<;>cases hn
section
variable {a:Act}
variable {o:Oper}
theorem Yaa (g:Nat):∀ (vs:List Value) (o:Nat) (w:World),(w.setCells g o vs).tape=w.tape
 |[],_,_=>rfl
 |v::r,o,w=>by rw[World.setCells,Yaa g r];rfl
theorem Yrk:∀ (p:Path) {tv u:TV},tv.Ymw p=some (true,u)→tv.get p=some u:=by
 intro p
 induction p with
 |nil=>
  intro tv u h;rw[TV.get_nil]
  have:some (true,tv)=some (true,u):=by cases tv<;>exact h
  cases this;rfl
 |cons a p ih=>
  intro tv u h
  cases tv with
  |pr x y=>cases a<;>first | exact ih h | cases h
  |rw o e xs i v=>
   cases a with
   |el j=>
    simp only[TV.Ymw] at h
    split at h
    ·rename_i c u' h1
     cases c with
     |false=>simp at h
     |true=>
      simp only[Bool.and_true,jD,jV] at h;obtain⟨h2,rfl⟩:=h;rw[Ycs,jL (Nat.eq_of_beq_eq_true h2)];exact ih h1
    ·cases h
   |_=>cases h
  |_=>cases a<;>cases h
theorem Yrp:∀ (p:Path) {tv n tv':TV},tv.Yh4 p n=some (true,tv')→tv.set p n=some tv':=by
 intro p
 induction p with
 |nil=>
  intro tv n tv' h;rw[TV.set_nil]
  have:some (true,n)=some (true,tv'):=by cases tv<;>exact h
  cases this;rfl
 |cons a p ih=>
  intro tv n tv' h
  cases tv with
  |pr x y=>
   cases a with
   |f1=>
    simp only[TV.Yh4] at h
    split at h
    ·rename_i c a' h1;cases h;simp only[TV.set,ih h1]
    ·cases h
   |f2=>
    simp only[TV.Yh4] at h
    split at h
    ·rename_i c a' h1;cases h;simp only[TV.set,ih h1]
    ·cases h
   |_=>cases h
  |rw o e xs i v=>
   cases a with
   |el j=>
    have key:o≠.sh→(match v.Yh4 p n with
      |some (c,tv)=>match Ybs o e xs i tv with | some tv'=>some (Nat.beq j i&&c,tv') | none=>none
      |none=>none)=some (true,tv')→(match Nat.decEq j i with
      |isTrue _=>match v.set p n with
       |some tv=>Ybs o e xs i tv
       |none=>none
      |isFalse _=>none)=some tv':=by
     intro _ h
     split at h
     ·rename_i c tv h1
      split at h
      ·rename_i tv2 h2
       simp only[jD,jV,jC] at h;obtain⟨⟨h3,rfl⟩,rfl⟩:=h;rw[Yh8 (Nat.eq_of_beq_eq_true h3)];simp only[ih h1];exact h2
      ·cases h
     ·cases h
    cases o with
    |sh=>cases h
    |top=>exact key (by simp) h
    |deep=>exact key (by simp) h
   |_=>cases o<;>cases h
  |_=>cases a<;>cases h
theorem Yp6:∀ (p:Path) {tv n tv' u:TV} {c c':Bool},tv.Yh4 p n=some (c',tv')→tv.Ymw p=some (c,u)→c'=c:=by
 intro p
 induction p with
 |nil=>
  intro tv n tv' u c c' h g
  have h:some (true,n)=some (c',tv'):=by cases tv<;>exact h
  have g:some (true,tv)=some (c,u):=by cases tv<;>exact g
  cases h;cases g;rfl
 |cons a p ih=>
  intro tv n tv' u c c' h g
  cases tv with
  |pr x y=>
   cases a with
   |f1=>
    simp only[TV.Yh4] at h
    split at h
    ·rename_i c a' h1;cases h;exact ih h1 g
    ·cases h
   |f2=>
    simp only[TV.Yh4] at h
    split at h
    ·rename_i c a' h1;cases h;exact ih h1 g
    ·cases h
   |_=>cases h
  |rw o e xs i v=>
   cases a with
   |el j=>
    simp only[TV.Ymw] at g
    split at g
    ·rename_i c0 u0 g1
     cases g
     have key:(match v.Yh4 p n with
      |some (c,tv)=>match Ybs o e xs i tv with | some tv'=>some (Nat.beq j i&&c,tv') | none=>none
      |none=>none)=some (c',tv')→c'=(Nat.beq j i&&c0):=by
      intro h
      split at h
      ·rename_i c tv h1
       split at h
       ·cases h;rw[ih h1 g1]
       ·cases h
      ·cases h
     cases o with
     |sh=>cases h
     |top=>exact key h
     |deep=>exact key h
    ·cases g
   |_=>cases o<;>cases h
  |_=>cases a<;>cases h
theorem Yqp (I:Inv Z S C a w) (T:Y0 Z S C w K G C1 D)
  (hlv:c.live=true) (hKr:K.roots S r=some R) (hn:nav w R.tv (C.L r) q=some (.mem b off)) (hget:R.tv.get q=some old) (hset:R.tv.set q c=some tv) (hlay:old.lay=c.lay)
  (hc:Ya w (Mt Z C1 (K.roots S) G) (Yi w (Mt Z C S.root noB) C.L S.root) c (.reg cs 0) F) (hF:Ye F G) (hcs:cs.length=c.size) (hone:∀ v∈cs,v.oneCell'=true)
  (hp:p=⟨[],(r,some ⟨R.k,tv⟩)::K.rt,Yjk r q K.ks old⟩) :
  ∃ C',Inv Z (S.ap p) C' (a.put none undef) (w.setCells b off cs):=by
 have hρ:p.roots S=(K.roots S).set r (some ⟨R.k,tv⟩):=by
  subst hp
  funext i
  unfold Patch.roots Yp.roots Yc.set
  by_cases e:i=r
  ·subst e;simp only[Yl,jL]
  ·simp only[Yv e,jM e];cases lk i K.rt<;>rfl
 have hn1:nav w R.tv (C1.L r) q=some (.mem b off):=by rw[T.L];exact hn
 obtain⟨Fo,Fr,f1,f2,f3,f4,f5,f6,f7⟩:=T.str.put hKr hn1 hget hset hlay.symm
 have hsz:old.size=cs.length:=by rw[hcs];exact TV.Yak hlay
 have hroom:Room w b off cs.length:=by
  rw[←hsz]
  have hr0:Yei w (C1.L r) R.tv.size:=by
   cases hk:R.k with
   |reg=>obtain⟨x,e⟩:=T.str.reg r R hKr hk;rw[e];trivial
   |mem=>obtain⟨b',off',e,_,_,h,_⟩:=T.str.mem r R hKr hk;rw[e];exact h
  exact Ymd q (T.str.rep r R hKr) hn1 hget hset hr0
 have hb0:Tot C1 r R b:=by
  rcases f5 with ⟨k,e',_⟩ | ⟨b1,o1,e',hf⟩
  ·obtain⟨o,e1,_⟩:=Src.Yat e'.symm
   refine .inr ⟨?_,o,e1⟩
   cases hk:R.k with
   |reg=>obtain⟨x,e⟩:=T.str.reg r R hKr hk;rw[e1] at e;cases e
   |mem=>rfl
  ·cases e';exact .inl (f2 _ hf)
 have hFb:¬ F b:=fun h=>T.str.gdis r R hKr b hb0 (hF b h)
 have hwr:Wr w (w.setCells b off cs) (.mem b off) old.size:=⟨setCells_size b cs off w,fun x=>by rw[hsz];exact Ynl w b off cs x⟩
 have hc':Ya (w.setCells b off cs) (Mt Z C1 (K.roots S) G) (Yi w (Mt Z C S.root noB) C.L S.root) c (.mem b off) F:=by
  have h1:Ya (w.setCells b off cs) (Mt Z C1 (K.roots S) G) (Yi w (Mt Z C S.root noB) C.L S.root) c (.reg cs 0) F:=
   hc.go ⟨by rw[setCells_size];exact jB _,fun x hx=>Y9 b (fun e=>hFb (e▸hx)) cs off w,fun x hx _=>⟨Y9 b (fun e=>hx (by rw[e];exact .inl ⟨r,R,hKr,hb0⟩)) cs off w,hx⟩⟩ (fun _ _=>rfl) (fun _ _ x=>x)
  refine h1.mv (fun i hi=>?_);simp only[Src.cell,jJ]
  rw[World.cell?_setCells_in b cs off w (fun j hj=>(hroom j hj).1) i (by omega),kV (by omega)]
 have fin:∀ (D2:Dd),(∀ i x,D2.l i x→(ddK p.ks).l i x)→(∀ i x,D2.s i x→(ddK p.ks).s i x)→
   (∀ i x,D.l i x→(ddK p.ks).l i x)→(∀ i x,D.s i x→(ddK p.ks).s i x)→
   (∀ t b1 off1,¬ D2.l r (q++t)→nav w old (.mem b off) t=some (.mem b1 off1)→nav (w.setCells b off cs) c (.mem b off) t=some (.mem b1 off1))→
   (∀ t s1,¬ D2.s r (q++t)→nav w old (.mem b off) t=some s1→∀ o e,∀ xs:List e.El,old.gr t=some (.cl o (.sl e) xs)→
     nav (w.setCells b off cs) c (.mem b off) t=some s1∧s1.cell (w.setCells b off cs) 0=s1.cell w 0∧∃ o',∃ xs':List e.El,c.gr t=some (.cl o' (.sl e) xs')∧xs'.length=xs.length)→
   ∃ C',Inv Z (S.ap p) C' (a.put none undef) (w.setCells b off cs):=by
  intro D2 k1 k2 k3 k4 h1 h2;obtain⟨W,Wg⟩:=f7 (w.setCells b off cs) F noB D2 hwr hc' (fun x h=>.inl (hF x h)) (fun _ h=>h.elim) (World.os_setCells w b off cs) (Yaa b cs off w) (World.output_setCells w b off cs) h1 h2
  refine⟨C1.Ydj r fun x=>Fr x∨F x,Inv.ap (Q:=fun _ _=>False) (dst:=none) (u:=undef) I (by rw[hρ];exact W.lf (fun _ _ h=>.inl h)) (by rw[hρ];exact T.gs.trans Wg) (fun _ _ h=>h.elim) ?_ ?_ (fun _ _ _ _ _ e=>by cases e) (fun _ e=>by cases e) ?_⟩
  ·rintro i x _ _ (h | h)
   ·exact k3 i x h
   ·exact k1 i x h
  ·rintro i x _ _ (h | h)
   ·exact k4 i x h
   ·exact k2 i x h
  ·intro i v h;rw[hp] at h;cases h
 have marks:p.ks=(r,some q)::K.ks→∃ C',Inv Z (S.ap p) C' (a.put none undef) (w.setCells b off cs):=by
  intro hks;refine fin ⟨fun i x=>i=r∧∃ t,x=q++t∧Path.flat t=false,fun i x=>i=r∧∃ t,x=q++t⟩ ?_ ?_ ?_ ?_ ?_ (fun t s1 hd=>absurd ⟨rfl,t,rfl⟩ hd)
  ·rintro i x ⟨rfl,t,rfl,ht⟩;rw[hks];exact⟨_,jF,rfl,by show Path.far q (q++t)=true;rw[Path.Yh9,ht];rfl⟩
  ·rintro i x ⟨rfl,t,rfl⟩;rw[hks];exact⟨_,jF,rfl,Path.Yie q t⟩
  ·intro i x h;rw[hks];exact Yby.1 i x (T.cl i x h)
  ·intro i x h;rw[hks];exact Yby.2 i x (T.cs i x h)
  ·intro t b1 off1 hd hn
   have ht:Path.flat t=true:=by
    cases hh:Path.flat t with
    |true=>rfl
    |false=>exact absurd ⟨rfl,t,rfl,hh⟩ hd
   exact Yl5 t ht hlay hn
 cases old with
 |cl oo t x=>
  cases ht:t.pure with
  |false=>exact marks (by rw[hp];simp only[Yjk,ht])
  |true=>
   have hks:p.ks=K.ks:=by rw[hp];simp only[Yjk,ht]
   refine fin Dd.none (fun _ _ h=>h.elim) (fun _ _ h=>h.elim) (fun i x h=>by rw[hks];exact T.cl i x h) (fun i x h=>by rw[hks];exact T.cs i x h) ?_ ?_
   ·intro t' b1 off1 _ hn;exact Ygb t' ht hlay.symm hn
   ·intro t' s1 _ hn o' e xs hg;rw[Yhq] at hg;exact(Ymz t' ht hg).elim
 |_=>exact marks (by rw[hp];rfl)
theorem TV.Yto (v:TV):v.own.lay=v.lay:=by cases v<;>rfl
theorem TV.Ysb (v:TV):v.own.live=v.live:=by cases v<;>rfl
theorem TV.Ysc (v:TV):v.own.size=v.size:=by cases v<;>rfl
theorem Ytp (h:Ya w M Lf v s F):Ya w M Lf v.own s F:=by
 cases v with
 |cl o t x=>
  show Ya w M Lf (.cl (Yj8 t o) t x) s F;unfold Yj8
  cases hp:t.pure with
  |true=>exact(Rep.pure hp (h:Rep w M t o x s F) (fun _ _=>rfl)).sub (fun _ x=>x.elim)
  |false=>exact h
 |_=>exact h
theorem Yrh (ht:Yaf P tb) (I:Inv Z S C a w) (ho:o.op=.store t ad x) (hg:Yax a g)
  (h:(doR tb hn np g o).run S=some (.step b p)) (hb:b≠some false):Done P o a w fun u w'=>∃ C',Inv Z (S.ap p) C' (a.put o.dst u) w':=by
 simp only[doR,ho] at h;replace h:=RD.bind_some h;obtain⟨va,h1,h⟩:=h;replace h:=RD.bind_some h;obtain⟨vx,h2,h⟩:=h;have ha:=Yg I hg h1;have hx:=Yg I hg h2
 cases va with
 |loc r q=>
  simp only at h;replace h:=RD.bind_some h;obtain⟨i,h3,h⟩:=h;replace h:=RD.bind_some h;obtain⟨⟨c,K⟩,h4,h⟩:=h;obtain⟨_,⟨j,hj,hjs,_⟩⟩:=ht t i (Yq h3);simp only at h
  split at h
  ·rename_i hl _ hlive hdst
   obtain⟨hr,hsz⟩:=hx.rep (fun l e=>by subst e;exact Ydu _ _ _ _ _ h4)
   obtain⟨C2,D2,F,G',T,g1,g2,g3,g4,rc,m,sc⟩:=Yb9 _ np vx _ (Y0.start I) (fun _ h=>h) hr h4;obtain⟨R0,b0,off,k1,k2,k3⟩:=(ha:Yb _ _ _ _ _ _).leaf rfl
   ·replace rc:=Ytp rc
    replace hl:=(TV.Yto c).trans hl;replace hlive:=(TV.Ysb c).trans hlive;replace sc:=(TV.Ysc c).trans sc;obtain⟨c,hcc⟩:∃ c',c'=c.own:=⟨_,rfl⟩;rw[←hcc] at h rc hl hlive sc;have hcells:=(rc.cells (fun v u h=>h.one.1)).resolve_right (fun hn=>hn hlive)
    have hcl:(a.eval x).cells.toList.length=c.size:=by rw[sc,←hsz];simp
    have hone:∀ v∈(a.eval x).cells.toList,v.oneCell'=true:=by
     intro v hv;obtain⟨k,hk,rfl⟩:=List.mem_iff_getElem.1 hv
     obtain⟨v',e1,e2⟩:=hcells k (by omega)
     simp only[Src.cell,jJ] at e1;rw[kV hk] at e1;cases e1;exact e2
    have hroot:∃ R1,K.roots S r=some R1∧nav w R1.tv (C.L r) q=some (.mem b0 off)∧(Ytr r q c K R1).run S=some (.step b p):=by
     split at h
     ·rename_i R1 hK
      split at h
      ·rename_i hlv
       refine⟨R1,by unfold Yp.roots;rw[hK],?_,h⟩
       have hal:¬ D2.l r q:=fun hd=>by
        rcases(Ya0 K.ks (.loc r q)) with ⟨_,hp⟩ | e
        ·exact hp (T.cl r q hd)
        ·rw[e] at hlv;cases hlv
       obtain⟨R',x1,x2⟩:=T.gs.rl r q R0 b0 off hal k1 k2
       have hR':K.roots S r=some R1:=by unfold Yp.roots;rw[hK]
       rw[hR'] at x1;cases x1;rw[T.L] at x2;exact x2
      ·cases h
     ·cases h
     ·rename_i hK
      simp only[RD.run,k1] at h
      exact⟨R0,by unfold Yp.roots;rw[hK];exact k1,k2,h⟩
    obtain⟨R1,hKr,hn1,h⟩:=hroot
    have hput:∃ old tv,R1.tv.get q=some old∧old.lay=c.lay∧R1.tv.set q c=some tv∧p=⟨[],(r,some ⟨R1.k,tv⟩)::K.rt,Yjk r q K.ks old⟩:=by
     unfold Ytr at h
     split at h
     ·split at h
      ·rename_i _ bb old c' tv hfg hfs
       split at h
       ·rename_i hlay _
        cases h
        have hbt:bb=true:=by cases bb with
         |true=>rfl
         |false=>exact absurd rfl hb
        subst hbt;rw[Yp6 q hfs hfg] at hfs;exact⟨old,tv,Yrk q hfg,hlay,Yrp q hfs,rfl⟩
       ·cases h
      ·cases h
     ·unfold put at h
      split at h
      ·rename_i old hget
       have inn:(Ypq r q c K R1 old).run S=some (.step b p)→∃ old tv,R1.tv.get q=some old∧old.lay=c.lay∧R1.tv.set q c=some tv∧p=⟨[],(r,some ⟨R1.k,tv⟩)::K.rt,Yjk r q K.ks old⟩:=by
        intro h;unfold Ypq at h
        split at h
        ·rename_i hlay _
         split at h
         ·rename_i tv hset;cases h;exact⟨old,tv,hget,hlay,hset,rfl⟩
         ·cases h
        ·cases h
       split at h
       ·split at h
        ·cases h
        ·exact inn h
       ·exact inn h
      ·cases h
    obtain⟨old,tv,p1,p2,p3,p4⟩:=hput
    have hroom:Room w b0 off (a.eval x).cells.toList.length:=by
     have hn2:nav w R1.tv (C2.L r) q=some (.mem b0 off):=by rw[T.L];exact hn1
     have hr0:Yei w (C2.L r) R1.tv.size:=by
      cases hk:R1.k with
      |reg=>obtain⟨x,e⟩:=T.str.reg r R1 hKr hk;rw[e];trivial
      |mem=>obtain⟨b',off',e,_,_,h,_⟩:=T.str.mem r R1 hKr hk;rw[e];exact h
     rw[hcl,←TV.Yak p2];exact Ymd q (T.str.rep r R1 hKr) hn2 p1 p3 hr0
    have hrun:(Instr.storeAt t (.pointer (some ⟨b0,off,none⟩)) (a.eval x)).run P w=.ok () (w.setCells b0 off (a.eval x).cells.toList):=by
     have hs:=run_storeCells_cells (P:=P) b0 off (a.eval x).cells.toList 0 w (fun j hj=>by simpa using (hroom j hj).1) (fun j hj=>by simpa using (hroom j hj).2) hone
     have hsize:(a.eval x).cells.size=j.size:=by
      have:c.size=j.size:=by rw[←TV.lay_size,hl,Ty.lay_size,hjs]
      rw[←this,←hcl];simp
     simp[Instr.storeAt,Instr.sureAddr,storeVar,Y3 hj,hsize]
     simpa using hs
    refine .inl ⟨undef,_,.inr ⟨rfl,by simp only[execOp,ho,k3,Sem.run_bind,hrun,Result.andThen_ok];rfl⟩,?_⟩
    rw[hdst];exact Yqp I T hlive hKr hn1 p1 p3 p2 rc g2 hcl hone p4
  ·cases h
 |_=>cases h
end
section
variable {a:Act}
variable {o:Oper}
theorem Inv.slot? (I:Inv Z S C a w) {v:TV} {u:Value} (hgd:Yu S o.dst) (hd:∀ d,o.dst=some d→d<Z.nt)
  (hv:(∃ n,v=.dead n)∨VOk w (Mt Z C S.root noB) C.L S.root v u) :
  Inv Z (S.ap ⟨match o.dst with | some d=>[(d,v)] | none=>[],[],[]⟩) C (a.put o.dst u) w:=by
 cases hdst:o.dst with
 |none=>exact I.Yor
 |some d=>
  refine I.slot (by rw[←hdst];exact hgd) (hd d hdst) ?_
  rcases hv with ⟨n,rfl⟩ | hv
  ·trivial
  ·exact hv.tm _
theorem Ypc (ht:Yaf P tb) (I:Inv Z S C a w) (hg:Yax a g) (hgd:Yu S o.dst) (hd:∀ d,o.dst=some d→d<Z.nt) {b:Option Bool} {p:Patch}
  (h:(Yht tb none g o).run S=some (.step b p)) (hb:b≠some false):Done P o a w fun u w'=>∃ C',Inv Z (S.ap p) C' (a.put o.dst u) w':=by
 simp only[Yht] at h;replace h:=RD.bind_some h;obtain⟨⟨b',v⟩,h1,h⟩:=h;cases h;obtain⟨u,hu,hv⟩:=Yjn Z S C a w ht I hg _ v h1 hb;exact .inl ⟨u,w,.inl hu,C,I.slot? hgd hd hv⟩
end
section
variable {a:Act}
variable {o:Oper}
theorem Y0.drop (I:Inv Z S C a w) (hR:S.root r=some R) :
  Y0 Z S C w ⟨[(r,none)],[(r,none)]⟩ (C.F r) C ⟨fun i _=>i=r,fun i _=>i=r⟩∧Ye (Mt Z C ((⟨[(r,none)],[(r,none)]⟩:Yp).roots S) (C.F r)) (Mt Z C S.root noB):=by
 have hk':(⟨[(r,none)],[(r,none)]⟩:Yp).roots S=Yc.set S.root r none:=by
  funext i
  unfold Yp.roots Yc.set
  by_cases e:i=r
  ·subst e;rw[Yl,jL rfl]
  ·rw[Yv e,jM e];rfl
 obtain⟨W,hW⟩:=I.str.weak (ρ':=Yc.set S.root r none) (G':=C.F r) (fun i R' h=>by
   by_cases e:i=r
   ·subst e;rw[Yc.Yo] at h;cases h
   ·rwa [Yc.Yn _ _ e] at h)
  (fun b hb=>.inr ⟨r,R,hR,Yc.Yo _ _ _,hb⟩)
 have Wg:=I.str.Yci hW ⟨fun i _=>i=r,fun i _=>i=r⟩
  (fun i R' q h1 h2=>by rw[Yc.Yn _ _ h2];exact h1) (fun i R' q h1 h2=>by rw[Yc.Yn _ _ h2];exact h1)
 refine⟨⟨by rw[hk'];exact W,by rw[hk'];exact Wg,rfl,?_,?_,?_,?_⟩,by rw[hk'];exact hW⟩
 ·intro i R' h
  rw[hk'] at h
  by_cases e:i=r
  ·subst e;rw[Yc.Yo] at h;cases h
  ·rw[Yc.Yn _ _ e] at h;exact⟨R',h,rfl,rfl⟩
 ·rintro i q rfl;exact⟨_,jF,rfl,rfl⟩
 ·rintro i q rfl;exact⟨_,jF,rfl,rfl⟩
 ·intro i R' q o' e' xs' h hg
  rw[hk'] at h
  by_cases e:i=r
  ·subst e;rw[Yc.Yo] at h;cases h
  ·rw[Yc.Yn _ _ e] at h;exact⟨R',o',h,hg⟩
theorem Ys3 (I:Inv Z S C a w) {d:Nat} (ho:o.op=.assign (.const (.pointer none))) (hd:o.dst=some d) (hgd:Yu S (some d)) (hdn:d<Z.nt) {b:Option Bool} {p:Patch}
  (h:(.step none ⟨[(d,.dead 1)],[],[]⟩:Ycn)=.step b p):Done P o a w fun u w'=>∃ C',Inv Z (S.ap p) C' (a.put o.dst u) w':=by
 cases h
 refine .inl ⟨_,w,.inl (by simp[execOp,ho];rfl),C,?_⟩
 rw[hd];exact I.slot hgd hdn trivial
theorem Yp3 (I:Inv Z S C a w) (hg:Yax a g) {np d:Nat} {x:Operand} (ho:o.op=.assign x) (hd:o.dst=some d) (hnp:∀ i,np≤i→Z.P i=none) (hgd:Yu S (some d)) (hdn:d<Z.nt) {b:Option Bool} {p:Patch} {v:TV}
  (h1:(opv g x).run S=some v) (h:(Yfy np d v).run S=some (.step b p)):Done P o a w fun u w'=>∃ C',Inv Z (S.ap p) C' (a.put o.dst u) w':=by
 have hv:=Yg I hg h1
 have hrun:(execOp a.eval o).run P w=.ok (.value (a.eval x)) w:=by simp[execOp,ho]
 have plain:p=⟨[(d,v)],[],[]⟩→Done P o a w fun u w'=>∃ C',Inv Z (S.ap p) C' (a.put o.dst u) w':=by
  rintro rfl;refine .inl ⟨_,w,.inl hrun,C,?_⟩;rw[hd];exact I.slot hgd hdn (hv.tm _)
 have move:∀ (r:Nat) (R:Root) (oo:Ow) (e:Ty) (xs ys:List e.El),S.root r=some R→R.k=.reg→R.tv=.cl oo (.sl e) xs→(∃ A n c,a.eval x=.slice A n c)→
   (∀ M (s:Src) (F:Yd),Rep w M (.sl e) oo xs s F→C.L r=s→Rep w M (.sl e) oo ys (.reg [a.eval x] 0) F)→
   ((Yao np d (.seg d []) ⟨.reg,.cl oo (.sl e) ys⟩ ⟨[(r,none)],[(r,none)]⟩).bind fun p=>.ret (.step none p)).run S=some (Ycn.step b p)→
   Done P o a w fun u w'=>∃ C',Inv Z (S.ap p) C' (a.put o.dst u) w':=by
  intro r R oo e xs ys hR hk htv ⟨A,n,c,hu⟩ hcut h;replace h:=RD.bind_some h;obtain⟨p',h2,h⟩:=h;cases h;obtain⟨T,hT⟩:=Y0.drop I hR;refine .inl ⟨_,w,.inl hrun,?_⟩;rw[hd];have hrep:=I.str.rep r R hR;rw[htv] at hrep;refine Ye5 I T (Fn:=C.F r) h2 hnp hgd hdn (Yb5.refl w _) hu (fun M hM=>?_) (fun _ h=>h);refine hcut M _ _ ?_ rfl
  exact Ya.go (tv:=.cl oo (.sl e) xs) hrep ⟨jB _,fun _ _=>rfl,fun b h1 h2=>⟨rfl,fun h=>(hM b h).elim (fun h=>h1 (hT b h)) (fun h=>by omega)⟩⟩ (fun _ _=>rfl) (fun _ _ x=>x)
 unfold Yfy at h
 split at h
 ·rename_i r
  split at h
  ·cases h;exact plain rfl
  ·simp only[RD.run] at h
   split at h
   ·rename_i R hR
    split at h
    ·rename_i hk
     obtain⟨R',s,oo,e,xs,e1,e2,e3,e4,A,n,c,hu⟩:=(hv:Yb _ _ _ _ _ _).leaf rfl;rw[hR] at e1;cases e1;rw[Yct] at e3
     have htv:R.tv=.cl oo (.sl e) xs:=by
      have h3:=jN e3
      cases hv:R.tv with
      |rw o' e' xs' i v'=>have:R.tv.Ym2=false:=by assumption
                          rw[hv] at this;cases this
      |_=>rw[hv] at h3;exact h3
     rw[Yf] at e2;cases e2
     have hk:R.k=.reg:=by assumption
     have hRR:R=⟨.reg,.cl oo (.sl e) xs⟩:=by cases R;simp only at hk htv;subst hk htv;rfl
     refine move r R oo e xs xs hR hk htv ⟨A,n,c,hu⟩ (fun M s F hr hL=>?_) (by rw[←hRR];exact h)
     subst hL;refine hr.mv (fun i hi=>?_)
     have:i=0:=by simp[Ty.size] at hi;exact hi
     subst this;rw[e4];rfl
    ·cases h;exact plain rfl
   ·cases h
 ·rename_i r lo n
  split at h
  ·cases h;exact plain rfl
  ·simp only[RD.run] at h
   split at h
   ·rename_i R hR
    have cut:∀ oo e (xs:List e.El),R.k=.reg→R.tv=.cl oo (.sl e) xs→(Yfy.nar np d r lo n oo e xs).run S=some (.step b p)→Done P o a w fun u w'=>∃ C',Inv Z (S.ap p) C' (a.put o.dst u) w':=by
     intro oo e xs hk htv h;obtain⟨R',s,o2,e',xs',A,len,c,A',c',q1,q2,q3,q4,q5,q6,q7,q8,q9⟩:=(hv:Yb _ _ _ _ _ _).leaf rfl;rw[hR] at q1;cases q1;rw[Yct,htv] at q3;cases q3;rw[Yf] at q2;cases q2;refine move r R oo e xs _ hR hk htv ⟨A',n,c',q5⟩ (fun M s F hr hL=>?_) h;subst hL
     exact Rep.cut hr q4 (by rw[q5];rfl) q6 q7 q8 q9
    split at h
    ·rename_i hk htv;exact cut _ _ _ hk htv h
    ·rename_i hk htv;exact cut _ _ _ hk htv h
    ·cases h;exact plain rfl
   ·cases h
 ·cases h;exact plain rfl
end
section
variable {a:Act}
variable {o:Oper}
structure Ya3 (w w':World) (cs:Array Value):Prop where
 heap:∃ e fr,w'.heap=w.heap.push (.cells cs e fr)∧(∀ i,i<cs.size→(decide (fr.1≤i)&&decide (i<fr.2))=false)
 os:w'.os=w.os
 tape:w'.tape=w.tape
 output:w'.output=w.output
variable {cs:Array Value}
theorem Ya3.cell (h:Ya3 w w' cs) (i:Nat):w'.cell? ⟨w.heap.size,i,none⟩=cs[i]?:=by
 obtain⟨e,fr,h1,_⟩:=h.heap;unfold World.cell?;rw[h1,Array.getElem?_push_size];rfl
theorem Ya3.Ys8 (h:Ya3 w w' cs) {i:Nat} (hi:i<cs.size):w'.frozen? ⟨w.heap.size,i,none⟩=false:=by
 obtain⟨e,⟨l,u⟩,h1,h2⟩:=h.heap;unfold World.frozen?;rw[h1,Array.getElem?_push_size];exact h2 i hi
theorem Ya3.same (h:Ya3 w w' cs) {b:Nat} (hb:b<w.heap.size):Same w w' b:=by
 obtain⟨e,fr,h1,_⟩:=h.heap;unfold Same;rw[h1,Array.getElem?_push];rw[jM (Nat.ne_of_lt hb)]
theorem Ya3.size (h:Ya3 w w' cs):w'.heap.size=w.heap.size+1:=by
 obtain⟨e,fr,h1,_⟩:=h.heap;rw[h1];simp
theorem Ya3.hand (h:Ya3 w w' cs) (G:Yd):Yb5 w w' G (fun b=>G b∨b=w.heap.size) where
 sz:=by rw[h.size];omega
 same:=fun b hb _=>h.same hb
 g:=fun b hb=>hb.imp id (fun e=>by subst e;exact⟨jB _,by rw[h.size];omega⟩)
 os:=h.os
 tape:=h.tape
 output:=h.output
theorem Ya3.room (h:Ya3 w w' cs) {n:Nat} (hn:n≤cs.size):Room w' w.heap.size 0 n:=by
 intro i hi
 rw[jJ,h.cell,h.Ys8 (by omega)]
 exact⟨by simp;omega,rfl⟩
end
section
variable {a:Act}
variable {o:Oper}
theorem Ya3.row {cs:Array Value} (h:Ya3 w w' cs) {M:Yd} {e:Ty} {xs:List e.El} {len cap:Nat} (hlen:xs.length=len) (hc:len≤cap) (hs:cap*e.size≤cs.size)
  {oo:Ow} (ho:oo≠.sh) {F:Yd} {Fs:Nat→Yd} (hF:F w.heap.size) (hFs:∀ i,i<len→Ye (Fs i) F∧¬ Fs i w.heap.size) (hd:∀ i j,i<j→j<len→Dis (Fs i) (Fs j))
  (hr:∀ i (h:i<xs.length),Rep w' M e oo.elem (xs[i]'h) (.mem w.heap.size (0+i*e.size)) (Fs i)) :
  Rep w' M (.sl e) oo xs (.reg [.slice (some ⟨w.heap.size,0,none⟩) len cap] 0) F:=by
 subst hlen;refine⟨_,cap,rfl,hc,?_⟩
 have own:cap≠0→∃ b off,∃ Fs:Nat→Yd,(some ⟨w.heap.size,0,none⟩:Option Addr)=some ⟨b,off,none⟩∧F b∧Room w' b off (cap*e.size)∧
   (∀ i (h:i<xs.length),Rep w' M e oo.elem (xs[i]'h) (.mem b (off+i*e.size)) (Fs i)∧Ye (Fs i) F∧¬ Fs i b)∧(∀ i j,i<j→j<xs.length→Dis (Fs i) (Fs j)):=
  fun _=>⟨w.heap.size,0,Fs,rfl,hF,h.room hs,fun i hi=>⟨hr i hi,hFs i hi⟩,hd⟩
 cases oo with
 |sh=>exact absurd rfl ho
 |top=>exact own
 |deep=>exact own
theorem Ynm {P:Program} {d:TD} {t e:Ty} {dd:TypeDesc} (h:DOk P d t dd) (ht:t=.sl e):∃ ee,dd=.slice ee∧∃ te j,t=.sl te∧P.info? ee=some j∧j.size=te.size∧(∀ k,te=.int k→P.underlying ee=some (.int k))∧
  (∃ z,j.zero=some z∧z.cells.toList=Yy te)∧j.bytes≤4096:=by
 cases d with
 |sl ee=>obtain⟨q0,te,j,q1,q2,q3,q4,q5,q6⟩:=h;exact⟨ee,q0,te,j,q1,q2,q3,q5,q4,q6⟩
 |int k=>have:=h.2;rw[ht] at this;cases this
 |bool=>have:=h.2;rw[ht] at this;cases this
 |str=>have:=h.2;rw[ht] at this;cases this
 |arr n e=>obtain⟨_,te,j,q1,_⟩:=h;rw[ht] at q1;cases q1
 |st offs=>obtain⟨_,_,q1,_⟩:=h;rw[ht] at q1;cases q1
 |_=>exact h.elim
theorem Ys1 (ht:Yaf P tb) (I:Inv Z S C a w) (hg:Yax a g) {np d:Nat} {src dst:TypeId} {x:Operand} (ho:o.op=.convert src dst x) (hd:o.dst=some d) (hnp:∀ i,np≤i→Z.P i=none) (hgd:Yu S o.dst) (hdn:d<Z.nt) {b:Option Bool} {p:Patch}
  (h:(doR tb hn np g o).run S=some (.step b p)) (hb:b≠some false):Done P o a w fun u w'=>∃ C',Inv Z (S.ap p) C' (a.put o.dst u) w':=by
 simp only[doR,ho,hd] at h;replace h:=RD.bind_some h;obtain⟨v,h1,h⟩:=h;replace h:=RD.bind_some h;obtain⟨sd,h2,h⟩:=h;replace h:=RD.bind_some h;obtain⟨td,h3,h⟩:=h
 split at h
 ·rename_i os z _ _
  have hsd:sd.d=.str:=by assumption
  have hty:td.ty=.sl (.int .u8):=by assumption
  replace h:=RD.bind_some h;obtain⟨p',h4,h⟩:=h;cases h;obtain⟨⟨ds,hds,hsk,_⟩,_⟩:=ht src sd (Yq h2);obtain⟨⟨dd,hdd,hdk,_⟩,_⟩:=ht dst td (Yq h3);rw[hsd] at hsk;obtain⟨rfl,_⟩:=hsk;obtain⟨ee,rfl,te,j,q1,q2,q3,q4,q5⟩:=Ynm hdk hty;rw[hty] at q1;cases q1;have he:=q4 .u8 rfl;obtain⟨y,e1,e2⟩:=((Yg I hg h1):Yb _ _ _ _ _ _).str;have hrun:=run_bytes_of_string (P:=P) w src dst ee y hds hdd he;generalize hcap:grownCap w y.size 0 ee=cap at hrun
  have hge:y.size≤cap:=by rw[←hcap];exact Nat.le_add_right _ _
  have hrow:(bytesRow y cap).size=cap:=by unfold bytesRow;simp;omega
  have hpush:Ya3 w (w.drew.alloc (.cells (bytesRow y cap) ee ((bytesRow y cap).size,(bytesRow y cap).size+1))) (bytesRow y cap):=
   ⟨⟨ee,_,rfl,fun i hi=>by simp;omega⟩,rfl,rfl,rfl⟩
  refine .inl ⟨_,_,.inl (by simp only[execOp,ho,e1,Sem.run_bind,hrun,Result.andThen_ok];rfl),?_⟩
  have hlen:(z.map fun b=>(b.toNat:Int)).length=y.size:=by rw[←e2];simp
  rw[hd]
  refine Ye5 I (Y0.start I) (Fn:=fun b=>b=w.heap.size) h4 hnp (by rw[←hd];exact hgd) hdn (hpush.hand noB) rfl (fun M hM=>?_) (fun b h=>.inr h)
  refine hpush.row hlen hge (by rw[hrow];simp[Ty.size]) (by simp) rfl (Fs:=fun _=>noB) (fun _ _=>⟨fun _ h=>h.elim,fun h=>h⟩) (fun _ _ _ _ _ h=>h.elim) (fun i hi=>?_)
  have hi':i<y.data.size:=by rw[hlen] at hi;simpa using hi
  show(Src.mem w.heap.size (0+i*1)).cell _ 0=_;simp only[Src.cell,jJ,Nat.mul_one,kF];rw[hpush.cell,bytesRow_at y cap i hi'];subst e2;simp
 ·exact Ypc ht I hg hgd (fun d' e=>by rw[hd] at e;cases e;exact hdn) h hb
end
section
variable {a:Act}
variable {o:Oper}
theorem Rep.share {w:World} {M M':Yd}:∀ {t:Ty} {o:Ow} {x:t.El} {s:Src} {F:Yd},Rep w M t o x s F→Ye M' M→(∀ b,F b→¬ M' b∧b<w.heap.size)→Rep w M' t .sh x s noB:=by
 intro t
 induction t with
 |int k=>intro o x s F h _ _;exact h
 |bool=>intro o x s F h _ _;exact h
 |str=>intro o x s F h _ _;exact h
 |unit=>intro o x s F h _ _;trivial
 |pair a b iha ihb=>
  intro o x s F h hm hf;obtain⟨F1,F2,h1,h2,h3,h4,h5⟩:=h
  exact⟨noB,noB,iha h1 hm (fun b hb=>hf b (h3 b hb)),ihb h2 hm (fun b hb=>hf b (h4 b hb)),fun _ x=>x.elim,fun _ x=>x.elim,fun _ x=>x.elim⟩
 |sl e ih=>
  intro o x s F h hm hf;obtain⟨A,c,h1,h2,h3⟩:=h;refine⟨A,c,h1,h2,fun hne=>?_⟩;have hl:0<x.length:=List.length_pos_iff.2 hne
  cases o with
  |sh=>
   obtain⟨b,off,q1,q2,q3,q4⟩:=h3 hne
   exact⟨b,off,q1,fun h=>q2 (hm b h),q3,fun i hi=>ih (q4 i hi) hm (fun _ x=>x.elim)⟩
  |top=>
   obtain⟨b,off,Fs,q1,q2,q3,q4,q5⟩:=h3 (by omega)
   exact⟨b,off,q1,(hf b q2).1,(hf b q2).2,fun i hi=>ih (q4 i hi).1 hm (fun b' hb=>hf b' ((q4 i hi).2.1 b' hb))⟩
  |deep=>
   obtain⟨b,off,Fs,q1,q2,q3,q4,q5⟩:=h3 (by omega)
   exact⟨b,off,q1,(hf b q2).1,(hf b q2).2,fun i hi=>ih (q4 i hi).1 hm (fun b' hb=>hf b' ((q4 i hi).2.1 b' hb))⟩
 |arr n e ih=>
  intro o x s F h hm hf;obtain⟨h1,Fs,h2,h3⟩:=h;exact⟨h1,fun _=>noB,fun i hi=>⟨ih (h2 i hi).1 hm (fun b' hb=>hf b' ((h2 i hi).2 b' hb)),fun _ x=>x.elim⟩,fun _ _ _ _ _ x=>x.elim⟩
structure Yw (w:World) (M:Yd) (e:Ty) (o:Ow) (xs:List e.El) (cs:List Value) (F:Yd):Prop where
 len:cs.length=xs.length*e.size
 one:∀ v∈cs,v.oneCell'=true
 rep:∃ Fs:Nat→Yd,(∀ i (h:i<xs.length),Rep w M e o (xs[i]'h) (.reg cs (i*e.size)) (Fs i)∧Ye (Fs i) F)∧(∀ i j,i<j→j<xs.length→Dis (Fs i) (Fs j))
theorem Yw.nil {M:Yd} {e:Ty} {o:Ow}:Yw w M e o ([]:List e.El) [] noB:=
 ⟨by simp,fun _ h=>(by cases h),fun _=>noB,fun i h=>absurd h (Nat.not_lt_zero _),fun _ _ _ h=>absurd h (Nat.not_lt_zero _)⟩
theorem Yw.sub {M:Yd} {e:Ty} {o:Ow} {xs:List e.El} {cs:List Value} {F F':Yd} (h:Yw w M e o xs cs F) (hs:Ye F F'):Yw w M e o xs cs F':=by
 obtain⟨h1,h2,Fs,h3,h4⟩:=h;exact⟨h1,h2,Fs,fun i hi=>⟨(h3 i hi).1,fun b hb=>hs b ((h3 i hi).2 b hb)⟩,h4⟩
theorem Yw.share {M M':Yd} {e:Ty} {o:Ow} {xs:List e.El} {cs:List Value} {F:Yd} (h:Yw w M e o xs cs F) (hm:Ye M' M) (hf:∀ b,F b→¬ M' b∧b<w.heap.size):Yw w M' e .sh xs cs noB:=by
 obtain⟨h1,h2,Fs,h3,h4⟩:=h;exact⟨h1,h2,fun _=>noB,fun i hi=>⟨(h3 i hi).1.share hm (fun b hb=>hf b ((h3 i hi).2 b hb)),fun _ x=>x.elim⟩,fun _ _ _ _ _ x=>x.elim⟩
theorem Yw.pure {M M':Yd} {e:Ty} {o o':Ow} {xs:List e.El} {cs:List Value} {F:Yd} (h:Yw w M e o xs cs F) (he:e.pure=true):Yw w' M' e o' xs cs noB:=by
 obtain⟨h1,h2,Fs,h3,h4⟩:=h;exact⟨h1,h2,fun _=>noB,fun i hi=>⟨Rep.pure he (h3 i hi).1 (fun _ _=>rfl),fun _ x=>x.elim⟩,fun _ _ _ _ _ x=>x.elim⟩
theorem Yw.go {M M':Yd} {e:Ty} {o:Ow} {xs:List e.El} {cs:List Value} {F:Yd} (h:Yw w M e o xs cs F) (hg:Goes w w' M M' F):Yw w' M' e o xs cs F:=by
 obtain⟨h1,h2,Fs,h3,h4⟩:=h;exact⟨h1,h2,Fs,fun i hi=>⟨(h3 i hi).1.go (hg.mono (h3 i hi).2) (fun _ _=>rfl),(h3 i hi).2⟩,h4⟩
theorem Yw.mono {M M':Yd} {e:Ty} {o:Ow} {xs:List e.El} {cs:List Value} {F:Yd} (h:Yw w M e o xs cs F) (hm:Ye M' M):Yw w M' e o xs cs F:=h.go (Yi3 hm)
theorem Yw.append {M:Yd} {e:Ty} {o:Ow} {xs ys:List e.El} {cs ds:List Value} {F F' H:Yd} (h:Yw w M e o xs cs F) (g:Yw w M e o ys ds F') (hd:Dis F F') (hF:Ye F H) (hF':Ye F' H) :
  Yw w M e o (xs++ys) (cs++ds) H:=by
 obtain⟨h1,h2,Fs,h3,h4⟩:=h;obtain⟨g1,g2,Gs,g3,g4⟩:=g
 have key:∀ i,i<xs.length→(fun i=>if i<xs.length then Fs i else Gs (i-xs.length)) i=Fs i:=fun i hi=>by simp[hi]
 have key':∀ i,¬ i<xs.length→(fun i=>if i<xs.length then Fs i else Gs (i-xs.length)) i=Gs (i-xs.length):=fun i hi=>by simp[hi]
 refine⟨by simp[h1,g1,jY],fun v hv=>(List.mem_append.1 hv).elim (h2 v) (g2 v),fun i=>if i<xs.length then Fs i else Gs (i-xs.length),fun i hi=>?_,fun i j hij hj=>?_⟩
 ·by_cases hlt:i<xs.length
  ·rw[key i hlt,kW hlt]
   refine⟨(h3 i hlt).1.mv (fun k hk=>?_),fun b hb=>hF b ((h3 i hlt).2 b hb)⟩;have:=Yaw (sz:=e.size) hlt;simp only[Src.cell]
   rw[List.getElem?_append_left (by rw[h1];omega)]
  ·have hj:i-xs.length<ys.length:=by simp at hi;omega
   rw[key' i hlt,kX (by omega)]
   refine⟨(g3 _ hj).1.mv (fun k hk=>?_),fun b hb=>hF' b ((g3 _ hj).2 b hb)⟩
   have hge:xs.length*e.size≤i*e.size:=jR _ (by omega)
   simp only[Src.cell]
   rw[List.getElem?_append_right (by rw[h1];omega),h1,show i*e.size+k-xs.length*e.size=(i-xs.length)*e.size+k by rw[Nat.sub_mul];omega]
 ·have hj':j<xs.length+ys.length:=by simpa using hj
  by_cases h1':j<xs.length
  ·rw[key j h1',key i (by omega)];exact h4 i j hij h1'
  ·rw[key' j h1']
   by_cases h2':i<xs.length
   ·rw[key i h2'];exact hd.sub (h3 i h2').2 (g3 _ (by omega)).2
   ·rw[key' i h2'];exact g4 _ _ (by omega) (by omega)
theorem Yqq {M:Yd} {e:Ty} {o:Ow} {xs:List e.El} {b off:Nat} {F:Yd} {Fs:Nat→Yd} (h:∀ i (hi:i<xs.length),Rep w M e o (xs[i]'hi) (.mem b (off+i*e.size)) (Fs i)∧Ye (Fs i) F)
  (hd:∀ i j,i<j→j<xs.length→Dis (Fs i) (Fs j)):∃ cs,Yw w M e o xs cs F∧∀ k,k<xs.length*e.size→w.cell? ⟨b,off+k,none⟩=cs[k]?:=by
 have hc:∀ k,k<xs.length*e.size→∃ v,w.cell? ⟨b,off+k,none⟩=some v∧v.oneCell'=true:=by
  intro k hk
  have hs:0<e.size:=by
   rcases kN e.size with h0 | h0
   ·rw[h0] at hk;omega
   ·exact h0
  have hq:k / e.size<xs.length:=(Nat.div_lt_iff_lt_mul hs).2 hk;obtain⟨v,hv,h3⟩:=(h _ hq).1.cells (k % e.size) (Nat.mod_lt _ hs);simp only[Src.cell] at hv;rw[kH,Nat.mul_comm,Nat.div_add_mod] at hv;exact⟨v,hv,h3⟩
 obtain⟨cs,h1,h2⟩:=Ydv b off (xs.length*e.size) (fun k hk=>let ⟨v,hv,_⟩:=hc k hk;⟨v,hv⟩)
 refine⟨cs,⟨h1,?_,Fs,fun i hi=>⟨(h i hi).1.mv (fun k hk=>?_),(h i hi).2⟩,hd⟩,h2⟩
 ·intro v hv
  obtain⟨k,hk,rfl⟩:=List.mem_iff_getElem.1 hv
  obtain⟨v,q1,q2⟩:=hc k (by omega)
  rw[h2 k (by omega),kV hk] at q1;cases q1;exact q2
 ·have:=Yaw (sz:=e.size) hi
  simp only[Src.cell]
  rw[←h2 (i*e.size+k) (by omega),kH]
theorem Yw.row {M:Yd} {e:Ty} {oo:Ow} {zs:List e.El} {cs:List Value} {F H:Yd} {b off len cap:Nat} (h:Yw w M e oo.elem zs cs F) (ho:oo≠.sh) (hlen:zs.length=len) (hc:len≤cap)
  (hr:Room w b off (cap*e.size)) (hcell:∀ k,k<cs.length→w.cell? ⟨b,off+k,none⟩=cs[k]?) (hb:H b) (hF:Ye F H) (hFb:¬ F b) :
  Rep w M (.sl e) oo zs (.reg [.slice (some ⟨b,off,none⟩) len cap] 0) H:=by
 subst hlen;obtain⟨h1,h2,Fs,h3,h4⟩:=h;refine⟨_,cap,rfl,hc,?_⟩
 have own:cap≠0→∃ b' off',∃ Fs:Nat→Yd,(some ⟨b,off,none⟩:Option Addr)=some ⟨b',off',none⟩∧H b'∧Room w b' off' (cap*e.size)∧
   (∀ i (h:i<zs.length),Rep w M e oo.elem (zs[i]'h) (.mem b' (off'+i*e.size)) (Fs i)∧Ye (Fs i) H∧¬ Fs i b')∧(∀ i j,i<j→j<zs.length→Dis (Fs i) (Fs j)):=by
  intro _;refine⟨b,off,Fs,rfl,hb,hr,fun i hi=>⟨(h3 i hi).1.mv (fun k hk=>?_),fun x hx=>hF x ((h3 i hi).2 x hx),fun hx=>hFb ((h3 i hi).2 b hx)⟩,h4⟩;have:=Yaw (sz:=e.size) hi;simp only[Src.cell]
  rw[kH,hcell _ (by omega)]
 cases oo with
 |sh=>exact absurd rfl ho
 |top=>exact own
 |deep=>exact own
theorem Rep.rowOf {M:Yd} {e:Ty} {o:Ow} {xs:List e.El} {s:Src} {F:Yd} {A:Option Addr} {c:Nat} (h:Rep w M (.sl e) o xs s F) (hc:s.cell w 0=some (.slice A xs.length c)) (ho:o≠.sh) :
  xs.length≤c∧∃ cs Fr,Yw w M e o.elem xs cs Fr∧Ye Fr F∧
   (c≠0→∃ b off,A=some ⟨b,off,none⟩∧F b∧¬ Fr b∧Room w b off (c*e.size)∧∀ k,k<xs.length*e.size→w.cell? ⟨b,off+k,none⟩=cs[k]?):=by
 obtain⟨A0,c0,h1,h2,h3⟩:=h;rw[hc] at h1;cases h1;refine⟨h2,?_⟩;rcases kN c with h0 | h0
 ·have:xs=[]:=List.length_eq_zero_iff.1 (by omega)
  subst this;exact⟨[],noB,Yw.nil,fun _ h=>h.elim,fun h=>absurd h0 h⟩
 ·have h3':∃ b off,∃ Fs:Nat→Yd,A=some ⟨b,off,none⟩∧F b∧Room w b off (c*e.size)∧
    (∀ i (h:i<xs.length),Rep w M e o.elem (xs[i]'h) (.mem b (off+i*e.size)) (Fs i)∧Ye (Fs i) F∧¬ Fs i b)∧(∀ i j,i<j→j<xs.length→Dis (Fs i) (Fs j)):=by
   cases o with
   |sh=>exact absurd rfl ho
   |top=>exact h3 (by omega)
   |deep=>exact h3 (by omega)
  obtain⟨b,off,Fs,q1,q2,q3,q4,q5⟩:=h3';obtain⟨cs,r1,r2⟩:=Yqq (F:=fun x=>F x∧x≠b) (fun i hi=>⟨(q4 i hi).1,fun x hx=>⟨(q4 i hi).2.1 x hx,fun e=>(q4 i hi).2.2 (e▸hx)⟩⟩) q5;exact⟨cs,_,r1,fun x hx=>hx.1,fun _=>⟨b,off,q1,q2,fun h=>h.2 rfl,q3,r2⟩⟩
end
section
variable {a:Act}
variable {o:Oper}
theorem Ykf.cells (h:Ykf w M e sh xs A):∃ cs:List Value,cs.length=xs.length*e.size∧(∀ v∈cs,v.oneCell'=true)∧
  (∀ j u,cs[j]? = some u→∃ a,A=some a∧w.cell? (a.add j)=some u)∧(∀ i (hi:i<xs.length),∃ F o',Rep w M e o' (xs[i]'hi) (.reg cs (i*e.size)) F∧(sh=true→o'=.sh)):=by
 by_cases hne:xs=[]
 ·subst hne;exact⟨[],by simp,fun _ h=>(by cases h),fun j u h=>by simp at h,fun i hi=>absurd hi (Nat.not_lt_zero _)⟩
 obtain⟨b,off,q1,q2,q3⟩:=h hne
 have hc:∀ k,k<xs.length*e.size→∃ v,w.cell? ⟨b,off+k,none⟩=some v∧v.oneCell'=true:=by
  intro k hk
  have hs:0<e.size:=by
   rcases kN e.size with h0 | h0
   ·rw[h0] at hk;omega
   ·exact h0
  have hq:k / e.size<xs.length:=(Nat.div_lt_iff_lt_mul hs).2 hk;obtain⟨F,o',hr,_⟩:=q3 _ hq;obtain⟨v,hv,h3⟩:=hr.cells (k % e.size) (Nat.mod_lt _ hs);simp only[Src.cell] at hv;rw[kH,Nat.mul_comm,Nat.div_add_mod] at hv;exact⟨v,hv,h3⟩
 obtain⟨cs,h1,h2⟩:=Ydv b off (xs.length*e.size) (fun k hk=>let ⟨v,hv,_⟩:=hc k hk;⟨v,hv⟩)
 refine⟨cs,h1,?_,?_,fun i hi=>?_⟩
 ·intro v hv
  obtain⟨k,hk,rfl⟩:=List.mem_iff_getElem.1 hv
  obtain⟨v,q1,q2⟩:=hc k (by omega)
  rw[h2 k (by omega),kV hk] at q1;cases q1;exact q2
 ·intro j u hu
  have hj:j<cs.length:=by
   rcases kG j cs.length with h | h
   ·exact h
   ·rw[List.getElem?_eq_none h] at hu;cases hu
  refine⟨_,q1,?_⟩
  rw[Addr.add_lit,h2 j (by omega)];exact hu
 ·obtain⟨F,o',hr,ho⟩:=q3 i hi
  refine⟨F,o',hr.mv (fun k hk=>?_),ho⟩;have:=Yaw (sz:=e.size) hi;simp only[Src.cell]
  rw[←h2 (i*e.size+k) (by omega),kH]
structure Yq2 (P:Program) (Z:W0) (S:St) (C:Cx) (w:World) (k:Yp) (e:Ty) (o:Ow) (ys:List e.El) (u:Value) (C2:Cx) (D2:Dd) (F G2:Yd) (news:List Value):Prop where
 t:Y0 Z S C w k G2 C2 D2
 f:Ye F G2
 m:Ye (Mt Z C2 (k.roots S) G2) (Mt Z C S.root noB)
 row:Yw w (Mt Z C2 (k.roots S) G2) e o ys news F
 src:∀ tx,((∃ e',P.underlying tx=some (.slice e'))∨P.underlying tx=some .string)→Go.Src P e.size tx u ys.length news w
 form:(∃ A c,u=.slice A ys.length c∧(∀ j v,news[j]? = some v→∃ a,A=some a∧w.cell? (a.add j)=some v))∨(∃ z:ByteArray,u=.string z∧e.size=1∧ys.length=z.size∧news=byteCells z)
theorem Yo1 (hk:(∃ e',P.underlying tx=some (.slice e'))∨P.underlying tx=some .string) (hl:news.length=n*size) (hnews:∀ j u,news[j]? = some u→∃ a,A=some a∧w.cell? (a.add j)=some u)
  (hA:A=none→n=0) (h1:∀ u∈news,u.oneCell'=true):Go.Src P size tx (.slice A n c) n news w:=by
 cases A with
 |none=>
  have:=hA rfl;subst this
  have hn:news=[]:=List.length_eq_zero_iff.1 (by simpa using hl)
  subst hn
  exact⟨hk,fun _=>rfl,run_firstCells_none w size 0 0 c,run_firstCells_none w.drew size 0 0 c,by simp,fun _ h=>(by cases h)⟩
 |some a=>
  have hn:∀ j u,news[j]? = some u→w.cell? (a.add j)=some u:=fun j u h=>by obtain⟨a',e,h⟩:=hnews j u h;cases e;exact h
  exact⟨hk,fun _=>rfl,run_firstCells_some w size n a n c news hl hn,run_firstCells_some w.drew size n a n c news hl (by simpa using hn),hl,h1⟩
theorem Ygp (I:Inv Z S C a w) (hv:VOk w (Mt Z C S.root noB) C.L S.root v u) (h:(Yjw np v).run S=some (.mk e ys oy,k)) :
  (oy=.deep∨oy=.sh)∧∃ C2 D2 F G2 news,Yq2 P Z S C w k e oy ys u C2 D2 F G2 news:=by
 have plain:∀ o,(els v).run S=some (.mk e ys o)→k=.none→((e.pure=true∧oy=.deep)∨((v.Yuy=true∨o=.top∨o=.sh)∧oy=.sh))→(oy=.deep∨oy=.sh)∧∃ C2 D2 F G2 news,Yq2 P Z S C w k e oy ys u C2 D2 F G2 news:=by
  intro o he hk hcase;subst hk
  refine⟨by rcases hcase with ⟨_,h⟩ | ⟨_,h⟩<;>simp[h],?_⟩
  have hm:Mt Z C ((Yp.none).roots S) noB=Mt Z C S.root noB:=rfl;obtain⟨A,c,hu,hc,hrow⟩:=Yf0 I hv he
  have hA:A=none→ys.length=0:=fun h=>by
   by_cases hne:ys=[]
   ·rw[hne];rfl
   ·obtain⟨b,off,q1,_⟩:=hrow hne;rw[h] at q1;cases q1
  obtain⟨cs,c1,c2,c3,c4⟩:=hrow.cells
  refine⟨C,Dd.none,noB,noB,cs,Y0.start I,fun _ h=>h,fun _ h=>h,?_,fun tx ht=>by rw[hu];exact Yo1 ht c1 c3 hA c2,.inl ⟨A,c,hu,c3⟩⟩
  rcases hcase with ⟨hp,rfl⟩ | ⟨hcl,rfl⟩
  ·exact⟨c1,c2,fun _=>noB,fun i hi=>by obtain⟨F,o',hr,_⟩:=c4 i hi;exact⟨Rep.pure hp hr (fun _ _=>rfl),fun _ x=>x.elim⟩,fun _ _ _ _ _ x=>x.elim⟩
  ·
   have hsh:∀ i (hi:i<ys.length),∃ F,Rep w (Mt Z C S.root noB) e .sh (ys[i]'hi) (.reg cs (i*e.size)) F:=by
    rcases hcl with hcl | ho
    ·intro i hi;obtain⟨F,o',hr,ho⟩:=c4 i hi;rw[ho hcl] at hr;exact⟨F,hr⟩
    ·intro i hi
     have hne:ys≠[]:=fun h=>by rw[h] at hi;exact absurd hi (Nat.not_lt_zero _)
     obtain⟨b,off,q1,_,_⟩:=hrow hne
     have hcs:∀ j,j<cs.length→w.cell? ⟨b,off+j,none⟩=cs[j]?:=fun j hj=>by
      obtain⟨a',e1,e2⟩:=c3 j _ (kV hj);rw[q1] at e1;cases e1;rw[Addr.add_lit] at e2;rw[e2,kV hj]
     have fin:∀ F,Rep w (Mt Z C S.root noB) e .sh (ys[i]'hi) (.mem b (off+i*e.size)) F→∃ F,Rep w (Mt Z C S.root noB) e .sh (ys[i]'hi) (.reg cs (i*e.size)) F:=fun F hr=>by
      refine⟨F,hr.mv (fun k hk=>?_)⟩;have:=Yaw (sz:=e.size) hi;simp only[Src.cell]
      rw[←hcs (i*e.size+k) (by omega),kH]
     rcases Ybz he with ⟨o',rfl,_⟩ | ⟨r,p,R,rfl,hR,hg⟩ | ⟨r,p,lo,n,R,zs,rfl,hR,hg,rfl⟩
     ·obtain⟨F,o',hr,ho⟩:=c4 i hi;rw[ho rfl] at hr;exact⟨F,hr⟩
     ·obtain⟨s,A',c',F,e1,e2,e3,e4,e5⟩:=Yda I ((hv:Yb _ _ _ _ _ _).leaf rfl) hR hg
      rw[hu] at e3;cases e3;obtain⟨A2,c2',k1,k2,k3⟩:=e5;rw[e2] at k1;cases k1;have hl:0<ys.length:=List.length_pos_iff.2 hne;rcases ho with rfl | rfl
      ·obtain⟨b',off',Fs,r1,r2,r3,r4,r5⟩:=k3 (by omega)
       rw[q1] at r1;cases r1;exact fin _ (r4 i hi).1
      ·obtain⟨b',off',r1,r2,r3,r4⟩:=k3 hne
       rw[q1] at r1;cases r1;exact fin _ (r4 i hi)
     ·obtain⟨R',s,o2,e',xs',A0,len,c0,A',c',h1,h2,h3,h4,h5,h6,h7,h8,h9⟩:=(hv:Yb _ _ _ _ _ _).leaf rfl
      rw[hR] at h1;cases h1;rw[Yee hg] at h3;cases h3
      obtain⟨F,hF,hr⟩:=focus p (I.str.rep r R hR) h2 hg
      obtain⟨A2,c2',k1,k2,k3⟩:=(hr:Rep w _ (.sl e) o zs s F);rw[h4] at k1;cases k1;rw[hu] at h5
      have hlen:((zs.drop lo).take n).length=n:=by simp;omega
      have hn:0<n:=by rw[←hlen];exact List.length_pos_iff.2 hne
      rw[hlen] at h5;cases h5
      have hi':i<n:=by rw[←hlen];exact hi
      have hz:zs≠[]:=by intro h0;subst h0;simp at h6;omega
      have hez:((zs.drop lo).take n)[i]'hi=zs[lo+i]'(by omega):=by simp
      rw[hez]
      have hoff:∀ b' off',(some ⟨b,off,none⟩:Option Addr)=(some (⟨b',off',none⟩:Addr)).map (fun ad=>ad.add (lo*e.size))→b=b'∧off=off'+lo*e.size:=by
       intro b' off' h;simp[Addr.add_mid] at h;exact h
      rcases ho with rfl | rfl
      ·obtain⟨b',off',Fs,r1,r2,r3,r4,r5⟩:=k3 (by omega)
       have hx:=h9 (by omega);rw[q1,r1] at hx
       obtain⟨rfl,rfl⟩:=hoff _ _ hx
       have:=(r4 (lo+i) (by omega)).1
       rw[show off'+(lo+i)*e.size=off'+lo*e.size+i*e.size by rw[jY];omega] at this
       have:=fin (Fs (lo+i)) (by rw[hez];exact this)
       rw[hez] at this;exact this
      ·obtain⟨b',off',r1,r2,r3,r4⟩:=k3 hz
       have hx:=h9 (by omega);rw[q1,r1] at hx
       obtain⟨rfl,rfl⟩:=hoff _ _ hx
       have:=(r4 (lo+i) (by omega))
       rw[show off'+(lo+i)*e.size=off'+lo*e.size+i*e.size by rw[jY];omega] at this
       have:=fin noB (by rw[hez];exact this)
       rw[hez] at this;exact this
   exact⟨c1,c2,fun _=>noB,fun i hi=>by obtain⟨F,hr⟩:=hsh i hi;exact⟨hr.Yh6 (fun _ _=>rfl),fun _ x=>x.elim⟩,fun _ _ _ _ _ x=>x.elim⟩
 have ntd:∀ o:Ow,(o=.deep→False)→(v.Yuy=true∨o=.top∨o=.sh):=by
  intro o h
  cases o with
  |deep=>exact absurd rfl h
  |top=>exact .inr (.inl rfl)
  |sh=>exact .inr (.inr rfl)
 have other:∀ v',v'=v→(∀ r p,v≠.seg r p)→((els v').bind fun | .mk e xs o=>match e.pure,o with
   |true,_=>(RD.ret (.mk e xs .deep,.none):RD (Els×Yp))
   |false,.deep=>.fail
   |false,_=>.ret (.mk e xs .sh,.none)).run S=some (.mk e ys oy,k)→(oy=.deep∨oy=.sh)∧∃ C2 D2 F G2 news,Yq2 P Z S C w k e oy ys u C2 D2 F G2 news:=by
  rintro v' rfl hns h;replace h:=RD.bind_some h;obtain⟨⟨e',ys',o⟩,h1,h⟩:=h;simp only at h
  split at h
  ·rename_i hp;cases h;exact plain _ h1 rfl (.inl ⟨hp,rfl⟩)
  ·cases h
  ·rename_i hp hd
   cases h;exact plain _ h1 rfl (.inr ⟨ntd _ hd,rfl⟩)
 cases v with
 |nl=>cases h
 |seg r p=>
  simp only[Yjw] at h;replace h:=RD.bind_some h;obtain⟨⟨e',ys',o⟩,h1,h⟩:=h;simp only at h
  split at h
  ·rename_i hp;cases h;exact plain _ h1 rfl (.inl ⟨hp,rfl⟩)
  ·rename_i hp
   split at h
   ·cases h
   ·replace h:=RD.bind_some h;obtain⟨⟨c,k'⟩,h2,h⟩:=h
    cases h;refine⟨.inl rfl,?_⟩;have hlf:=(hv:Yb _ _ _ _ _ _).leaf rfl;obtain⟨⟨C2,D2,F,G',t1,t2,t3,t4,t5,t6,t7,t8⟩,o',e2,x',ho,rfl,R1,o1,hR1,hg1⟩:=Ycf (Y0.start I) (s':=.reg [u] 0) hlf rfl h2;rcases Ybz h1 with ⟨o',hh,_⟩ | ⟨r',p',R,hh,hR,hg⟩ | ⟨r',p',lo,n,R,zs,hh,hR,hg,_⟩
    ·cases hh
    ·cases hh
     rw[hR] at hR1;cases hR1;rw[hg] at hg1;cases hg1
     have ho':o'=.deep:=by
      simp only[Ybt,Yp.none,lk] at h2;simp only[RD.run,hR,Yhz,hg] at h2;unfold takeC Ynp at h2
      split at h2
      ·cases h2;rfl
      ·split at h2
       ·cases h2;rfl
       ·cases h2
     subst ho';obtain⟨s0,A,c,F0,_,_,hu,_,_⟩:=Yda I hlf hR hg;have hre:Rep w (Mt Z C2 (k'.roots S) G') (.sl e) .deep ys (.reg [u] 0) F:=t6
     obtain⟨hle,cs,Fr,rr,rF,hblk⟩:=hre.rowOf (A:=A) (c:=c) (by rw[hu];rfl) (by simp)
     have hfm:∀ j v,cs[j]? = some v→∃ a,A=some a∧w.cell? (a.add j)=some v:=by
      intro j v hj
      have hj':j<cs.length:=by
       rcases kG j cs.length with h | h
       ·exact h
       ·rw[List.getElem?_eq_none h] at hj;cases hj
      obtain⟨b,off,q1,_,_,_,q5⟩:=hblk (by
       intro h0;have:=rr.len
       have hz:ys.length=0:=by omega
       rw[hz,Nat.zero_mul] at this;omega)
      refine⟨_,q1,?_⟩
      rw[Addr.add_lit,q5 j (by rw[←rr.len];exact hj')];exact hj
     refine⟨C2,D2,Fr,G',cs,t1,fun b hb=>t3 b (rF b hb),t7,rr,fun tx ht=>?_,.inl ⟨A,c,hu,hfm⟩⟩;rw[hu];refine Yo1 ht rr.len hfm (fun hA=>?_) rr.one;rcases kN c with h0 | h0
     ·omega
     ·obtain⟨b,off,q1,_⟩:=hblk (by omega);rw[hA] at q1;cases q1
    ·cases hh
  ·rename_i hp hd
   cases h
   exact plain _ h1 rfl (.inr ⟨ntd _ hd,rfl⟩)
 |cl o t x=>
  cases t with
  |str=>
   simp only[Yjw,RD.run] at h;cases h;refine⟨.inl rfl,?_⟩;obtain⟨z,rfl,hz⟩:=(hv:Yb _ _ _ _ _ _).str;have hl:(byteCells z).length=z.size:=byteCells_length z
   have hx:(x.map fun b=>(b.toNat:Int)).length=z.size:=by rw[←hz];simp
   refine⟨C,Dd.none,noB,noB,byteCells z,Y0.start I,fun _ h=>h,fun _ h=>h,⟨by rw[hl,hx];simp[Ty.size],?_,fun _=>noB,fun i hi=>⟨?_,fun _ x=>x.elim⟩,fun _ _ _ _ _ x=>x.elim⟩,fun tx ht=>?_,.inr ⟨z,rfl,rfl,hx,rfl⟩⟩
   ·intro v hv;obtain⟨_,_,rfl⟩:=List.mem_map.1 hv;rfl
   ·show(byteCells z)[i*1+0]? = _
    subst hz;simp[byteCells] at hi ⊢;exact⟨_,Array.getElem?_eq_getElem hi,rfl⟩
   ·rw[hx]
    exact⟨ht,fun _=>rfl,firstCells_string z w,firstCells_string z w.drew,by rw[hl];simp[Ty.size],fun u hu=>by obtain⟨_,_,rfl⟩:=List.mem_map.1 hu;rfl⟩
  |_=>exact other _ rfl (fun _ _=>by simp) h
 |_=>exact other _ rfl (fun _ _=>by simp) h
end
section
variable {a:Act}
variable {o:Oper}
theorem Ylq (I:Inv Z S C a w) (T:Y0 Z S C w K G C1 D) (hv:VOk w (Mt Z C S.root noB) C.L S.root v u) (h:(Ylp K e v).run S=some (xs,ow,K')) :
  ow≠.sh∧∃ C3 D3 F G3,Y0 Z S C w K' G3 C3 D3∧Ye G G3∧Ye F G3∧Dis F G∧Ye (Mt Z C3 (K'.roots S) G3) (Mt Z C1 (K.roots S) G)∧
   ∃ A c,u=.slice A xs.length c∧Rep w (Mt Z C3 (K'.roots S) G3) (.sl e) ow xs (.reg [u] 0) F:=by
 cases v with
 |nl=>
  simp only[Ylp,RD.run] at h;cases h;obtain⟨A,rfl⟩:=(hv:Yb _ _ _ _ _ _).leaf rfl
  exact⟨by simp,C1,D,noB,G,T,fun _ h=>h,fun _ h=>h.elim,fun _ h=>h.elim,fun _ h=>h,A,0,rfl,Rep.nil rfl⟩
 |seg r p=>
  simp only[Ylp] at h;replace h:=RD.bind_some h;obtain⟨⟨c,k⟩,h1,h⟩:=h;have hlf:=(hv:Yb _ _ _ _ _ _).leaf rfl;obtain⟨⟨C2,D2,F,G',t1,t2,t3,t4,t5,t6,t7,t8⟩,o',e2,x',ho,rfl,R1,o1,hR1,hg1⟩:=Ycf T (s':=.reg [u] 0) hlf rfl h1;simp only at h
  split at h
  ·rename_i he _;subst he
   cases h;obtain⟨s0,A,c,F0,_,_,hu,_,_⟩:=Yda I hlf hR1 hg1;exact⟨ho,C2,D2,F,G',t1,t2,t3,t4,t7,A,c,hu,t6⟩
  ·cases h
 |_=>cases h
theorem Ykr (need:Nat):∀ (r c:Nat),Builtin.growBy need r c≤2 ^ r*(c+768)
 |0,c=>by simp[Builtin.growBy]
 |r+1,c=>by
  unfold Builtin.growBy
  split
  ·have:1≤2 ^ (r+1):=Nat.one_le_two_pow
   calc c≤1*(c+768):=by omega
    _≤2 ^ (r+1)*(c+768):=jR _ this
  ·refine jU (Ykr need r _) ?_
   rw[Nat.pow_succ,Nat.mul_assoc]
   exact Nat.mul_le_mul_left _ (by omega)
theorem Yoq (h1:c<need) (h2:need≤2147483648):Builtin.nextslicecap need c≤34359750656:=by
 unfold Builtin.nextslicecap
 split
 ·omega
 ·split
  ·omega
  ·refine jU (Ykr need 4 c) ?_
   omega
theorem Yhc (t tx ty e:TypeId) (i:TypeInfo) (ht:P.underlying t=some (.slice e)) (hi:P.info? e=some i) (A:Option Addr) (sLen sCap:Nat) (x:Value) (n:Nat) (hs:Go.Src P i.size tx x n [] w)
  (hroom:sLen+n≤sCap):(Builtin.append_ #[t,tx] ty #[.slice A sLen sCap,x]).run P w=.ok (.slice A (sLen+n) sCap) w:=by
 cases A<;>rcases hs.kind with ⟨e',hk⟩ | hk<;>simp[Builtin.append_,run_underlying ht,run_underlying hk,Go.sizeOf,typeInfo,hi,hs.len,hroom,hs.cells,storeCells]
theorem Yw.join {M3 M:Yd} {e:Ty} {ow oy:Ow} {xs ys:List e.El} {olds news:List Value} {Fr F2:Yd} (h1:Yw w M3 e ow.elem xs olds Fr) (h2:Yw w M3 e oy ys news F2) (ho:ow≠.sh) (hy:oy=.deep∨oy=.sh)
  (hd:Dis Fr F2) (hM:Ye M (fun b=>M3 b∨w.heap.size≤b)) (hlt:∀ b,Fr b∨F2 b→b<w.heap.size) (hsh:¬ (ow=.deep∧oy=.deep)→∀ b,Fr b∨F2 b→¬ M b)
  (hs:∀ b,b<w.heap.size→(Fr b∨F2 b∨¬ M b)→Same w w' b) (hsz:w.heap.size≤w'.heap.size) :
  ∃ F0,Yw w' M e (match ow,oy with | .deep,.deep=>Ow.deep | _,_=>.top).elem (xs++ys) (olds++news) F0∧(∀ b,F0 b→(ow=.deep∧oy=.deep)∧(Fr b∨F2 b)):=by
 have hm:Ye (fun b=>M b∧b<w.heap.size) M3:=fun b ⟨h,hl⟩=>(hM b h).elim id (fun h=>by omega)
 have go:∀ F,(∀ b,F b→Fr b∨F2 b)→Goes w w' (fun b=>M b∧b<w.heap.size) M F:=fun F hF=>
  ⟨hsz,fun b hb=>hs b (hlt b (hF b hb)) ((hF b hb).elim .inl (fun h=>.inr (.inl h))),fun b h1 h2=>⟨hs b h2 (.inr (.inr (fun h=>h1 ⟨h,h2⟩))),fun h=>h1 ⟨h,h2⟩⟩⟩
 by_cases hdd:ow=.deep∧oy=.deep
 ·obtain⟨rfl,rfl⟩:=hdd
  exact⟨fun b=>Fr b∨F2 b,((h1.mono hm).append (h2.mono hm) hd (fun _ h=>.inl h) (fun _ h=>.inr h)).go (go _ (fun b h=>h)),fun b h=>⟨⟨rfl,rfl⟩,h⟩⟩
 ·have hsh:=hsh hdd
  have s1:=h1.share hm (fun b hb=>⟨fun h=>hsh b (.inl hb) h.1,hlt b (.inl hb)⟩);have s2:=h2.share hm (fun b hb=>⟨fun h=>hsh b (.inr hb) h.1,hlt b (.inr hb)⟩);refine⟨noB,?_,fun b h=>h.elim⟩;have:=(s1.append s2 (fun _ h=>h.elim) (fun _ h=>h.elim) (fun _ h=>h.elim)).go (go noB (fun b h=>h.elim))
  rcases hy with rfl | rfl<;>cases ow<;>first | exact absurd rfl ho | exact absurd ⟨rfl,rfl⟩ hdd | exact this
theorem Yp2 (ht:Yaf P tb) (I:Inv Z S C a w) (hg:Yax a g) {np d:Nat} {args:Array Operand} {ats:Array TypeId} (ho:o.op=.call ⟨.builtin .append,args,ats⟩) (hd:o.dst=some d) (hnp:∀ i,np≤i→Z.P i=none) (hgd:Yu S (some d)) (hdn:d<Z.nt) {b:Option Bool} {p:Patch}
  (h:(doR tb hn np g o).run S=some (.step b p)) (hb:b≠some false):Done P o a w fun u w'=>∃ C',Inv Z (S.ap p) C' (a.put o.dst u) w':=by
 simp only[doR,ho,hd] at h
 split at h
 ·rename_i s x ts tx hargs hats
  replace h:=RD.bind_some h;obtain⟨i,h1,h⟩:=h;replace h:=RD.bind_some h;obtain⟨ix,h2,h⟩:=h
  split at h
  ·rename_i e _ hi hix
   replace h:=RD.bind_some h;obtain⟨vs,h3,h⟩:=h;replace h:=RD.bind_some h;obtain⟨vx,h4,h⟩:=h;replace h:=RD.bind_some h;obtain⟨⟨⟨e',ys,oy⟩,k'⟩,h5,h⟩:=h;replace h:=RD.bind_some h;obtain⟨⟨xs,ow,k⟩,h6,h⟩:=h;simp only at h
   split at h
   ·rename_i hee _;subst hee
    replace h:=RD.bind_some h;obtain⟨p',h7,h⟩:=h;cases h
    have hlen:(xs++ys).length≤2147483648:=by simpa using hb
    rw[jP] at hlen;obtain⟨⟨ds,hds,hsk,_⟩,_⟩:=ht ts i (Yq h1);obtain⟨ee,rfl,te,j,q1,q2,q3,q4,⟨z,hz,hzc⟩,hby⟩:=Ynm hsk hi;rw[hi] at q1;cases q1;obtain⟨⟨dx,hdx,hxk,_⟩,_⟩:=ht tx ix (Yq h2)
    have hkind:(∃ e',P.underlying tx=some (.slice e'))∨P.underlying tx=some .string:=by
     cases hd':ix.d with
     |sl e''=>rw[hd'] at hxk;obtain⟨rfl,_⟩:=hxk;exact .inl ⟨_,hdx⟩
     |str=>rw[hd'] at hxk;obtain⟨rfl,_⟩:=hxk;exact .inr hdx
     |_=>rw[hd'] at hix;cases hix
    have hvx:=Yg I hg h4;have hvs:=Yg I hg h3;obtain⟨hoy,C2,D2,F2,G2,news,ST⟩:=Ygp (P:=P) I hvx h5;obtain⟨how,C3,D3,F3,G3,T3,g1,g2,g3,g4,A,c,hu,hrep⟩:=Ylq I ST.t hvs h6
    have hargs':args=#[s,x]:=by rw[←Array.toArray_toList (xs:=args),hargs]
    have hats':ats=#[ts,tx]:=by rw[←Array.toArray_toList (xs:=ats),hats]
    have hsrc:Go.Src P j.size tx (a.eval x) ys.length news w:=by rw[q3];exact ST.src tx hkind
    obtain⟨hle,olds,Fr,rold,rF,hblk⟩:=hrep.rowOf (A:=A) (c:=c) (by rw[hu];rfl) how
    have rnew:=ST.row.mono g4
    have hexec:∀ v w',(Builtin.append_ #[ts,tx] o.type #[.slice A xs.length c,a.eval x]).run P w=.ok v w'→(execOp a.eval o).run P w=.ok (.value v) w':=by
     intro v w' hr;subst hargs';subst hats';simp[execOp,ho,resolve,invoke,builtin,hu,hr]
    have hdd:Dis Fr F2:=fun b x y=>g3 b (rF b x) (ST.f b y);have hg3:∀ b,Fr b∨F2 b→G3 b:=fun b h=>h.elim (fun h=>g2 b (rF b h)) (fun h=>g1 b (ST.f b h));have hlt:∀ b,Fr b∨F2 b→b<w.heap.size:=fun b h=>(T3.str.gbnd b (hg3 b h)).1;rw[hd];have hbnd:∀ b,G3 b→b<w.heap.size:=fun b h=>(T3.str.gbnd b h).1;have hnews:news.length=ys.length*e'.size:=ST.row.len;have holds:olds.length=xs.length*e'.size:=rold.len;have hzlen:(xs++ys).length=xs.length+ys.length:=jP
    by_cases hroom:xs.length+ys.length≤c
    ·rcases kN c with hc0 | hc0
     ·
      have hx0:xs=[]:=List.length_eq_zero_iff.1 (by omega)
      have hy0:ys=[]:=List.length_eq_zero_iff.1 (by omega)
      subst hx0 hy0
      have hn0:news=[]:=List.length_eq_zero_iff.1 (by simpa using hnews)
      subst hn0;refine .inl ⟨_,w,.inl (hexec _ _ (Yhc ts tx o.type ee j hds q2 A _ c (a.eval x) _ hsrc hroom)),?_⟩;subst hc0;exact Ye5 I T3 (Fn:=noB) h7 hnp hgd hdn (Yb5.refl w _) rfl (fun M hM=>Rep.nil rfl) (fun _ h=>h.elim)
     ·
      obtain⟨bb,off,rfl,hFb,hFrb,hRoom,hcell⟩:=hblk (by omega)
      have hmul:(xs.length+ys.length)*e'.size≤c*e'.size:=jR _ hroom;rw[jY] at hmul
      have hin:∀ k,k<news.length→xs.length*e'.size+k<c*e'.size:=fun k hk=>by omega
      have hrm:∀ k,k<news.length→(w.cell? ⟨bb,off+xs.length*e'.size+k,none⟩).isSome=true∧w.frozen? ⟨bb,off+xs.length*e'.size+k,none⟩=false:=fun k hk=>by
       have:=hRoom _ (hin k hk);rwa [←kH] at this
      have hrun:=run_append_room_src (P:=P) w ts tx o.type ee j hds q2 bb off xs.length c (a.eval x) ys.length news hsrc hroom (fun k hk=>by rw[q3];exact(hrm k hk).1) (fun k hk=>by rw[q3];exact(hrm k hk).2)
      rw[q3] at hrun;refine .inl ⟨_,_,.inl (hexec _ _ hrun),?_⟩;generalize hw':w.setCells bb (off+xs.length*e'.size) news=w'
      have hsame:∀ b,b≠bb→Same w w' b:=fun b hb=>by rw[←hw'];exact Y9 bb hb _ _ w
      have hsize:w'.heap.size=w.heap.size:=by rw[←hw'];exact setCells_size _ _ _ _
      have hbb3:G3 bb:=g2 bb hFb;have hF2b:¬ F2 bb:=fun h=>g3 bb hFb (ST.f bb h)
      have hcellw:∀ k,k<(olds++news).length→w'.cell? ⟨bb,off+k,none⟩=(olds++news)[k]?:=by
       intro k hk;rw[jP] at hk;rcases kG k olds.length with hlt' | hge'
       ·rw[←hw',World.cell?_setCells_out bb _ _ _ _ (fun _ _=>.inl (by show off+k<_;omega)),List.getElem?_append_left hlt']
        exact hcell k (by omega)
       ·have hk':k-olds.length<news.length:=by omega
        rw[List.getElem?_append_right hge',kV hk',←hw',←World.cell?_setCells_in bb news (off+xs.length*e'.size) w (fun j hj=>(hrm j hj).1) _ hk']
        congr 2;omega
      have hroomw:Room w' bb off (c*e'.size):=by
       intro k hk;have:=hRoom k hk
       refine⟨?_,by rw[←hw',World.frozen?_setCells];exact this.2⟩
       rcases kG k (olds++news).length with h1 | h1
       ·rw[hcellw k h1,kV h1];rfl
       ·rw[jP] at h1
        rw[←hw',World.cell?_setCells_out bb _ _ _ _ (fun _ _=>.inr (by show _≤off+k;omega))]
        exact this.1
      have hand:∀ G1:Yd,Ye G1 G3→Yb5 w w' G3 G1:=fun G1 h=>⟨by rw[hsize];exact jB _,fun b _ hb=>hsame b (fun e=>hb (e▸hbb3)),fun b hb=>.inl (h b hb),
       by rw[←hw'];exact World.os_setCells _ _ _ _,by rw[←hw'];exact Yaa _ _ _ _,by rw[←hw'];exact World.output_setCells _ _ _ _⟩
      refine Yjo I T3 (Fn:=fun b=>b=bb∨((ow=.deep∧oy=.deep)∧(Fr b∨F2 b))) (G1:=fun b=>b=bb∨((ow=.deep∧oy=.deep)∧(Fr b∨F2 b))) h7 hnp hgd hdn
       (hand _ (fun b h=>h.elim (fun h=>h▸hbb3) (fun h=>hg3 b h.2))) rfl (fun M hM hex hin'=>?_) (fun _ h=>h)
      obtain⟨F0,r0,hF0⟩:=rold.join (w':=w') (M:=M) rnew how hoy hdd hM hlt (fun hnd b hb=>hex b (hg3 b hb) (fun h=>h.elim (fun h=>by subst h;exact hb.elim hFrb hF2b) (fun h=>hnd h.1)))
       (fun b _ hb=>hsame b (fun e=>by subst e;exact hb.elim hFrb (fun h=>h.elim hF2b (fun h=>h (hin' b (.inl rfl)))))) (by rw[hsize];exact jB _)
      refine r0.row ?_ hzlen hroom hroomw hcellw (.inl rfl) (fun b h=>.inr (hF0 b h)) (fun h=>(hF0 _ h).2.elim hFrb hF2b)
      split<;>simp
    ·
     have hfit:Builtin.nextslicecap (xs.length+ys.length) c*j.bytes≤281474976710656:=by
      have h1:=Yoq (need:=xs.length+ys.length) (c:=c) (by omega) hlen
      calc _≤34359750656*4096:=Nat.mul_le_mul h1 hby
       _≤_:=by omega
     have hold:(Builtin.firstCells j.size xs.length (.slice A xs.length c)).run P w.drew=.ok olds.toArray w.drew:=by
      rw[q3];have hs:=Yo1 (P:=P) (w:=w) (size:=e'.size) (tx:=ts) (A:=A) (n:=xs.length) (c:=c) (news:=olds) (.inl ⟨ee,hds⟩) holds (fun k v hk=>?_) (fun hA=>?_) rold.one
      ·exact hs.cellsD
      ·have hk':k<olds.length:=by
        rcases kG k olds.length with h | h
        ·exact h
        ·rw[List.getElem?_eq_none h] at hk;cases hk
       have hx0:xs.length≠0:=fun h0=>by rw[h0,Nat.zero_mul] at holds;omega
       obtain⟨bb,off,e1,_,_,_,hcell⟩:=hblk (by omega)
       exact⟨_,e1,by rw[Addr.add_lit,hcell k (by omega)];exact hk⟩
      ·rcases kN xs.length with h0 | h0
       ·exact h0
       ·obtain⟨bb,off,e1,_⟩:=hblk (by omega);rw[hA] at e1;cases e1
     have hrun:=run_append_grow_src (P:=P) w ts tx o.type ee j z hds q2 hz A xs.length c olds hold (a.eval x) ys.length news hsrc (by omega) (by omega) hfit
     refine .inl ⟨_,_,.inl (hexec _ _ hrun),?_⟩;generalize hcap:grownCap w (xs.length+ys.length) c ee=cap
     have hge:xs.length+ys.length≤cap:=by rw[←hcap];exact Nat.le_add_right _ _
     generalize hcs:(olds++news).toArray++Builtin.zeroCells z.cells (cap-(xs.length+ys.length))=cs
     have hzs:z.cells.size=e'.size:=by rw[←Yt,←hzc];simp
     have hcsz:cs.size=cap*e'.size:=by
      rw[←hcs];simp only[Array.size_append,Builtin.zeroCells,Array.size_map,Array.size_range,List.size_toArray,jP,holds,hnews,hzs];rw[←jY,←jY];congr 1;omega
     have hpush:Ya3 w (w.drew.alloc (.cells cs ee)) cs:=⟨⟨ee,(0,0),rfl,fun i hi=>by simp⟩,rfl,rfl,rfl⟩
     generalize w.drew.alloc (.cells cs ee)=w' at hpush
     have hcellw:∀ k,k<(olds++news).length→w'.cell? ⟨w.heap.size,0+k,none⟩=(olds++news)[k]?:=by
      intro k hk
      rw[jJ,hpush.cell,←hcs,Array.getElem?_append_left (by simpa using hk)]
      simp
     have hFnew:∀ b,Fr b∨F2 b→b≠w.heap.size:=fun b h e=>by have:=hlt b h;omega
     have hdeepG:∀ b,(fun b=>b=w.heap.size∨((ow=.deep∧oy=.deep)∧(Fr b∨F2 b))) b→G3 b∨b=w.heap.size:=fun b h=>h.elim .inr (fun h=>.inl (hg3 b h.2))
     refine Yjo I T3 (Fn:=fun b=>b=w.heap.size∨((ow=.deep∧oy=.deep)∧(Fr b∨F2 b))) (G1:=fun b=>b=w.heap.size∨((ow=.deep∧oy=.deep)∧(Fr b∨F2 b))) h7 hnp hgd hdn
      ⟨(hpush.hand G3).sz,(hpush.hand G3).same,fun b hb=>(hpush.hand G3).g b (hdeepG b hb),hpush.os,hpush.tape,hpush.output⟩ rfl (fun M hM hex hin'=>?_) (fun _ h=>h)
     obtain⟨F0,r0,hF0⟩:=rold.join (w':=w') (M:=M) rnew how hoy hdd hM hlt (fun hnd b hb=>hex b (hg3 b hb) (fun h=>h.elim (fun h=>hFnew b hb h) (fun h=>hnd h.1)))
      (fun b hb _=>hpush.same hb) (by rw[hpush.size];omega)
     refine r0.row ?_ hzlen hge (hpush.room (by rw[hcsz];exact jB _)) hcellw (.inl rfl) (fun b h=>.inr (hF0 b h)) (fun h=>hFnew _ (hF0 _ h).2 rfl)
     split<;>simp
   ·cases h
  ·cases h
 ·cases h
end
section
variable {a:Act}
variable {o:Oper}
theorem Yiz:∀ (v:List Value) (pre mid post:List Value) (off k:Nat),mid.length=v.length→pre.length=off+k→
  (v.zipIdx k).foldl (fun cs (x:Value×Nat)=>cs.setIfInBounds (off+x.2) x.1) (pre++mid++post).toArray=(pre++v++post).toArray
 |[],pre,mid,post,off,k,h,hp=>by
  have:mid=[]:=List.length_eq_zero_iff.1 (by simpa using h)
  subst this;simp
 |x::v,pre,[],post,off,k,h,hp=>by simp at h
 |x::v,pre,m::mid,post,off,k,h,hp=>by
  simp only[List.zipIdx_cons,kI]
  have e:(pre++m::mid++post).toArray.setIfInBounds (off+k) x=((pre++[x])++mid++post).toArray:=by
   rw[←hp];simp
  rw[e,Yiz v (pre++[x]) mid post off (k+1) (by simpa using h) (by simp;omega)]
  simp
def Yab (f:Nat→List Value):Nat→Ty→List Value
 |i,.pair _ b=>f i++Yab f (i+1) b
 |_,_=>[]
def Ykc (f:Nat→List Value) (i:Nat) (v:List Value):Nat→List Value:=fun j=>if j=i then v else f j
def Ydk:Nat→List Nat→Ty→Prop
 |k,o::os,.pair a b=>o=k∧Ydk (k+a.size) os b
 |_,[],.unit=>True
 |_,_,_=>False
theorem Yfz {f f':Nat→List Value}:∀ (t:Ty) (i:Nat),(∀ j,i≤j→f j=f' j)→Yab f i t=Yab f' i t:=by
 intro t
 induction t with
 |pair a b iha ihb=>intro i h;simp only[Yab];rw[h i (jB _),ihb (i+1) (fun j hj=>h j (by omega))]
 |_=>intro i h;rfl
theorem Ylk:∀ (offs:List Nat) (t:Ty) (k i n:Nat) {f:Nat→List Value},Ydk k offs t→(∀ j,j<offs.length→(f (i+j)).length=(Y7 t j).size)→n<offs.length→
  ∃ pre post off,Yab f i t=pre++f (i+n)++post∧offs[n]? = some off∧off=k+pre.length∧∀ v:List Value,v.length=(Y7 t n).size→Yab (Ykc f (i+n) v) i t=pre++v++post:=by
 intro offs
 induction offs with
 |nil=>intro t k i n f h hf hn;simp at hn
 |cons o os ih=>
  intro t k i n f h hf hn
  cases t with
  |pair a b=>
   obtain⟨rfl,h⟩:=h
   cases n with
   |zero=>
    refine⟨[],Yab f (i+1) b,o,by simp[Yab],by simp,by simp,fun v hv=>?_⟩
    simp only[Yab,kF]
    rw[Yfz b (i+1) (f':=f) (fun j hj=>by simp[Ykc];omega)]
    simp[Ykc]
   |succ n=>
    obtain⟨pre,post,off,e1,e2,e3,e4⟩:=ih b (o+a.size) (i+1) n (f:=f) h (fun j hj=>by
     have:=hf (j+1) (by simp;omega)
     rw[show i+1+j=i+(j+1) by omega];exact this) (by simpa using hn)
    have h0:=hf 0 (by simp)
    simp only[kF,Y7] at h0
    refine⟨f i++pre,post,off,?_,by simpa using e2,by simp[h0];omega,fun v hv=>?_⟩
    ·simp only[Yab];rw[e1,show i+1+n=i+(n+1) by omega];simp
    ·simp only[Yab]
     rw[show i+(n+1)=i+1+n by omega,e4 v hv]
     have:Ykc f (i+1+n) v i=f i:=by simp[Ykc];omega
     rw[this];simp
  |_=>exact h.elim
theorem Yn4:∀ (offs:List Nat) (t:Ty) (k i:Nat) {f:Nat→List Value},Ydk k offs t→(∀ j,j<offs.length→(f (i+j)).length=(Y7 t j).size)→(Yab f i t).length=t.size:=by
 intro offs
 induction offs with
 |nil=>intro t k i f h hf;cases t<;>first | exact h.elim | rfl
 |cons o os ih=>
  intro t k i f h hf
  cases t with
  |pair a b=>
   obtain⟨rfl,h⟩:=h;simp only[Yab,jP,Ty.size]
   have h0:=hf 0 (by simp)
   simp only[kF,Y7] at h0
   rw[h0,ih b _ (i+1) h (fun j hj=>by
    have:=hf (j+1) (by simp;omega)
    rw[show i+1+j=i+(j+1) by omega];exact this)]
  |_=>exact h.elim
def Yk5 (i:Nat):List (Nat×Value)→Option Value
 |[]=>none
 |(j,x)::l=>match Yk5 i l with | some y=>some y | none=>if j=i then some x else none
def Ygw (f:Nat→List Value) (parts:List (Nat×Value)):Nat→List Value:=fun i=>match Yk5 i parts with | some v=>v.cells.toList | none=>f i
theorem Yhn (offs:List Nat) (t:Ty) (place:Nat→Option (Nat×Nat)) (hF:Ydk 0 offs t) (hp:∀ n off,offs[n]? = some off→place n=some (off,(Y7 t n).size)) :
  ∀ (parts:List (Nat×Value)) (f:Nat→List Value),(∀ j,j<offs.length→(f j).length=(Y7 t j).size)→(∀ x∈parts,x.1<offs.length∧x.2.cells.size=(Y7 t x.1).size)→
   Instr.fill place (Yab f 0 t).toArray parts=some (Yab (Ygw f parts) 0 t).toArray
 |[],f,hf,hx=>by simp only[Instr.fill];rfl
 |(n,v)::parts,f,hf,hx=>by
  obtain⟨hn,hv⟩:=hx (n,v) jF
  obtain⟨pre,post,off,e1,e2,e3,e4⟩:=Ylk offs t 0 0 n (f:=f) hF (fun j hj=>by rw[jJ];exact hf j hj) hn
  rw[jJ] at e1 e3 e4;have hfn:=hf n hn;simp only[Instr.fill,hp n off e2]
  have hsz:¬ (v.cells.size≠(Y7 t n).size):=by simp[hv]
  have hb:¬ ((Yab f 0 t).toArray.size<off+v.cells.size):=by
   rw[e1];simp only[List.size_toArray,jP];dsimp only at hv;omega
  have hcond:(decide (v.cells.size≠(Y7 t n).size) || decide (off+v.cells.size>(Yab f 0 t).toArray.size))=false:=by
   simp only[Bool.or_eq_false_iff,decide_eq_false_iff_not];exact⟨hsz,hb⟩
  rw[jM (by rw[hcond];simp)]
  have hfold:v.cells.zipIdx.foldl (fun cs (x:Value×Nat)=>cs.setIfInBounds (off+x.2) x.1) (Yab f 0 t).toArray=(Yab (Ykc f n v.cells.toList) 0 t).toArray:=by
   rw[←Array.foldl_toList,Array.toList_zipIdx,e4 _ (by simpa using hv),e1]
   exact Yiz v.cells.toList pre (f n) post off 0 (by rw[hfn];simpa using hv.symm) (by omega)
  have:=Yhn offs t place hF hp parts (Ykc f n v.cells.toList) (fun j hj=>by
   unfold Ykc;split
   ·rename_i e;subst e;simpa using hv
   ·exact hf j hj) (fun x hm=>hx x (jG _ hm))
  refine Eq.trans (congrArg (fun z=>Instr.fill place z parts) hfold) (this.trans ?_)
  congr 2
  refine Yfz t 0 (fun j _=>?_);simp only[Ygw,Yk5]
  cases Yk5 j parts with
  |some y=>rfl
  |none=>
   simp only
   by_cases e:n=j
   ·subst e;simp[Ykc]
   ·simp[Ykc,e,Ne.symm e]
end
section
variable {a:Act}
variable {o:Oper}
theorem Yqh (h:Ya w M Lf (.pr x y) s noB):Ya w M Lf (Ypk x y) s noB:=by
 cases x with
 |cl o t x=>
  cases y with
  |cl o' u y=>
   obtain⟨F1,F2,h1,h2,h3,h4,h5⟩:=h
   exact⟨noB,noB,Rep.share h1 (fun _ h=>h) (fun b hb=>(h3 b hb).elim),Rep.share h2 (fun _ h=>h) (fun b hb=>(h4 b hb).elim),fun _ x=>x.elim,fun _ x=>x.elim,fun _ x=>x.elim⟩
  |_=>exact h
 |_=>exact h
theorem Yop (x y:TV):(Ypk x y).size=x.size+y.size:=by cases x<;>cases y<;>rfl
theorem Yqg (x y:TV):(Ypk x y).isAgg=true:=by cases x<;>cases y<;>rfl
def Yk4 (a:Act) (parts:List (Nat×Operand)) (t:Ty) (i j:Nat):List Value:=match partAt (i+j) parts with
 |some x=>(a.eval x).cells.toList
 |none=>Yy (Y7 t j)
theorem Yr6 {v:TV} (h:v.Yuc=true):∀ l,v≠.tup l:=by rintro l rfl;cases h
theorem Yli (I:Inv Z S C a w) (hg:Yax a g) (parts:List (Nat×Operand)):∀ (offs:List Nat) (t:Ty) (i k:Nat) {v:TV},(Yil g parts i k offs t).run S=some v→
  Ydk k offs t∧(∀ j,j<offs.length→∀ x,partAt (i+j) parts=some x→(a.eval x).cells.size=(Y7 t j).size)∧
   ∀ f:Nat→List Value,(∀ j,j<offs.length→f (i+j)=Yk4 a parts t i j)→Ya w (Mt Z C S.root noB) (Yi w (Mt Z C S.root noB) C.L S.root) v (.reg (Yab f i t) 0) noB∧v.size=t.size∧v.isAgg=true:=by
 intro offs
 induction offs with
 |nil=>
  intro t i k v h
  cases t with
  |unit=>
   simp only[Yil,RD.run] at h;cases h
   exact⟨trivial,fun j hj=>absurd hj (by simp),fun f _=>⟨trivial,rfl,rfl⟩⟩
  |_=>cases h
 |cons o os ih=>
  intro t i k v h
  cases t with
  |pair t1 t2=>
   simp only[Yil] at h
   split at h
   ·rename_i hok
    have hok:o=k:=by simpa using hok
    replace h:=RD.bind_some h;obtain⟨v1,h1,h⟩:=h
    split at h
    ·rename_i hsz
     simp only[jC,Nat.beq_eq] at hsz;replace h:=RD.bind_some h;obtain⟨v2,h2,h⟩:=h;cases h;obtain⟨f1,f2,f3⟩:=ih t2 (i+1) (k+t1.size) h2;subst hok
     have hfst:(∀ x,partAt i parts=some x→(a.eval x).cells.size=t1.size)∧Ya w (Mt Z C S.root noB) (Yi w (Mt Z C S.root noB) C.L S.root) v1 (.reg (Yk4 a parts (.pair t1 t2) i 0) 0) noB∧(Yk4 a parts (.pair t1 t2) i 0).length=t1.size:=by
      unfold Yk4;rw[kF]
      cases hp:partAt i parts with
      |some x=>
       rw[hp] at h1;obtain⟨r1,r2⟩:=(Yg I hg h1).rep (Yr6 hsz.2);refine⟨fun y e=>?_,r1,?_⟩
       ·cases e;rw[r2,hsz.1]
       ·show(a.eval x).cells.toList.length=_;rw[Array.length_toList,r2,hsz.1]
      |none=>
       rw[hp] at h1;simp only[RD.run] at h1;cases h1
       exact⟨fun y e=>(by cases e),Yo6 t1 (fun j hj=>by simp only[Src.cell,jJ,Y7]),by simp only[Y7];rw[Yt]⟩
     refine⟨⟨rfl,f1⟩,fun j hj x hx=>?_,fun f hf=>?_⟩
     ·cases j with
      |zero=>exact hfst.1 x (by simpa using hx)
      |succ j=>exact f2 j (by simpa using hj) x (by rw[show i+1+j=i+(j+1) by omega];exact hx)
     ·have hf0:=hf 0 (by simp)
      rw[kF] at hf0
      obtain⟨r1,r2,r3⟩:=f3 f (fun j hj=>by
       have:=hf (j+1) (by simp;omega)
       rw[show i+1+j=i+(j+1) by omega,this]
       unfold Yk4
       rw[show i+1+j=i+(j+1) by omega]
       rfl)
      refine⟨Yqh ⟨noB,noB,?_,?_,fun _ x=>x.elim,fun _ x=>x.elim,fun _ x=>x.elim⟩,by rw[Yop,hsz.1,r2];rfl,Yqg _ _⟩
      ·refine hfst.2.1.mv (fun j hj=>?_)
       simp only[Src.cell,jJ,Yab]
       rw[hf0,List.getElem?_append_left (by rw[hfst.2.2,←hsz.1];exact hj)]
      ·refine r1.mv (fun j hj=>?_)
       simp only[Src.cell,Src.sh,jJ,Yab]
       rw[hf0,hsz.1,List.getElem?_append_right (by rw[hfst.2.2];omega),hfst.2.2,Nat.add_sub_cancel_left]
    ·cases h
   ·cases h
  |_=>cases h
theorem Yov:∀ {parts:List (Nat×Operand)} {n:Nat},Ye3 n parts=true→(i,x)∈parts→partAt i parts=some x∧i<n:=by
 intro parts
 induction parts with
 |nil=>intro n _ h;cases h
 |cons y l ih=>
  intro n h hm;obtain⟨j,z⟩:=y;simp only[Ye3,jC] at h;obtain⟨⟨h1,h2⟩,h3⟩:=h;rcases List.mem_cons.1 hm with e | hm
  ·cases e
   refine⟨?_,by simpa using h1⟩
   simp only[partAt];rw[show Nat.beq i i=true by simp]
  ·obtain⟨e1,e2⟩:=ih h3 hm
   refine⟨?_,e2⟩;simp only[partAt]
   split
   ·rename_i hb
    have hb:i=j:=by simpa using hb
    subst hb;rw[e1] at h2;cases h2
   ·exact e1
theorem Yk6 (a:Act):∀ {parts:List (Nat×Operand)} {n:Nat},Ye3 n parts=true→∀ i,Yk5 i (parts.map fun x=>(x.1,a.eval x.2))=(partAt i parts).map a.eval:=by
 intro parts
 induction parts with
 |nil=>intro n _ i;rfl
 |cons y l ih=>
  intro n h i;obtain⟨j,z⟩:=y;simp only[Ye3,jC] at h;obtain⟨⟨h1,h2⟩,h3⟩:=h;simp only[jS,Yk5,partAt];rw[ih h3 i]
  by_cases e:i=j
  ·subst e
   rw[show Nat.beq i i=true by simp]
   cases hp:partAt i l with
   |some x=>rw[hp] at h2;cases h2
   |none=>simp
  ·rw[show Nat.beq i j=false by cases hb:Nat.beq i j with | false=>rfl | true=>exact absurd (Nat.eq_of_beq_eq_true hb) e]
   cases hp:partAt i l with
   |some x=>rfl
   |none=>simp[Ne.symm e]
theorem Ykd:∀ (offs:List Nat) (t:Ty) (k i:Nat) {f:Nat→List Value},Ydk k offs t→(∀ j,j<offs.length→f (i+j)=Yy (Y7 t j))→Yab f i t=Yy t:=by
 intro offs
 induction offs with
 |nil=>intro t k i f h hf;cases t<;>first | exact h.elim | rfl
 |cons o os ih=>
  intro t k i f h hf
  cases t with
  |pair a b=>
   obtain⟨rfl,h⟩:=h;simp only[Yab,Yy]
   have h0:=hf 0 (by simp)
   rw[kF] at h0
   rw[h0,ih b _ (i+1) h (fun j hj=>by
    have:=hf (j+1) (by simp;omega)
    rw[show i+1+j=i+(j+1) by omega];exact this)]
   rfl
  |_=>exact h.elim
theorem Yqn:∀ (fs:List Field) (t:Ty),(∀ i f,fs[i]? = some f→∃ j,P.info? f.type=some j∧j.size=(Y7 t i).size)→
  ∃ places,fs.mapM (fun f=>(P.info? f.type).map fun i=>(f.offset,i.size))=some places∧∀ (n:Nat) (f:Field),fs[n]? = some f→places[n]? = some (f.offset,(Y7 t n).size):=by
 intro fs
 have gen:∀ (fs:List Field) (sz:Nat→Nat),(∀ i f,fs[i]? = some f→∃ j,P.info? f.type=some j∧j.size=sz i)→
   ∃ places,fs.mapM (fun f=>(P.info? f.type).map fun i=>(f.offset,i.size))=some places∧∀ (n:Nat) (f:Field),fs[n]? = some f→places[n]? = some (f.offset,sz n):=by
  intro fs
  induction fs with
  |nil=>intro sz _;exact⟨[],rfl,fun n f h=>by simp at h⟩
  |cons f fs ih=>
   intro sz h;obtain⟨j,h1,h2⟩:=h 0 f rfl
   obtain⟨ps,p1,p2⟩:=ih (fun n=>sz (n+1)) (fun i f' hf=>h (i+1) f' (by simpa using hf))
   refine⟨(f.offset,j.size)::ps,by simp[List.mapM_cons,h1,p1],fun n f' hf=>?_⟩
   cases n with
   |zero=>simp at hf;subst hf;simp[h2]
   |succ n=>simp at hf;simpa using p2 n f' hf
 intro t h;exact gen fs (fun n=>(Y7 t n).size) h
theorem Yre (ht:Yaf P tb) (I:Inv Z S C a w) (hg:Yax a g) {np d:Nat} {t:TypeId} {parts:Array (Nat×Operand)} (ho:o.op=.build t parts) (hd:o.dst=some d) (hgd:Yu S (some d)) (hdn:d<Z.nt) {b:Option Bool} {p:Patch}
  (h:(doR tb hn np g o).run S=some (.step b p)):Done P o a w fun u w'=>∃ C',Inv Z (S.ap p) C' (a.put o.dst u) w':=by
 simp only[doR,ho,hd] at h;replace h:=RD.bind_some h;obtain⟨i,h1,h⟩:=h
 split at h
 ·rename_i offs hid
  split at h
  ·rename_i hpo
   replace h:=RD.bind_some h;obtain⟨v,h2,h⟩:=h;cases h;obtain⟨⟨dd,hdd,hdk,hda⟩,⟨it,hit,hits,z,hz,hzc⟩⟩:=ht t i (Yq h1);rw[hid] at hdk;obtain⟨fs,rfl,hagg,hoffs,hfs⟩:=hdk;obtain⟨f1,f2,f3⟩:=Yli I hg parts.toList offs i.ty 0 0 h2
   obtain⟨places,pl1,pl2⟩:=Yqn (P:=P) fs.toList i.ty (fun n f hf=>by
    obtain⟨j,de,q1,_,q3,_⟩:=hfs n f (by simpa using hf);exact⟨j,q1,q3⟩)
   have hplace:∀ n off,offs[n]? = some off→places.toArray[n]? = some (off,(Y7 i.ty n).size):=by
    intro n off hn;rw[←hoffs] at hn;simp only[Array.toList_map,List.getElem?_map,Option.map_eq_some_iff] at hn;obtain⟨f,hf,rfl⟩:=hn
    simpa using pl2 n f hf
   have hz0:Yab (fun n=>Yy (Y7 i.ty n)) 0 i.ty=Yy i.ty:=Ykd offs i.ty 0 0 f1 (fun j _=>by rw[jJ])
   have hfill:=Yhn offs i.ty (places.toArray[·]?) f1 hplace (parts.toList.map fun x=>(x.1,a.eval x.2)) (fun n=>Yy (Y7 i.ty n)) (fun j _=>Yt _) (fun x hx=>by
    obtain⟨y,hy,rfl⟩:=List.mem_map.1 hx;obtain⟨q1,q2⟩:=Yov (i:=y.1) (x:=y.2) hpo hy
    exact⟨q2,f2 y.1 q2 y.2 (by rw[jJ];exact q1)⟩)
   rw[hz0] at hfill
   have hzarr:(Yy i.ty).toArray=z.cells:=by rw[←hzc]
   rw[hzarr] at hfill;generalize hcs:(Yab (Ygw (fun n=>Yy (Y7 i.ty n)) (parts.toList.map fun x=>(x.1,a.eval x.2))) 0 i.ty)=cs at hfill
   have hbuilt:P.built t (parts.map fun x=>(x.1,a.eval x.2)).toList=some cs.toArray:=by
    rw[Array.toList_map];unfold Program.built;simp only[hit,hdd,hz,pl1];exact hfill
   have hrun:=run_build (P:=P) w t (parts.map fun x=>(x.1,a.eval x.2)) cs.toArray hbuilt
   refine .inl ⟨.agg cs.toArray,w,.inl (by simp only[execOp,ho,Sem.run_bind,hrun,Result.andThen_ok];rfl),C,?_⟩
   rw[hd]
   obtain⟨r1,r2,r3⟩:=f3 (Ygw (fun n=>Yy (Y7 i.ty n)) (parts.toList.map fun x=>(x.1,a.eval x.2))) (fun j hj=>by
    unfold Ygw Yk4;rw[jJ,Yk6 a hpo j]
    cases partAt j parts.toList<;>rfl)
   rw[hcs] at r1
   have hlen:cs.length=i.ty.size:=by
    rw[←hcs];refine Yn4 offs i.ty 0 0 f1 (fun j hj=>?_);rw[jJ];unfold Ygw;rw[Yk6 a hpo j]
    cases hp:partAt j parts.toList with
    |none=>exact Yt _
    |some x=>have:=f2 j hj x (by rw[jJ];exact hp);simpa using this
   refine I.slot hgd hdn ?_
   have hval:Yb w (Mt Z C S.root noB) C.L S.root v (.agg cs.toArray):=⟨by simpa [Value.cells] using r1,by simp[Value.cells,hlen,r2],by rw[r3];exact⟨fun _=>⟨_,rfl⟩,fun _=>rfl⟩⟩
   have hpl:v.plain=true:=by
    rcases hval.1.Ypo (fun _ h=>h) with ⟨n,rfl⟩ | h
    ·cases r3
    ·exact h
   exact(hval.v hpl).tm _
  ·cases h
 ·cases h
end
section
variable {a:Act}
variable {o:Oper}
def Yu5 (i:Nat):List (Nat×Operand)→Prop
 |[]=>True
 |(j,_)::ps=>i=j∧Yu5 (i+1) ps
def cellsS (a:Act) (ps:List (Nat×Operand)):List Value:=(ps.map fun x=>(a.eval x.2).cells.toList).flatten
theorem Yit (sz:Nat):∀ (ps:List (Nat×Operand)) (i:Nat) (pre rest:List Value),Yu5 i ps→(∀ x∈ps,(a.eval x.2).cells.size=sz)→pre.length=i*sz→rest.length=ps.length*sz→
  Instr.fill (fun i=>some (i*sz,sz)) (pre++rest).toArray (ps.map fun x=>(x.1,a.eval x.2))=some (pre++cellsS a ps).toArray
 |[],i,pre,rest,ho,hs,hp,hr=>by
  have:rest=[]:=List.length_eq_zero_iff.1 (by simpa using hr)
  subst this;simp[Instr.fill,cellsS]
 |(j,x)::ps,i,pre,rest,ho,hs,hp,hr=>by
  obtain⟨rfl,ho⟩:=ho;have hx:=hs (i,x) jF
  dsimp only at hx
  rw[jH,jY,Nat.one_mul] at hr;simp only[jS,Instr.fill]
  have hcond:(decide ((a.eval x).cells.size≠sz) || decide (i*sz+(a.eval x).cells.size>(pre++rest).toArray.size))=false:=by
   simp only[Bool.or_eq_false_iff,decide_eq_false_iff_not,List.size_toArray,jP]
   exact⟨by simp[hx],by omega⟩
  rw[jM (by rw[hcond];simp)]
  have hrest:rest=rest.take sz++rest.drop sz:=(List.take_append_drop sz rest).symm
  have hfold:(a.eval x).cells.zipIdx.foldl (fun cs (y:Value×Nat)=>cs.setIfInBounds (i*sz+y.2) y.1) (pre++rest).toArray=((pre++(a.eval x).cells.toList)++rest.drop sz).toArray:=by
   rw[←Array.foldl_toList,Array.toList_zipIdx]
   conv=>lhs;rw[hrest,←kO]
   exact Yiz (a.eval x).cells.toList pre (rest.take sz) (rest.drop sz) (i*sz) 0 (by rw[kK,Array.length_toList (xs:=(a.eval x).cells),hx];omega) (by omega)
  refine Eq.trans (congrArg (fun z=>Instr.fill (fun i=>some (i*sz,sz)) z (ps.map fun x=>(x.1,a.eval x.2))) hfold) ?_
  rw[Yit sz ps (i+1) _ _ ho (fun y hy=>hs y (jG _ hy)) (by simp[hp,hx,jY]) (by rw[List.length_drop];omega)]
  simp[cellsS]
theorem Yw.Yv9 (h:Rep w M e oo x (.reg cs 0) F) (hl:cs.length=e.size):Yw w M e oo [x] cs F:=by
 refine⟨by simp[hl],fun v hv=>?_,fun _=>F,fun i hi=>?_,fun i j hij hj=>?_⟩
 ·obtain⟨k,hk,rfl⟩:=List.mem_iff_getElem.1 hv
  obtain⟨v,e1,e2⟩:=h.cells k (by omega)
  simp only[Src.cell,jJ] at e1;rw[kV hk] at e1;cases e1;exact e2
 ·have:i=0:=by simp at hi;exact hi
  subst this
  exact⟨by simpa using h,fun _ h=>h⟩
 ·simp at hj;omega
theorem Ylj (I:Inv Z S C a w) (hg:Yax a g) (np:Nat) (e:Ty):∀ (ps:List (Nat×Operand)) (i:Nat) {K K':Yp} {G:Yd} {C1:Cx} {D:Dd} {l:List e.El} {b:Bool},Y0 Z S C w K G C1 D→Ye (Mt Z C1 (K.roots S) G) (Mt Z C S.root noB)→
  (Yim hn g np e K i ps).run S=some (l,b,K')→
  Yu5 i ps∧(∀ x∈ps,(a.eval x.2).cells.size=e.size)∧l.length=ps.length∧∃ C2 D2 G2 F,Y0 Z S C w K' G2 C2 D2∧Ye G G2∧Ye F G2∧Dis F G∧Ye (Mt Z C2 (K'.roots S) G2) (Mt Z C1 (K.roots S) G)∧
   (b=true→Yw w (Mt Z C2 (K'.roots S) G2) e .deep l (cellsS a ps) F)∧∀ M',Ye M' (Mt Z C2 (K'.roots S) G2)→(∀ x,F x→¬ M' x)→Yw w M' e .sh l (cellsS a ps) noB:=by
 intro ps
 induction ps with
 |nil=>
  intro i K K' G C1 D l b T hm h;simp only[Yim,RD.run] at h;cases h
  exact⟨trivial,fun x hx=>(by cases hx),rfl,C1,D,G,noB,T,fun _ h=>h,fun _ h=>h.elim,fun _ h=>h.elim,fun _ h=>h,fun _=>Yw.nil,fun _ _ _=>Yw.nil⟩
 |cons q ps ih=>
  obtain⟨j,x⟩:=q;intro i K K' G C1 D l b T hm h;simp only[Yim] at h
  split at h
  ·rename_i hij
   have hij:i=j:=by simpa using hij
   replace h:=RD.bind_some h;obtain⟨v,h1,h⟩:=h;replace h:=RD.bind_some h;obtain⟨⟨c,K1⟩,h2,h⟩:=h;simp only at h
   split at h
   ·rename_i oo t y
    split at h
    ·rename_i hte _;subst hte
     replace h:=RD.bind_some h;obtain⟨⟨l',b',K2⟩,h3,h⟩:=h;cases h
     obtain⟨hr,hsz⟩:=(Yg I hg h1).rep (fun l e=>by subst e;exact Ydu _ _ _ _ _ h2)
     obtain⟨C2,D2,F,G',t1,t2,t3,t4,t5,rc,m,sc⟩:=Yb9 _ np v _ T hm hr h2
     have hcl:(a.eval x).cells.toList.length=t.size:=by rw[Array.length_toList,hsz,←sc];rfl
     obtain⟨f1,f2,f3,C3,D3,G3,F3,u1,u2,u3,u4,u5,u6,u7⟩:=ih (i+1) t1 (fun b hb=>hm b (m b hb)) h3
     refine⟨⟨hij,f1⟩,fun z hz=>(List.mem_cons.1 hz).elim (fun e=>by subst e;simpa using hcl) (f2 z),by simp[f3],C3,D3,G3,fun b=>F b∨F3 b,u1,fun b hb=>u2 b (t2 b hb),
      fun b hb=>hb.elim (fun h=>u2 b (t3 b h)) (u3 b),fun b hb hg=>hb.elim (fun h=>t4 b h hg) (fun h=>u4 b h (t2 b hg)),fun b hb=>m b (u5 b hb),?_,?_⟩
     ·intro hb
      simp only[jC] at hb;have hrep:Rep w (Mt Z C3 (K2.roots S) G3) t oo y (.reg (a.eval x).cells.toList 0) F:=Ya.mono (tv:=.cl oo t y) rc u5
      have hdeep:Rep w (Mt Z C3 (K2.roots S) G3) t .deep y (.reg (a.eval x).cells.toList 0) F:=by
       have h1:=hb.1;unfold Yj8 at h1
       cases hp:t.pure with
       |true=>exact(Rep.pure hp hrep (fun _ _=>rfl)).sub (fun _ x=>x.elim)
       |false=>rw[hp] at h1;cases oo<;>first | exact hrep | cases h1
      exact(Yw.Yv9 hdeep hcl).append (u6 hb.2) (fun b h1 h2=>u4 b h2 (t3 b h1)) (fun _ h=>.inl h) (fun _ h=>.inr h)
     ·intro M' hM' hF
      have hrep:Rep w (Mt Z C3 (K2.roots S) G3) t oo y (.reg (a.eval x).cells.toList 0) F:=Ya.mono (tv:=.cl oo t y) rc u5;have hlt:∀ b,F b→b<w.heap.size:=fun b hb=>(u1.str.gbnd b (u2 b (t3 b hb))).1;exact(Yw.Yv9 (hrep.share hM' (fun b hb=>⟨hF b (.inl hb),hlt b hb⟩)) hcl).append (u7 M' hM' (fun b hb=>hF b (.inr hb))) (fun _ h=>h.elim) (fun _ h=>h.elim) (fun _ h=>h.elim)
    ·cases h
   ·cases h
  ·cases h
theorem Yj5 (ht:Yaf P tb) (I:Inv Z S C a w) (hg:Yax a g) {np d n:Nat} {t:TypeId} {parts:Array (Nat×Operand)} (ho:o.op=.buildSlice t n parts) (hd:o.dst=some d) (hnp:∀ i,np≤i→Z.P i=none) (hgd:Yu S (some d)) (hdn:d<Z.nt) {b:Option Bool} {p:Patch}
  (h:(doR tb hn np g o).run S=some (.step b p)):Done P o a w fun u w'=>∃ C',Inv Z (S.ap p) C' (a.put o.dst u) w':=by
 simp only[doR,ho,hd] at h;replace h:=RD.bind_some h;obtain⟨i,h1,h⟩:=h
 split at h
 ·rename_i e hie
  split at h
  ·rename_i hn hsz24
   have hn:n=parts.toList.length:=by simpa using hn
   have hsz24:n*e.size≤16777216:=by simpa using hsz24
   replace h:=RD.bind_some h;obtain⟨⟨l,bd,k⟩,h2,h⟩:=h;replace h:=RD.bind_some h;obtain⟨p',h3,h⟩:=h;cases h;obtain⟨⟨dd,hdd,hdk,hda⟩,_⟩:=ht t i (Yq h1);obtain⟨ee,rfl,te,j,q1,q2,q3,q4,⟨z,hz,hzc⟩,hby⟩:=Ynm hdk hie;rw[hie] at q1;cases q1;obtain⟨f1,f2,f3,C2,D2,G2,F,u1,u2,u3,u4,u5,u6,u7⟩:=Ylj I hg np _ parts.toList 0 (Y0.start I) (fun _ h=>h) h2
   have hlen:l.length=n:=by rw[f3,hn]
   have hcl:(cellsS a parts.toList).length=n*e.size:=by
    cases hbd:bd with
    |true=>have:=(u6 hbd).len;rw[hlen] at this;exact this
    |false=>have:=(u7 noB (fun _ h=>h.elim) (fun _ _ h=>h)).len;rw[hlen] at this;exact this
   have hrun:(Instr.buildSlice t n (parts.map fun x=>(x.1,a.eval x.2))).run P w=.ok (.slice (some ⟨w.heap.size,0,none⟩) n n) (Yad w (cellsS a parts.toList).toArray ee):=by
    have hfill:∀ zr:Array Value,zr.size=n*e.size→Instr.fill (fun i=>some (i*e.size,e.size)) zr (parts.toList.map fun x=>(x.1,a.eval x.2))=some (cellsS a parts.toList).toArray:=by
     intro zr hzr
     have:=Yit (a:=a) e.size parts.toList 0 [] zr.toList f1 f2 (by simp) (by rw[Array.length_toList,hzr,hn])
     simpa using this
    have hb24:¬ (16777216<n*e.size):=by omega
    simp only[Instr.buildSlice,Sem.run_bind,run_underlying hdd,Result.andThen_ok,Y3 q2,q3]
    by_cases h0:n*e.size=0
    ·have hf:=hfill ((Array.range (n*e.size)).map (#[][· % (#[]:Array Value).size]!)) (by simp)
     simp[hb24,h0,newRow,Yad] at hf ⊢;rw[hf];simp
    ·have hf:=hfill ((Array.range (n*e.size)).map (z.cells[· % z.cells.size]!)) (by simp)
     simp[hb24,h0,newRow,Yad,zeroValue,typeInfo,q2,hz] at hf ⊢;rw[hf];simp
   refine .inl ⟨_,_,.inl (by simp only[execOp,ho,Sem.run_bind];rw[show(parts.map fun x=>match x with | (i,x)=>(i,a.eval x))=parts.map fun x=>(x.1,a.eval x.2) from rfl,hrun];rfl),?_⟩
   rw[hd];generalize hcs:(cellsS a parts.toList)=cs at *;have hlt:∀ b,F b→b<w.heap.size:=fun b hb=>(u1.str.gbnd b (u3 b hb)).1
   have hpush:Ya3 w (Yad w cs.toArray ee) cs.toArray:=⟨⟨ee,(0,0),rfl,fun i hi=>by simp⟩,rfl,rfl,rfl⟩
   generalize Yad w cs.toArray ee=w1 at hpush;have hG1:∀ b,(b=w.heap.size∨(bd=true∧F b))→G2 b∨b=w.heap.size:=fun b h=>h.elim .inr (fun h=>.inl (u3 b h.2))
   refine Yjo I u1 (Fn:=fun b=>b=w.heap.size∨(bd=true∧F b)) (G1:=fun b=>b=w.heap.size∨(bd=true∧F b)) h3 hnp hgd hdn
    ⟨(hpush.hand G2).sz,(hpush.hand G2).same,fun b hb=>(hpush.hand G2).g b (hG1 b hb),hpush.os,hpush.tape,hpush.output⟩ rfl (fun M hM hex hin'=>?_) (fun _ h=>h)
   have hm:Ye (fun b=>M b∧b<w.heap.size) (Mt Z C2 (k.roots S) G2):=fun b ⟨h,hl⟩=>(hM b h).elim id (fun h=>by omega)
   have go:∀ F':Yd,(∀ b,F' b→b<w.heap.size)→Goes w w1 (fun b=>M b∧b<w.heap.size) M F':=fun F' hF'=>
    ⟨by rw[hpush.size];omega,fun b hb=>hpush.same (hF' b hb),fun b h1 h2=>⟨hpush.same h2,fun h=>h1 ⟨h,h2⟩⟩⟩
   have hcellw:∀ k,k<cs.length→w1.cell? ⟨w.heap.size,0+k,none⟩=cs[k]?:=by
    intro k hk;rw[jJ,hpush.cell];simp
   cases hbd:bd with
   |true=>
    subst hbd
    exact Yw.row (oo:=.deep) (((u6 rfl).mono hm).go (go F hlt)) (by simp) hlen (jB _) (hpush.room (by simp[hcl])) hcellw (.inl rfl) (fun b h=>.inr ⟨rfl,h⟩) (fun h=>Nat.lt_irrefl _ (hlt _ h))
   |false=>
    subst hbd
    have hr:=(u7 _ hm (fun b hb hmb=>hex b (u3 b hb) (fun h=>h.elim (fun e=>by have:=hlt b hb;omega) (fun h=>by cases h.1)) hmb.1)).go (go noB (fun b h=>h.elim))
    exact Yw.row (oo:=.top) hr (by simp) hlen (jB _) (hpush.room (by simp[hcl])) hcellw (.inl rfl) (fun b h=>h.elim) (fun h=>h)
  ·cases h
 ·cases h
end
section
variable {a:Act}
variable {o:Oper}
theorem Str.inside {Lf:TV→Value→Prop} {ρ:Yc} (I:Str Z Lf C noB ρ w) {r b0:Nat} {R R':Root} (hR:ρ r=some R) (hk:R.k=.reg) (hk':R'.k=.reg) (hb0:C.F r b0) (hsz:w'.heap.size=w.heap.size) (hs:∀ b,b≠b0→Same w w' b)
  (hrep:Ya w' (Mt Z C ρ noB) Lf R'.tv (C.L r) (C.F r)) (hos:w'.os=w.os) (htape:w'.tape=w.tape) (hout:w'.output=w.output)
  (hl:∀ q b off,nav w R.tv (C.L r) q=some (.mem b off)→nav w' R'.tv (C.L r) q=some (.mem b off))
  (hq:∀ q s,nav w R.tv (C.L r) q=some s→∀ o e,∀ xs:List e.El,R.tv.gr q=some (.cl o (.sl e) xs)→
   nav w' R'.tv (C.L r) q=some s∧s.cell w' 0=s.cell w 0∧∃ o',∃ xs':List e.El,R'.tv.gr q=some (.cl o' (.sl e) xs')∧xs'.length=xs.length) :
  Str Z Lf C noB (ρ.set r (some R')) w'∧Gs w w' (Mt Z C ρ noB) (Mt Z C (ρ.set r (some R')) noB) ρ (ρ.set r (some R')) C.L C.L Dd.none:=by
 have hto:Tot C r R'=Tot C r R:=by unfold Tot;rw[hk,hk']
 have hM:Mt Z C (ρ.set r (some R')) noB=Mt Z C ρ noB:=by
  funext b;unfold Mt;congr 1;apply propext;constructor
  ·rintro⟨i,Q,h1,h2⟩
   by_cases e:i=r
   ·subst e;rw[Yc.Yo] at h1;cases h1;exact⟨i,R,hR,hto▸h2⟩
   ·rw[Yc.Yn _ _ e] at h1;exact⟨i,Q,h1,h2⟩
  ·rintro⟨i,Q,h1,h2⟩
   by_cases e:i=r
   ·subst e;rw[hR] at h1;cases h1;exact⟨i,R',Yc.Yo _ _ _,hto.symm▸h2⟩
   ·exact⟨i,Q,by rw[Yc.Yn _ _ e];exact h1,h2⟩
 have hm0:Mt Z C ρ noB b0:=.inl ⟨r,R,hR,.inl hb0⟩;have hst:∀ b,¬ Mt Z C ρ noB b→b<w.heap.size→Same w w' b∧¬ Mt Z C ρ noB b:=fun b h _=>⟨hs b (fun e=>h (e▸hm0)),h⟩
 have hoth:∀ i Q,i≠r→ρ i=some Q→∀ b,Tot C i Q b→Same w w' b:=fun i Q hne h b hb=>hs b (fun e=>by subst e;exact I.dis i r Q R hne h hR b hb (.inl hb0))
 have hcell:∀ i Q,i≠r→ρ i=some Q→∀ k,(C.L i).cell w' k=(C.L i).cell w k:=by
  intro i Q hne h k
  cases hkk:Q.k with
  |reg=>obtain⟨cs,e⟩:=I.reg i Q h hkk;rw[e];rfl
  |mem=>
   obtain⟨b,off,e,_⟩:=I.mem i Q h hkk;rw[e];exact Same.cell (hoth i Q hne h b (.inr ⟨hkk,off,e⟩)) _
 have hgo:∀ i Q,i≠r→ρ i=some Q→Goes w w' (Mt Z C ρ noB) (Mt Z C ρ noB) (C.F i):=fun i Q hne h=>⟨by rw[hsz];exact jB _,fun b hb=>hoth i Q hne h b (.inl hb),hst⟩
 obtain⟨_,_,hb3,hb4⟩:=I.bnd r R b0 hR hb0;have hK0:∀ i,¬ Z.K b0 i:=(I.bnd r R b0 hR hb0).2.1
 refine⟨⟨?_,?_,?_,?_,fun _ h=>h.elim,?_,fun _ _ _ _ _ h=>h,?_,by rw[hsz];exact I.sz,?_,?_,?_,I.xb,I.kb,by rw[hos,I.os],by rw[htape,I.tape],by rw[hout,I.output]⟩,⟨by rw[hsz];exact jB _,?_,?_,?_⟩⟩
 ·intro i Q h
  rw[hM]
  by_cases e:i=r
  ·subst e;rw[Yc.Yo] at h;cases h;exact hrep
  ·rw[Yc.Yn _ _ e] at h;exact(I.rep i Q h).go (hgo i Q e h) (fun k _=>hcell i Q e h k) (fun _ _ x=>x)
 ·intro i Q h hkk
  by_cases e:i=r
  ·subst e;exact I.reg i R hR hk
  ·rw[Yc.Yn _ _ e] at h;exact I.reg i Q h hkk
 ·intro i Q h hkk
  by_cases e:i=r
  ·subst e;rw[Yc.Yo] at h;cases h;rw[hk'] at hkk;cases hkk
  ·rw[Yc.Yn _ _ e] at h
   obtain⟨b,off,e1,e2,e3,e4,e5⟩:=I.mem i Q h hkk;have hb:=hoth i Q e h b (.inr ⟨hkk,off,e1⟩)
   exact⟨b,off,e1,e2,by rw[hsz];exact e3,fun k hk=>by rw[hb.cell,hb.frozen];exact e4 k hk,e5⟩
 ·intro i Q b h hb
  by_cases e:i=r
  ·subst e;rw[hsz];exact I.bnd i R b hR hb
  ·rw[Yc.Yn _ _ e] at h;rw[hsz];exact I.bnd i Q b h hb
 ·intro i j Q1 Q2 hne h1 h2
  by_cases e:i=r
  ·subst e;rw[Yc.Yo] at h1;cases h1;rw[Yc.Yn _ _ (Ne.symm hne)] at h2;rw[hto];exact I.dis i j R Q2 hne hR h2
  ·rw[Yc.Yn _ _ e] at h1
   by_cases e':j=r
   ·subst e';rw[Yc.Yo] at h2;cases h2;rw[hto];exact I.dis i j Q1 R hne h1 hR
   ·rw[Yc.Yn _ _ e'] at h2;exact I.dis i j Q1 Q2 hne h1 h2
 ·intro i Q h
  by_cases e:i=r
  ·subst e;rw[Yc.Yo] at h;cases h;have:=I.plc i R hR;rw[hk] at this;exact⟨this.1,fun e=>by rw[hk'] at e;cases e⟩
  ·rw[Yc.Yn _ _ e] at h;exact I.plc i Q h
 ·intro b hb hm
  refine(I.old b hb hm).trans (hs b (fun e=>?_))
  subst e;rcases hb4 with h | h
  ·exact hm h
  ·omega
 ·intro b i hkk
  rw[←I.kp b i hkk]
  exact Same.cell (hs b (fun e=>by subst e;exact hK0 i hkk)) _
 ·intro b i j hkk
  rw[←I.kf b i j hkk]
  exact Same.frozen (hs b (fun e=>by subst e;exact hK0 i hkk)) _
 ·intro b h1 h2;rw[hM];exact hst b h1 h2
 ·intro i q Q b off _ h1 h2
  by_cases e:i=r
  ·subst e;rw[hR] at h1;cases h1;exact⟨R',Yc.Yo _ _ _,hl q b off h2⟩
  ·exact⟨Q,by rw[Yc.Yn _ _ e];exact h1,(Ybk q (I.rep i Q h1) (hgo i Q e h1) (fun k _=>hcell i Q e h1 k) h2).1⟩
 ·intro i q Q s _ h1 h2 o e xs h3
  by_cases e':i=r
  ·subst e';rw[hR] at h1;cases h1
   obtain⟨n1,n2,o',xs',n3,n4⟩:=hq q s h2 o e xs h3;exact⟨R',Yc.Yo _ _ _,n1,n2,o',xs',n3,n4⟩
  ·obtain⟨n1,n2⟩:=Ybk q (I.rep i Q h1) (hgo i Q e' h1) (fun k _=>hcell i Q e' h1 k) h2
   exact⟨Q,by rw[Yc.Yn _ _ e'];exact h1,n1,n2 o e xs h3,o,xs,h3,rfl⟩
end
section
variable {a:Act}
variable {o:Oper}
theorem Yjv (xs:List α) (lo:Nat) (ys:List α) (h:lo+ys.length≤xs.length):(splice xs lo ys).length=xs.length:=by
 unfold splice;simp;omega
theorem Yqt (xs:List α) (lo:Nat) (ys:List α) (h:lo+ys.length≤xs.length) (i:Nat) (hi:i<(splice xs lo ys).length) :
  (∃ hj:i-lo<ys.length,lo≤i∧(splice xs lo ys)[i]'hi=ys[i-lo]'hj)∨((i<lo∨lo+ys.length≤i)∧∃ hx:i<xs.length,(splice xs lo ys)[i]'hi=xs[i]'hx):=by
 have hl:=Yjv xs lo ys h
 have hi':i<xs.length:=by omega
 unfold splice at hi ⊢
 by_cases h1:i<lo
 ·right;refine⟨.inl h1,hi',?_⟩
  rw[kW (by simp;omega),kW (by simp;omega)];simp
 ·by_cases h2:i<lo+ys.length
  ·left;refine⟨by omega,by omega,?_⟩
   rw[kW (by simp;omega),kX (by simp;omega)]
   congr 1;simp;omega
  ·right;refine⟨.inr (by omega),hi',?_⟩
   rw[kX (by simp;omega)]
   simp;congr 1;omega
def Yj1 (w:World) (A:Option Addr) (cs:List Value):World:=match A with | some ad=>w.setCells ad.block ad.off cs | none=>w
theorem setCells_nil (w:World) (b off:Nat):w.setCells b off []=w:=rfl
theorem Yst (w:World) (A:Option Addr):Yj1 w A []=w:=by cases A<;>rfl
theorem Ync (I:Inv Z S C a w) (hv:VOk w (Mt Z C S.root noB) C.L S.root vs u)
  (h:(over o.dst v vs f).run S=some (.step b p)) (hgd:Yu S o.dst) (hd:∀ d,o.dst=some d→d<Z.nt) :
  b=none∧∃ e n ys A c,f e n=some ys∧e.pure=true∧u=.slice A n c∧(n≠0→∃ bb off,A=some ⟨bb,off,none⟩∧Room w bb off (n*e.size))∧
   ∀ (cs:List Value) (x:Value),Yw w noB e .sh ys cs noB→ys.length≤n→(∀ (w':World) M L ρ,VOk w' M L ρ v x)→∃ C',Inv Z (S.ap p) C' (a.put o.dst x) (Yj1 w A cs):=by
 have key:∀ (r lo n:Nat) (R:Root) (ow:Ow) (e:Ty) (xs ys:List e.El) (A A':Option Addr) (c c':Nat),S.root r=some R→R=⟨.reg,.cl ow (.sl e) xs⟩→ow≠.sh→e.pure=true→f e n=some ys→
   (C.L r).cell w 0=some (.slice A xs.length c)→u=.slice A' n c'→lo+n≤xs.length→(n≠0→A'=A.map (fun ad=>ad.add (lo*e.size)))→b=none→
   p=⟨match o.dst with | some d=>[(d,v)] | none=>[],[(r,some ⟨.reg,.cl ow (.sl e) (splice xs lo ys)⟩)],[]⟩→
   b=none∧∃ e n ys A c,f e n=some ys∧e.pure=true∧u=.slice A n c∧(n≠0→∃ bb off,A=some ⟨bb,off,none⟩∧Room w bb off (n*e.size))∧
   ∀ (cs:List Value) (x:Value),Yw w noB e .sh ys cs noB→ys.length≤n→(∀ (w':World) M L ρ,VOk w' M L ρ v x)→∃ C',Inv Z (S.ap p) C' (a.put o.dst x) (Yj1 w A cs):=by
  intro r lo n R ow e xs ys A A' c c' hR hRR how hpure hf hcell hu hle hA hb hp;subst hRR;have hrep:Rep w (Mt Z C S.root noB) (.sl e) ow xs (C.L r) (C.F r):=I.str.rep r _ hR;obtain⟨A0,c0,q1,q2,q3⟩:=id hrep;rw[hcell] at q1;cases q1
  have q3':c≠0→∃ b off,∃ Fs:Nat→Yd,A=some ⟨b,off,none⟩∧C.F r b∧Room w b off (c*e.size)∧
    (∀ i (h:i<xs.length),Rep w (Mt Z C S.root noB) e ow.elem (xs[i]'h) (.mem b (off+i*e.size)) (Fs i)):=by
   intro hc
   cases ow with
   |sh=>exact absurd rfl how
   |top=>obtain⟨b,off,Fs,r1,r2,r3,r4,_⟩:=q3 hc;exact⟨b,off,Fs,r1,r2,r3,fun i hi=>(r4 i hi).1⟩
   |deep=>obtain⟨b,off,Fs,r1,r2,r3,r4,_⟩:=q3 hc;exact⟨b,off,Fs,r1,r2,r3,fun i hi=>(r4 i hi).1⟩
  have hroots:p.roots S=Yc.set S.root r (some ⟨.reg,.cl ow (.sl e) (splice xs lo ys)⟩):=by
   subst hp;funext i;unfold Patch.roots Yc.set
   by_cases h:i=r
   ·subst h;rw[Yl,jL rfl]
   ·rw[Yv h,jM h];rfl
  have hks:p.ks=[]:=by rw[hp]
  have hptm:p.tm=match o.dst with | some d=>[(d,v)] | none=>[]:=by rw[hp]
  refine⟨hb,e,n,ys,A',c',hf,hpure,hu,fun hn=>?_,fun cs x hrow hyn hvx=>?_⟩
  ·obtain⟨bb,off,Fs,r1,r2,r3,r4⟩:=q3' (by omega)
   refine⟨bb,off+lo*e.size,by rw[hA hn,r1];simp[Addr.add_mid],fun i hi=>?_⟩
   have h1:(lo+n)*e.size≤c*e.size:=jR _ (by omega)
   rw[jY] at h1
   have:=r3 (lo*e.size+i) (by omega)
   rwa [←kH] at this
  ·
   have fin:∀ (w':World),Str Z (Yi w (Mt Z C S.root noB) C.L S.root) C noB (p.roots S) w'→Gs w w' (Mt Z C S.root noB) (Mt Z C (p.roots S) noB) S.root (p.roots S) C.L C.L Dd.none→∃ C',Inv Z (S.ap p) C' (a.put o.dst x) w':=by
    intro w' J Gw;refine⟨C,Inv.ap (Q:=fun _ _=>False) I (J.lf (fun _ _ h=>.inl h)) Gw (fun _ _ h=>h.elim) (fun _ _ _ _ h=>h.elim) (fun _ _ _ _ h=>h.elim) hgd ?_ ?_⟩
    ·intro d e';refine⟨hd d e',v,?_⟩;rw[hptm,e'];exact Yl _ _ _
    ·intro i v' hl
     rw[hptm] at hl
     cases hdst:o.dst with
     |none=>rw[hdst] at hl;cases hl
     |some d=>
      rw[hdst] at hl
      by_cases e':i=d
      ·subst e';rw[Yl] at hl;cases hl;exact⟨rfl,(hvx _ _ _ _).tm _⟩
      ·rw[Yv e'] at hl;cases hl
   rcases kN ys.length with h0 | h0
   ·have hy0:ys=[]:=List.length_eq_zero_iff.1 h0
    subst hy0
    have hcs:cs=[]:=List.length_eq_zero_iff.1 (by have:=hrow.len;simpa using this)
    subst hcs
    have hsp:splice xs lo ([]:List e.El)=xs:=by simp[splice]
    have hsame:p.roots S=S.root:=by
     rw[hroots,hsp];funext i;unfold Yc.set
     by_cases h:i=r
     ·subst h;rw[jL rfl,hR]
     ·rw[jM h]
    rw[Yst]
    exact fin w (by rw[hsame];exact I.str) (by rw[hsame];exact Gs.refl _ _ _ _)
   ·obtain⟨bb,off,Fs,r1,r2,r3,r4⟩:=q3' (by omega)
    have hA':A'=some ⟨bb,off+lo*e.size,none⟩:=by rw[hA (by omega),r1];simp[Addr.add_mid]
    have hcl:=hrow.len
    have hmul:(lo+ys.length)*e.size≤c*e.size:=jR _ (by omega)
    rw[jY] at hmul
    have hrm:∀ k,k<cs.length→(w.cell? ⟨bb,off+lo*e.size+k,none⟩).isSome=true∧w.frozen? ⟨bb,off+lo*e.size+k,none⟩=false:=fun k hk=>by
     have:=r3 (lo*e.size+k) (by omega);rwa [←kH] at this
    have hwr:Yj1 w A' cs=w.setCells bb (off+lo*e.size) cs:=by rw[hA'];rfl
    rw[hwr];generalize hw':w.setCells bb (off+lo*e.size) cs=w'
    have hsame:∀ b,b≠bb→Same w w' b:=fun b hb=>by rw[←hw'];exact Y9 bb hb _ _ w
    have hsize:w'.heap.size=w.heap.size:=by rw[←hw'];exact setCells_size _ _ _ _
    have hspl:=Yjv xs lo ys (by omega)
    have cin:∀ k,k<cs.length→w'.cell? ⟨bb,off+lo*e.size+k,none⟩=cs[k]?:=fun k hk=>by
     rw[←hw',World.cell?_setCells_in bb cs _ w (fun j hj=>(hrm j hj).1) k hk,kV hk]
    have cout:∀ k,(k<lo*e.size∨lo*e.size+cs.length≤k)→w'.cell? ⟨bb,off+k,none⟩=w.cell? ⟨bb,off+k,none⟩:=fun k hk=>by
     rw[←hw',World.cell?_setCells_out bb _ _ _ _ (fun _ _=>by show off+k<_∨_≤off+k;omega)]
    have hroomw:Room w' bb off (c*e.size):=by
     intro k hk;have:=r3 k hk
     refine⟨?_,by rw[←hw',World.frozen?_setCells];exact this.2⟩
     by_cases hin:lo*e.size≤k∧k<lo*e.size+cs.length
     ·have:=cin (k-lo*e.size) (by omega)
      rw[show off+lo*e.size+(k-lo*e.size)=off+k by omega] at this
      rw[this,kV (by omega)];rfl
     ·rw[cout k (by omega)];exact this.1
    obtain⟨_,_,Fs2,hr2,_⟩:=hrow
    have helt:∀ i (hi:i<(splice xs lo ys).length),Rep w' (Mt Z C S.root noB) e ow.elem ((splice xs lo ys)[i]'hi) (.mem bb (off+i*e.size)) noB:=by
     intro i hi
     rcases Yqt xs lo ys (by omega) i hi with ⟨hj,hlo,e1⟩ | ⟨hout,hx,e1⟩
     ·rw[e1]
      refine Rep.pure hpure (hr2 _ hj).1 (fun k hk=>?_);have h1:=Yaw (sz:=e.size) hj
      have h2:lo*e.size+(i-lo)*e.size=i*e.size:=by rw[←jY];congr 1;omega
      simp only[Src.cell]
      have:=cin ((i-lo)*e.size+k) (by omega)
      rw[show off+lo*e.size+((i-lo)*e.size+k)=off+i*e.size+k by omega] at this
      exact this
     ·rw[e1]
      refine Rep.pure hpure (r4 i hx) (fun k hk=>?_);simp only[Src.cell]
      have:=cout (i*e.size+k) (by
       rcases hout with h | h
       ·left
        have:(i+1)*e.size≤lo*e.size:=jR _ (by omega)
        rw[jY] at this;omega
       ·right
        have:(lo+ys.length)*e.size≤i*e.size:=jR _ h
        rw[jY] at this;omega)
      rwa [←kH] at this
    obtain⟨csr,hreg⟩:=I.str.reg r _ hR rfl
    have hhead:(C.L r).cell w' 0=(C.L r).cell w 0:=by rw[hreg];rfl
    have hnav:∀ q s1,nav w (.cl ow (.sl e) xs) (C.L r) q=some s1→nav w' (.cl ow (.sl e) (splice xs lo ys)) (C.L r) q=some s1:=by
     intro q s1 hn
     cases q with
     |nil=>rw[Yf] at hn ⊢;exact hn
     |cons t q=>
      cases t with
      |el i=>
       simp only[nav] at hn ⊢;rw[hspl,hhead]
       split at hn
       ·rename_i hi
        rw[jL hi];rw[hcell] at hn ⊢;subst r1
        exact Ygb q hpure (by rfl) hn
       ·cases hn
      |f1=>simp[nav] at hn
      |f2=>simp[nav] at hn
    have hrow':Rep w' (Mt Z C S.root noB) (.sl e) ow (splice xs lo ys) (C.L r) (C.F r):=by
     refine⟨A,c,by rw[hhead,hcell,hspl],by rw[hspl];exact q2,?_⟩
     have own:c≠0→∃ b off,∃ Fs:Nat→Yd,A=some ⟨b,off,none⟩∧C.F r b∧Room w' b off (c*e.size)∧
       (∀ i (h:i<(splice xs lo ys).length),Rep w' (Mt Z C S.root noB) e ow.elem ((splice xs lo ys)[i]'h) (.mem b (off+i*e.size)) (Fs i)∧Ye (Fs i) (C.F r)∧¬ Fs i b)∧(∀ i j,i<j→j<(splice xs lo ys).length→Dis (Fs i) (Fs j)):=
      fun _=>⟨bb,off,fun _=>noB,r1,r2,hroomw,fun i hi=>⟨helt i hi,fun _ h=>h.elim,fun h=>h⟩,fun _ _ _ _ _ h=>h.elim⟩
     cases ow with
     |sh=>exact absurd rfl how
     |top=>exact own
     |deep=>exact own
    obtain⟨J,Gw⟩:=I.str.inside (w':=w') (R':=⟨.reg,.cl ow (.sl e) (splice xs lo ys)⟩) hR rfl rfl r2 hsize hsame hrow' (by rw[←hw'];exact World.os_setCells _ _ _ _) (by rw[←hw'];exact Yaa _ _ _ _) (by rw[←hw'];exact World.output_setCells _ _ _ _)
     (fun q b off' hn=>hnav q _ hn) (fun q s1 hn o' e' xs' hg=>by
      rw[Yhq] at hg
      cases q with
      |nil=>
       rw[TV.get_nil] at hg;cases hg;rw[Yf] at hn;cases hn
       exact⟨Yf _ _ _,hhead,ow,_,Yee (TV.get_nil _),hspl⟩
      |cons t q=>
       cases t with
       |el i=>exact(Ymz q hpure hg).elim
       |f1=>cases hg
       |f2=>cases hg)
    exact fin w' (by rw[hroots];exact J) (by rw[hroots];exact Gw)
 have viaR:∀ (r lo n:Nat) (n? : Option Nat) (R:Root),S.root r=some R→(∀ ow e,∀ xs:List e.El,R=⟨.reg,.cl ow (.sl e) xs⟩→n?.getD xs.length=n∧∃ A A' c c',(C.L r).cell w 0=some (.slice A xs.length c)∧u=.slice A' n c'∧lo+n≤xs.length∧(n≠0→A'=A.map (fun ad=>ad.add (lo*e.size))))→
   (ovR o.dst v r lo n? R f).run S=some (.step b p)→b=none∧∃ e n ys A c,f e n=some ys∧e.pure=true∧u=.slice A n c∧(n≠0→∃ bb off,A=some ⟨bb,off,none⟩∧Room w bb off (n*e.size))∧
   ∀ (cs:List Value) (x:Value),Yw w noB e .sh ys cs noB→ys.length≤n→(∀ (w':World) M L ρ,VOk w' M L ρ v x)→∃ C',Inv Z (S.ap p) C' (a.put o.dst x) (Yj1 w A cs):=by
  intro r lo n n? R hR hfacts h;unfold ovR at h
  split at h
  ·rename_i ow e xs hk htv
   have hRR:R=⟨.reg,.cl ow (.sl e) xs⟩:=by cases R;simp only at hk htv;rw[hk,htv]
   obtain⟨hn,A,A',c,c',f1,f2,f3,f4⟩:=hfacts ow e xs hRR;rw[hn] at h
   split at h
   ·cases h
   ·rename_i ys hns hpure hf
    cases h;exact key r lo n R _ _ _ _ _ _ _ _ hR hRR (fun h=>hns h) hpure hf f1 f2 f3 f4 rfl rfl
   ·cases h
  ·cases h
 unfold over at h
 split at h
 ·rename_i r
  simp only[RD.run] at h
  split at h
  ·rename_i R hR
   obtain⟨R',s,o1,e1,xs1,k1,k2,k3,k4,_⟩:=(hv:Yb _ _ _ _ _ _).leaf rfl;rw[hR] at k1;cases k1;rw[Yf] at k2;cases k2;refine viaR r 0 xs1.length none R hR (fun ow e xs hRR=>?_) h;subst hRR;rw[Yhq,TV.get_nil] at k3;cases k3;have hrep:Rep w (Mt Z C S.root noB) (.sl e1) o1 xs1 (C.L r) (C.F r):=I.str.rep r _ hR;obtain⟨A0,c0,q1,q2,q3⟩:=hrep
   refine⟨rfl,A0,A0,c0,c0,q1,?_,by omega,fun _=>by cases A0<;>simp[Addr.add]⟩
   rw[q1] at k4;exact(jN k4).symm
  ·cases h
 ·rename_i r lo n
  simp only[RD.run] at h
  split at h
  ·rename_i R hR
   obtain⟨R',s,o1,e1,xs1,A,len,c,A',c',k1,k2,k3,k4,k5,k6,k7,k8,k9⟩:=(hv:Yb _ _ _ _ _ _).leaf rfl;rw[hR] at k1;cases k1;rw[Yf] at k2;cases k2;refine viaR r lo n (some n) R hR (fun ow e xs hRR=>?_) h;subst hRR;rw[Yhq,TV.get_nil] at k3;cases k3;have hrep:Rep w (Mt Z C S.root noB) (.sl e1) o1 xs1 (C.L r) (C.F r):=I.str.rep r _ hR;obtain⟨A0,c0,q1,q2,q3⟩:=hrep;rw[k4] at q1;cases q1
   exact⟨rfl,A,A',c,c',k4,k5,k6,fun hn=>k9 (by omega)⟩
  ·cases h
 ·cases h
end
section
variable {a:Act}
variable {o:Oper}
theorem Yw.take (h:Yw w M e oo xs cs F) (n:Nat):Yw w M e oo (xs.take n) (cs.take (n*e.size)) F:=by
 obtain⟨h1,h2,Fs,h3,h4⟩:=h
 refine⟨?_,fun v hv=>h2 v (List.mem_of_mem_take hv),Fs,fun i hi=>?_,fun i j hij hj=>h4 i j hij (by simp at hj;omega)⟩
 ·rw[kK,kK,h1]
  rcases Nat.le_total n xs.length with hle | hle
  ·rw[Nat.min_eq_left hle,Nat.min_eq_left (jR _ hle)]
  ·rw[Nat.min_eq_right hle,Nat.min_eq_right (jR _ hle)]
 ·have hi':i<n∧i<xs.length:=by rw[kK] at hi;omega
  rw[List.getElem_take];refine⟨(h3 i hi'.2).1.mv (fun k hk=>?_),(h3 i hi'.2).2⟩;have:=Yaw (sz:=e.size) hi'.1;simp only[Src.cell]
  rw[List.getElem?_take,jL (by omega)]
theorem Ysu {A:Option Addr} {n:Nat} {e:Ty} {cs:List Value} (hA:n≠0→∃ bb off,A=some ⟨bb,off,none⟩∧Room w bb off (n*e.size)) (hl:cs.length≤n*e.size) (h1:∀ v∈cs,v.oneCell'=true) :
  (match A with | some a=>storeCells a cs | none=>pure ()).run P w=.ok () (Yj1 w A cs):=by
 cases A with
 |none=>
  cases cs with
  |nil=>rfl
  |cons v l=>
   have:n≠0:=by rintro rfl;simp at hl
   obtain⟨bb,off,e,_⟩:=hA this;cases e
 |some ad=>
  cases cs with
  |nil=>rfl
  |cons v l=>
   have:n≠0:=by rintro rfl;simp at hl
   obtain⟨bb,off,e,hr⟩:=hA this;cases e
   have:=run_storeCells_cells (P:=P) bb off (v::l) 0 w (fun j hj=>by simpa using (hr j (by omega)).1) (fun j hj=>by simpa using (hr j (by omega)).2) h1
   simpa [Yj1] using this
theorem Ys2 (ht:Yaf P tb) (I:Inv Z S C a w) (hg:Yax a g) {np:Nat} {args:Array Operand} {ats:Array TypeId} (ho:o.op=.call ⟨.builtin .copy,args,ats⟩) (hgd:Yu S o.dst) (hd:∀ d,o.dst=some d→d<Z.nt) {b:Option Bool} {p:Patch}
  (h:(doR tb hn np g o).run S=some (.step b p)):Done P o a w fun u w'=>∃ C',Inv Z (S.ap p) C' (a.put o.dst u) w':=by
 simp only[doR,ho] at h
 split at h
 ·rename_i s x t ts hargs hats
  replace h:=RD.bind_some h;obtain⟨i,h1,h⟩:=h;replace h:=RD.bind_some h;obtain⟨vs,h2,h⟩:=h;replace h:=RD.bind_some h;obtain⟨vx,h3,h⟩:=h;replace h:=RD.bind_some h;obtain⟨⟨⟨e',ys,oy⟩,k⟩,h4,h⟩:=h;simp only at h
  split at h
  ·rename_i hty _
   replace h:=RD.bind_some h;obtain⟨n,h5,h⟩:=h;have hvs:=Yg I hg h2;obtain⟨hb,e,n',ys',A,c,hf,hpure,hu,hA,hfin⟩:=Ync I hvs h hgd hd
   split at hf
   ·rename_i he _;subst he
    cases hf;obtain⟨hoy,C2,D2,F2,G2,news,ST⟩:=Ygp (P:=P) I (Yg I hg h3) h4;obtain⟨⟨ds,hds,hsk,_⟩,_⟩:=ht t i (Yq h1);obtain⟨ee,rfl,te,j,q1,q2,q3,q4,⟨z,hz,hzc⟩,hby⟩:=Ynm hsk hty.symm;rw[←hty] at q1;cases q1
    have hargs':args=#[s,x]:=by rw[←Array.toArray_toList (xs:=args),hargs]
    have hat0:ats[0]? = some t:=by rw[←Array.getElem?_toList,hats];rfl
    have hn:n=n':=by
     have hns:∀ o x,vs≠.cl o .str x:=by
      rintro o x rfl;have:=(hvs:Yb _ _ _ _ _ _).str;obtain⟨z,e1,_⟩:=this;rw[hu] at e1;cases e1
     obtain⟨A',c',e1⟩:=Yem I hvs h5 hns;rw[hu] at e1;cases e1;rfl
    subst hn
    have hsrcl:(Builtin.lenOf (a.eval x)).run P w=.ok ys.length w:=by
     rcases ST.form with ⟨A',c',e1,_⟩ | ⟨z',e1,_,e3,_⟩
     ·rw[e1];rfl
     ·rw[e1,e3];rfl
    have hcells:(Builtin.firstCells e'.size (Nat.min ys.length n) (a.eval x)).run P w=.ok (news.take (Nat.min ys.length n*e'.size)).toArray w:=by
     have hl:=ST.row.len;have hle:Nat.min ys.length n≤ys.length:=Nat.min_le_left _ _;have hm:Nat.min ys.length n*e'.size≤ys.length*e'.size:=jR _ hle;rcases ST.form with ⟨A',c',e1,h⟩ | ⟨z',e1,e2,e3,rfl⟩
     ·rw[e1]
      cases A' with
      |none=>
       have:news=[]:=by
        cases news with
        |nil=>rfl
        |cons v l=>obtain⟨a,e,_⟩:=h 0 v rfl;cases e
       subst this
       simp[Builtin.firstCells]
      |some ad=>
       exact run_firstCells_some w e'.size _ ad ys.length c' _ (by rw[kK];omega) (fun j u hj=>by
        rw[List.getElem?_take] at hj
        split at hj
        ·obtain⟨a',e,h⟩:=h j u hj;cases e;exact h
        ·cases hj)
     ·rw[e1,e2]
      simp[Builtin.firstCells,byteCells];apply Array.ext';simp[List.map_take]
    have htk:ys.take n=ys.take (Nat.min ys.length n):=by
     show _=ys.take (min ys.length n);rcases Nat.le_total n ys.length with hle | hle
     ·rw[Nat.min_eq_right hle]
     ·rw[Nat.min_eq_left hle,List.take_of_length_le hle,List.take_length]
    have hrow:Yw w noB e' .sh (ys.take n) (news.take (Nat.min ys.length n*e'.size)) noB:=by
     rw[htk];exact(ST.row.take _).pure hpure
    have hlen:=hrow.len
    have hln:(ys.take n).length≤n:=by rw[kK];exact Nat.min_le_left _ _
    have hst:=Ysu (P:=P) (w:=w) (e:=e') (cs:=news.take (Nat.min ys.length n*e'.size)) hA (by rw[hlen];exact jR _ hln) hrow.one
    have hrun:(Builtin.copy_ ats o.type #[a.eval s,a.eval x]).run P w=.ok (goInt (Nat.min ys.length n)) (Yj1 w A (news.take (Nat.min ys.length n*e'.size))):=by
     simp only[Builtin.copy_,hat0,hu];simp[run_underlying hds,hsrcl,Y3 q2,q3,hcells]
     cases A with
     |none=>simp at hst ⊢;simpa using hst
     |some ad=>simp at hst ⊢;simp[hst]
    subst hargs';obtain⟨C',hI⟩:=hfin _ (.int .i64 ((min ys.length n:Nat):Int)) hrow hln (fun w' M L ρ=>Yb.Yb3 _ _ _)
    exact .inl ⟨_,_,.inl (by simp[execOp,ho,resolve,invoke,builtin,hrun];rfl),C',hI⟩
   ·cases hf
  ·cases h
 ·cases h
theorem Yrf (ht:Yaf P tb) (I:Inv Z S C a w) (hg:Yax a g) {np:Nat} {args:Array Operand} {ats:Array TypeId} (ho:o.op=.call ⟨.builtin .clear,args,ats⟩) (hgd:Yu S o.dst) (hd:∀ d,o.dst=some d→d<Z.nt) {b:Option Bool} {p:Patch}
  (h:(doR tb hn np g o).run S=some (.step b p)):Done P o a w fun u w'=>∃ C',Inv Z (S.ap p) C' (a.put o.dst u) w':=by
 simp only[doR,ho] at h
 split at h
 ·rename_i s t ts hargs hats
  replace h:=RD.bind_some h;obtain⟨i,h1,h⟩:=h;replace h:=RD.bind_some h;obtain⟨vs,h2,h⟩:=h;have hvs:=Yg I hg h2;obtain⟨hb,e,n,ys',A,c,hf,hpure,hu,hA,hfin⟩:=Ync I hvs h hgd hd
  split at hf
  ·rename_i hty _
   cases hf;obtain⟨⟨ds,hds,hsk,_⟩,_⟩:=ht t i (Yq h1);obtain⟨ee,rfl,te,j,q1,q2,q3,q4,⟨z,hz,hzc⟩,hby⟩:=Ynm hsk hty.symm;rw[←hty] at q1;cases q1
   have hargs':args=#[s]:=by rw[←Array.toArray_toList (xs:=args),hargs]
   have hat0:ats[0]? = some t:=by rw[←Array.getElem?_toList,hats];rfl
   have hzs:z.cells.size=e.size:=by rw[←Yt,←hzc];simp
   have hrow:Yw w noB e .sh (List.replicate n e.zero) (Builtin.zeroCells z.cells n).toList noB:=by
    refine⟨by simp[Builtin.zeroCells,hzs],fun v hv=>?_,fun _=>noB,fun i hi=>⟨?_,fun _ x=>x.elim⟩,fun _ _ _ _ _ x=>x.elim⟩
    ·simp only[Builtin.zeroCells,Array.toList_map,kS] at hv
     obtain⟨k,hk,rfl⟩:=hv
     have hk':k<n*z.cells.size:=by simpa using hk
     have hpos:0<z.cells.size:=by
      rcases kN z.cells.size with h | h
      ·rw[h] at hk';omega
      ·exact h
     have hm:k % z.cells.size<z.cells.size:=Nat.mod_lt _ hpos;rw[getElem!_pos z.cells _ hm]
     have hzr:Rep w noB e .sh e.zero (.reg z.cells.toList 0) noB:=Yba e (fun i _=>by simp only[Src.cell,jJ];rw[hzc])
     obtain⟨v,e1,e2⟩:=hzr.cells (k % z.cells.size) (by rw[←hzs];exact hm)
     simp only[Src.cell,jJ] at e1;rw[Array.getElem?_toList,Array.getElem?_eq_getElem hm] at e1;cases e1;exact e2
    ·have hi':i<n:=by simpa using hi
     rw[List.getElem_replicate];refine Yba e (fun k hk=>?_);simp only[Src.cell];rw[Array.getElem?_toList];have:=Ynt (z:=z.cells) (e:=e) (n:=n) hzc hi' hk;rw[←hzs] at this
     simpa [Builtin.zeroCells,hzs] using this
   have hlen:=hrow.len
   have hst:=Ysu (P:=P) (w:=w) (e:=e) (cs:=(Builtin.zeroCells z.cells n).toList) hA (by rw[hlen];simp) hrow.one
   have hrun:(Builtin.clear_ ats o.type #[a.eval s]).run P w=.ok (.tuple #[]) (Yj1 w A (Builtin.zeroCells z.cells n).toList):=by
    simp only[Builtin.clear_,hat0,hu]
    cases A with
    |none=>
     have hn0:n=0:=by
      rcases kN n with h | h
      ·exact h
      ·obtain⟨_,_,e1,_⟩:=hA (by omega);cases e1
     simp[run_underlying hds,Yj1]
    |some ad=>
     cases n with
     |zero=>
      have:(Builtin.zeroCells z.cells 0).toList=[]:=by simp[Builtin.zeroCells]
      rw[this]
      simp[run_underlying hds,Yj1,setCells_nil]
     |succ n=>
      simp at hst;simp[run_underlying hds,zeroValue,typeInfo,q2,hz,hst]
   subst hargs'
   obtain⟨C',hI⟩:=hfin _ (.tuple #[]) hrow (by simp) (fun w' M L ρ=>⟨#[],rfl,trivial⟩)
   exact .inl ⟨_,_,.inl (by simp[execOp,ho,resolve,invoke,builtin,hrun]),C',hI⟩
  ·cases hf
 ·cases h
end
section
variable {a:Act}
variable {o:Oper}
theorem Yrg (ht:Yaf P tb) (I:Inv Z S C a w) (hg:Yax a g) {np:Nat} (hnp:∀ i,np≤i→Z.P i=none) (hgd:Yu S o.dst) (hd:∀ d,o.dst=some d→d<Z.nt) {b:Option Bool} {p:Patch}
  (h:(doR tb hn np g o).run S=some (.step b p)) (hb:b≠some false):Done P o a w fun u w'=>∃ C',Inv Z (S.ap p) C' (a.put o.dst u) w':=by
 have pureC:(doR tb hn np g o)=Yht tb none g o→Done P o a w fun u w'=>∃ C',Inv Z (S.ap p) C' (a.put o.dst u) w':=fun e=>
  Ypc ht I hg hgd hd (by rw[←e];exact h) hb
 cases ho:o.op with
 |assign x=>
  cases hdst:o.dst with
  |none=>simp only[doR,ho,hdst] at h;cases h
  |some d=>
   rw[hdst] at hgd hd;rw[←hdst]
   by_cases hx:x=.const (.slice none 0 0)
   ·subst hx;exact Yur ht I ho hdst hnp hgd (hd d rfl) h
   ·by_cases hq:x=.const (.pointer none)
    ·subst hq
     simp only[doR,ho,hdst,RD.run,jD] at h;exact Ys3 I ho hdst hgd (hd d rfl) h
    ·have h':((opv g x).bind fun v=>Yfy np d v).run S=some (.step b p):=by
      simp only[doR,ho,hdst,hx,hq] at h
      first | exact h | (split at h
                         ·exact absurd rfl hx
                         ·exact absurd rfl hq
                         ·exact h)
     replace h':=RD.bind_some h';obtain⟨v,h1,h2⟩:=h'
     exact Yp3 I hg ho hdst hnp hgd (hd d rfl) h1 h2
 |alloc t=>
  cases hdst:o.dst with
  |none=>simp only[doR,ho,hdst] at h;cases h
  |some d=>rw[hdst] at hgd hd;rw[←hdst];exact Yrd ht I ho hdst hnp hgd (hd d rfl) h
 |box t x=>
  cases hdst:o.dst with
  |none=>simp only[doR,ho,hdst] at h;cases h
  |some d=>rw[hdst] at hgd hd;rw[←hdst];exact Yuq I ho hdst hnp hgd (hd d rfl) hg h
 |build t parts=>
  cases hdst:o.dst with
  |none=>simp only[doR,ho,hdst] at h;cases h
  |some d=>rw[hdst] at hgd hd;rw[←hdst];exact Yre ht I hg ho hdst hgd (hd d rfl) h
 |buildSlice t n parts=>
  cases hdst:o.dst with
  |none=>simp only[doR,ho,hdst] at h;cases h
  |some d=>rw[hdst] at hgd hd;rw[←hdst];exact Yj5 ht I hg ho hdst hnp hgd (hd d rfl) h
 |makeSlice t l c=>
  cases hdst:o.dst with
  |none=>simp only[doR,ho,hdst] at h;cases h
  |some d=>rw[hdst] at hgd hd;rw[←hdst];exact Ylo ht I ho hdst hnp hgd (hd d rfl) hg h hb
 |store t ad x=>exact Yrh ht I ho hg h hb
 |convert src dst x=>
  cases hdst:o.dst with
  |none=>simp only[doR,ho,hdst] at h;cases h
  |some d=>rw[←hdst];exact Ys1 ht I hg ho hdst hnp hgd (hd d hdst) h hb
 |call c=>
  obtain⟨callee,args,ats⟩:=c
  cases callee with
  |builtin bi=>
   cases bi with
   |append=>
    cases hdst:o.dst with
    |none=>simp only[doR,ho,hdst] at h;cases h
    |some d=>rw[hdst] at hgd hd;rw[←hdst];exact Yp2 ht I hg ho hdst hnp hgd (hd d rfl) h hb
   |copy=>exact Ys2 ht I hg ho hgd hd h
   |clear=>exact Yrf ht I hg ho hgd hd h
   |_=>exact pureC (by simp only[doR,ho])
  |_=>exact pureC (by simp only[doR,ho])
 |_=>exact pureC (by simp only[doR,ho])
end
section
variable {Lf:TV→Value→Prop} {ρ:Yc}
structure Wr2 (w w':World) (s':Src) (n:Nat) (H:Yd):Prop where
 size:w.heap.size≤w'.heap.size
 kp:∀ b,b<w.heap.size→¬ H b→Kp w w' s' n b
theorem Str.Yw4 (I:Str Z Lf C G ρ w) {r:Nat} {R:Root} {p:Path} {s':Src} {old:TV} (hR:ρ r=some R) (hn:nav w R.tv (C.L r) p=some s') (hg:R.tv.get p=some old)
  {n tv':TV} (hset:R.tv.set p n=some tv') (hlay:n.lay=old.lay) :
  ∃ Fo Fr,Ye Fo (C.F r)∧Ye Fr (C.F r)∧Dis Fo Fr∧Ya w (Mt Z C ρ G) Lf old s' Fo∧Yj4 (C.L r) s' old.size R.tv.size Fr∧tv'.lay=R.tv.lay∧
   ∀ (Lf':TV→Value→Prop),(∀ v u,Lf v u→Lf' v u)→∀ w' Fn G' (D:Dd),Wr2 w w' s' old.size (fun b=>G b∨Fo b)→
    Ya w' (Mt Z (C.Ydj r (fun b=>Fr b∨Fn b)) (ρ.set r (some ⟨R.k,tv'⟩)) G') Lf' n s' Fn→(∀ b,Fn b→(G b∨Fo b∨w.heap.size≤b)∧b<w'.heap.size)→
    (∀ b,G' b→((G b∨Fo b∨w.heap.size≤b)∧b<w'.heap.size)∧¬ Fn b)→w'.os=w.os→w'.tape=w.tape→w'.output=w.output→
    (∀ t b off,¬ D.l r (p++t)→nav w old s' t=some (.mem b off)→nav w' n s' t=some (.mem b off))→
    (∀ t s1,¬ D.s r (p++t)→nav w old s' t=some s1→∀ o e,∀ xs:List e.El,old.gr t=some (.cl o (.sl e) xs)→
     nav w' n s' t=some s1∧s1.cell w' 0=s1.cell w 0∧∃ o',∃ xs':List e.El,n.gr t=some (.cl o' (.sl e) xs')∧xs'.length=xs.length)→
    Str Z Lf' (C.Ydj r (fun b=>Fr b∨Fn b)) G' (ρ.set r (some ⟨R.k,tv'⟩)) w'∧
    Gs w w' (Mt Z C ρ G) (Mt Z (C.Ydj r (fun b=>Fr b∨Fn b)) (ρ.set r (some ⟨R.k,tv'⟩)) G') ρ (ρ.set r (some ⟨R.k,tv'⟩)) C.L C.L D:=by
 have hs:∀ bs offs,C.L r=.mem bs offs→R.k=.mem∧¬ C.F r bs:=by
  intro bs offs e
  cases hk:R.k with
  |reg=>obtain⟨cs,e'⟩:=I.reg r R hR hk;rw[e] at e';cases e'
  |mem=>obtain⟨b,off,e',h,_⟩:=I.mem r R hR hk;rw[e] at e';cases e';exact⟨rfl,h⟩
 obtain⟨Fo,Fr,b1,b2,d1,ro,hl,hly,hc⟩:=upd p (I.rep r R hR) (fun bs offs e=>(hs bs offs e).2) hn hg hset hlay;refine⟨Fo,Fr,b1,b2,d1,ro,hl,hly,fun Lf' hlf w' Fn G' D hw hrn hFn hG' hos htape hout hdl hds=>?_⟩
 have hblk:∀ b0 off0,s'=.mem b0 off0→Tot C r R b0:=by
  intro b0 off0 e;rcases hl with ⟨k,e',_⟩ | ⟨b1,o1,e',hf⟩
  ·rw[e] at e';obtain⟨o,e1,_⟩:=Src.Yat e'.symm
   exact .inr ⟨(hs _ _ e1).1,o,e1⟩
  ·rw[e] at e';cases e';exact .inl (b2 _ hf)
 have hsame:∀ b,b<w.heap.size→¬ G b→¬ Tot C r R b→Same w w' b:=by
  intro b hlt hg hb;have hkp:=hw.kp b hlt (fun h=>h.elim hg (fun h=>hb (.inl (b1 b h))))
  cases e:s' with
  |reg cs o=>rw[e] at hkp;exact hkp
  |mem b0 off0=>
   rw[e] at hkp;refine hkp.same ?_;rintro rfl;exact hb (hblk _ _ e)
 have hM0:Ye (Tot C r R) (Mt Z C ρ G):=fun b h=>.inl ⟨r,R,hR,h⟩;generalize hC':C.Ydj r (fun b=>Fr b∨Fn b)=C';generalize hρ':ρ.set r (some ⟨R.k,tv'⟩)=ρ'
 have cL:C'.L=C.L:=by rw[←hC'];rfl
 have cFr:C'.F r=fun b=>Fr b∨Fn b:=by rw[←hC'];simp[Cx.Ydj]
 have cFo:∀ i,i≠r→C'.F i=C.F i:=fun i h=>by rw[←hC'];simp[Cx.Ydj,h]
 have rr:ρ' r=some ⟨R.k,tv'⟩:=by rw[←hρ',Yc.Yo]
 have ro':∀ i,i≠r→ρ' i=ρ i:=fun i h=>by rw[←hρ',Yc.Yn _ _ h]
 have tot:∀ i,i≠r→∀ R',Tot C' i R'=Tot C i R':=fun i h R'=>by unfold Tot;rw[cFo i h,cL]
 have totr:∀ b,Tot C' r ⟨R.k,tv'⟩ b→Tot C r R b∨G b∨w.heap.size≤b:=by
  rintro b (h | h)
  ·rw[cFr] at h
   rcases h with h | h
   ·exact .inl (.inl (b2 b h))
   ·rcases(hFn b h).1 with h | h | h
    ·exact .inr (.inl h)
    ·exact .inl (.inl (b1 b h))
    ·exact .inr (.inr h)
  ·rw[cL] at h;exact .inl (.inr h)
 have hm:∀ b,Mt Z C' ρ' G' b→Mt Z C ρ G b∨w.heap.size≤b:=by
  rintro b (⟨i,R',h1,h2⟩ | h | h)
  ·by_cases e:i=r
   ·subst e;rw[rr] at h1;cases h1
    rcases totr b h2 with h | h | h
    ·exact .inl (hM0 b h)
    ·exact .inl (.inr (.inl h))
    ·exact .inr h
   ·rw[ro' i e] at h1;rw[tot i e] at h2;exact .inl (.inl ⟨i,R',h1,h2⟩)
  ·rcases(hG' b h).1.1 with h | h | h
   ·exact .inl (.inr (.inl h))
   ·exact .inl (hM0 b (.inl (b1 b h)))
   ·exact .inr h
  ·exact .inl (.inr (.inr h))
 have hst:∀ b,¬ Mt Z C ρ G b→b<w.heap.size→Same w w' b∧¬ Mt Z C' ρ' G' b:=fun b h hlt=>⟨hsame b hlt (fun x=>h (.inr (.inl x))) (fun x=>h (hM0 b x)),fun x=>(hm b x).elim h (fun h=>by omega)⟩
 have hgo:∀ F,Dis (Tot C r R) F→Dis G F→(∀ b,F b→b<w.heap.size)→Goes w w' (Mt Z C ρ G) (Mt Z C' ρ' G') F:=fun F hd hd2 hlt=>⟨hw.size,fun b hb=>hsame b (hlt b hb) (fun x=>hd2 b x hb) (fun x=>hd b x hb),hst⟩
 have htotlt:∀ i R',ρ i=some R'→∀ b,Tot C i R' b→b<w.heap.size:=by
  intro i R' h b hb;rcases hb with hb | ⟨hk,off,e⟩
  ·exact(I.bnd i R' b h hb).1
  ·obtain⟨b',off',e',_,h3,_⟩:=I.mem i R' h hk
   rw[e] at e';cases e';exact h3
 have hgoR:∀ i R',i≠r→ρ i=some R'→Goes w w' (Mt Z C ρ G) (Mt Z C' ρ' G') (C.F i):=fun i R' e h=>hgo _ (fun b x y=>I.dis r i R R' (fun z=>e z.symm) hR h b x (.inl y)) (fun b x y=>I.gdis i R' h b (.inl y) x) (fun b y=>(I.bnd i R' b h y).1)
 have hcellO:∀ i R',i≠r→ρ i=some R'→∀ j,(C.L i).cell w' j=(C.L i).cell w j:=by
  intro i R' hi h j
  cases hk:R'.k with
  |reg=>obtain⟨cs,e⟩:=I.reg i R' h hk;rw[e];rfl
  |mem=>
   obtain⟨b,off,e,_⟩:=I.mem i R' h hk;rw[e];exact Same.cell (hsame b (htotlt i R' h b (.inr ⟨hk,off,e⟩)) (fun x=>I.gdis i R' h b (.inr ⟨hk,off,e⟩) x) (fun x=>I.dis r i R R' (fun y=>hi y.symm) hR h b x (.inr ⟨hk,off,e⟩))) _
 have hkpr:∀ b,Tot C r R b→¬ Fo b→Kp w w' s' old.size b:=fun b hb hf=>hw.kp b (htotlt r R hR b hb) (fun h=>h.elim (fun h=>I.gdis r R hR b hb h) hf);have hu:Yfx w w' (Mt Z C ρ G) (Mt Z C' ρ' G') (C.L r) s' old.size Fr:=⟨hw.size,fun b hb=>hkpr b (.inl (b2 b hb)) (fun h=>d1 b h hb),fun bs offs e=>hkpr bs (.inr ⟨(hs _ _ e).1,offs,e⟩) (fun h=>(hs _ _ e).2 (b1 _ h)),hst⟩
 have hFnFr:Dis Fn Fr:=by
  intro b h1 h2;rcases(hFn b h1).1 with h | h | h
  ·exact I.gdis r R hR b (.inl (b2 b h2)) h
  ·exact d1 b h h2
  ·have:=htotlt r R hR b (.inl (b2 b h2));omega
 have hFnL:∀ bs offs,C.L r=.mem bs offs→¬ Fn bs:=by
  intro bs offs e h;rcases(hFn bs h).1 with h | h | h
  ·exact I.gdis r R hR bs (.inr ⟨(hs _ _ e).1,offs,e⟩) h
  ·exact(hs _ _ e).2 (b1 _ h)
  ·have:=htotlt r R hR bs (.inr ⟨(hs _ _ e).1,offs,e⟩);omega
 obtain⟨u1,u2,u3⟩:=hc w' (Mt Z C' ρ' G') Lf' Fn hu (by subst hC' hρ';exact hrn) hFnFr hFnL hlf
 obtain⟨n',hg',hoe⟩:=Ypt p (I.rep r R hR) hn hset
 have hGb:∀ b,(G b∨Fo b∨w.heap.size≤b)∧b<w'.heap.size→b<w'.heap.size∧(∀ i,¬ Z.K b i)∧¬ Z.X b∧(Z.M b∨Z.w.heap.size≤b):=fun b h=>⟨h.2,by
  rcases h.1 with h | h | h
  ·exact(I.gbnd b h).2
  ·exact(I.bnd r R b hR (b1 b h)).2
  ·have:=I.sz
   exact⟨fun i hk=>by have:=I.kb b i hk;omega,fun hx=>by have:=I.xb b hx;omega,.inr (by omega)⟩⟩
 have htotb:∀ b,Tot C r R b→Z.M b∨Z.w.heap.size≤b:=by
  rintro b (h | ⟨hk,off,e⟩)
  ·exact(I.bnd r R b hR h).2.2.2
  ·obtain⟨b',off',e',_,_,_,_,_,h⟩:=I.mem r R hR hk
   rw[e] at e';cases e';exact h
 refine⟨⟨?_,?_,?_,?_,?_,?_,?_,?_,jU I.sz hw.size,?_,?_,?_,I.xb,I.kb,by rw[hos,I.os],by rw[htape,I.tape],by rw[hout,I.output]⟩,⟨hw.size,hst,?_,?_⟩⟩
 ·intro i R' h
  by_cases e:i=r
  ·subst e;rw[rr] at h;cases h;rw[cFr,cL];exact u1
  ·rw[ro' i e] at h;rw[cFo i e,cL]
   exact(I.rep i R' h).go (hgoR i R' e h) (fun j _=>hcellO i R' e h j) hlf
 ·intro i R' h hk
  rw[cL]
  by_cases e:i=r
  ·subst e;rw[rr] at h;cases h;exact I.reg i R hR hk
  ·rw[ro' i e] at h;exact I.reg i R' h hk
 ·intro i R' h hk
  rw[cL]
  by_cases e:i=r
  ·subst e;rw[rr] at h;cases h
   obtain⟨b,off,e,h1,h2,h3,h4,h5⟩:=I.mem i R hR hk;have hsz:tv'.size=R.tv.size:=TV.Yak hly
   refine⟨b,off,e,?_,jX h2 hw.size,?_,fun j hj=>h4 j (by simpa [hsz] using hj),h5⟩
   ·rw[cFr];rintro(x | x)
    ·exact h1 (b2 _ x)
    ·exact hFnL b off e x
   ·simp only[hsz];exact(hkpr b (.inr ⟨hk,off,e⟩) (fun h=>h1 (b1 _ h))).room h3
  ·rw[ro' i e] at h
   obtain⟨b,off,e',h1,h2,h3,h4⟩:=I.mem i R' h hk;have hb:=hsame b h2 (fun x=>I.gdis i R' h b (.inr ⟨hk,off,e'⟩) x) (fun x=>I.dis r i R R' (fun z=>e z.symm) hR h b x (.inr ⟨hk,off,e'⟩))
   exact⟨b,off,e',by rw[cFo i e];exact h1,jX h2 hw.size,fun j hj=>by rw[hb.cell,hb.frozen];exact h3 j hj,h4⟩
 ·intro i R' b h hb
  by_cases e:i=r
  ·subst e;rw[cFr] at hb
   rcases hb with hb | hb
   ·have:=I.bnd i R b hR (b2 b hb);exact⟨jX this.1 hw.size,this.2⟩
   ·exact hGb b (hFn b hb)
  ·rw[ro' i e] at h;rw[cFo i e] at hb;have:=I.bnd i R' b h hb;exact⟨jX this.1 hw.size,this.2⟩
 ·intro b hb;exact hGb b (hG' b hb).1
 ·intro i j R1 R2 hne h1 h2
  have one:∀ j R2,j≠r→ρ j=some R2→Dis (Tot C' r ⟨R.k,tv'⟩) (Tot C j R2):=by
   intro j R2 hj h b x y;rcases totr b x with x | x | x
   ·exact I.dis r j R R2 (fun z=>hj z.symm) hR h b x y
   ·exact I.gdis j R2 h b y x
   ·have:=htotlt j R2 h b y;omega
  by_cases e:i=r
  ·subst e;rw[rr] at h1;cases h1
   have hj:j≠i:=fun z=>hne z.symm;rw[ro' j hj] at h2;rw[tot j hj];exact one j R2 hj h2
  ·rw[ro' i e] at h1;rw[tot i e]
   by_cases e':j=r
   ·subst e';rw[rr] at h2;cases h2;exact(one i R1 e h1).symm
   ·rw[ro' j e'] at h2;rw[tot j e'];exact I.dis i j R1 R2 hne h1 h2
 ·intro i R' h b x y
  obtain⟨y1,y2⟩:=hG' b y
  by_cases e:i=r
  ·subst e;rw[rr] at h;cases h
   rcases x with x | ⟨hk,off,x⟩
   ·rw[cFr] at x
    rcases x with x | x
    ·rcases y1.1 with y1 | y1 | y1
     ·exact I.gdis i R hR b (.inl (b2 b x)) y1
     ·exact d1 b y1 x
     ·have:=htotlt i R hR b (.inl (b2 b x));omega
    ·exact y2 x
   ·rw[cL] at x
    rcases y1.1 with y1 | y1 | y1
    ·exact I.gdis i R hR b (.inr ⟨hk,off,x⟩) y1
    ·exact(hs _ _ x).2 (b1 _ y1)
    ·have:=htotlt i R hR b (.inr ⟨hk,off,x⟩);omega
  ·rw[ro' i e] at h;rw[tot i e] at x
   rcases y1.1 with y1 | y1 | y1
   ·exact I.gdis i R' h b x y1
   ·exact I.dis r i R R' (fun z=>e z.symm) hR h b (.inl (b1 b y1)) x
   ·have:=htotlt i R' h b x;omega
 ·intro i R' h
  rw[cL]
  by_cases e:i=r
  ·subst e;rw[rr] at h;cases h;exact I.plc i R hR
  ·rw[ro' i e] at h;exact I.plc i R' h
 ·intro b hb hm'
  refine(I.old b hb hm').trans (hsame b (jX hb I.sz) (fun hg=>?_) (fun x=>?_))
  ·rcases(I.gbnd b hg).2.2.2 with h | h
   ·exact hm' h
   ·omega
  ·rcases htotb b x with h | h
   ·exact hm' h
   ·omega
 ·intro b i hk
  rw[←I.kp b i hk];have hkp:=hw.kp b (jX (I.kb b i hk) I.sz) (fun h=>h.elim (fun h=>(I.gbnd b h).2.1 i hk) (fun h=>(I.bnd r R b hR (b1 b h)).2.1 i hk))
  cases e:s' with
  |reg cs o=>rw[e] at hkp;exact Same.cell hkp _
  |mem b0 off0=>
   rw[e] at hkp
   by_cases hb:b=b0
   ·subst hb
    refine hkp.out ?_;rcases hl with ⟨k,e',hkn⟩ | ⟨b1',o1,e',hf⟩
    ·rw[e] at e';obtain⟨o,e1,e2⟩:=Src.Yat e'.symm
     obtain⟨b',off',e3,_,_,_,h4,_⟩:=I.mem r R hR (hs _ _ e1).1;rw[e1] at e3;cases e3;rcases kG i off0 with h | h
     ·exact .inl h
     ·rcases kG i (off0+old.size) with h' | h'
      ·exact absurd hk (by rw[show i=o+(i-o) by omega];exact h4 (i-o) (by omega))
      ·exact .inr h'
    ·rw[e] at e';cases e';exact absurd hk ((I.bnd r R _ hR (b2 _ hf)).2.1 i)
   ·exact Same.cell (hkp.same hb) _
 ·intro b i j hk
  rw[←I.kf b i j hk];have hkp:=hw.kp b (jX (I.kb b i hk) I.sz) (fun h=>h.elim (fun h=>(I.gbnd b h).2.1 i hk) (fun h=>(I.bnd r R b hR (b1 b h)).2.1 i hk))
  cases e:s' with
  |reg cs o=>rw[e] at hkp;exact Same.frozen hkp _
  |mem b0 off0=>
   rw[e] at hkp
   by_cases hb:b=b0
   ·subst hb;simp only[Kp,if_true] at hkp;exact hkp.2.1 j
   ·exact Same.frozen (hkp.same hb) _
 ·intro i q R' b off hd h1 h2
  by_cases e:i=r
  ·subst e;rw[hR] at h1;cases h1
   refine⟨_,rr,?_⟩
   by_cases hq:∃ t,q=p++t
   ·obtain⟨t,rfl⟩:=hq
    rw[(Y4 p t u2 hg').1,Yga hoe];rw[(Y4 p t hn hg).1] at h2;exact hdl t b off hd h2
   ·exact(u3 q _ h2 hq).1
  ·refine⟨R',by rw[ro' i e];exact h1,?_⟩
   exact(Ybk q (I.rep i R' h1) (hgoR i R' e h1) (fun j _=>hcellO i R' e h1 j) h2).1
 ·intro i q R' s1 hd h1 h2 o ty xs h3
  by_cases e:i=r
  ·subst e;rw[hR] at h1;cases h1
   refine⟨_,rr,?_⟩
   by_cases hq:∃ t,q=p++t
   ·obtain⟨t,rfl⟩:=hq
    rw[(Y4 p t u2 hg').1,Ylz p t u2 hg',Yga hoe];rw[(Y4 p t hn hg).1] at h2;rw[Ylz p t hn hg] at h3;obtain⟨k1,k2,o',xs',k3,k4⟩:=hds t s1 hd h2 o ty xs h3;obtain⟨o2,k5⟩:=Yph hoe k3;exact⟨k1,k2,o2,xs',k5,k4⟩
   ·obtain⟨k1,k2⟩:=u3 q _ h2 hq
    obtain⟨k3,o',xs',k4,k5⟩:=k2 o ty xs h3;exact⟨k1,k3,o',xs',k4,k5⟩
  ·refine⟨R',by rw[ro' i e];exact h1,?_⟩
   obtain⟨n1,n2⟩:=Ybk q (I.rep i R' h1) (hgoR i R' e h1) (fun j _=>hcellO i R' e h1 j) h2;exact⟨n1,n2 o ty xs h3,o,xs,h3,rfl⟩
end
section
variable {a:Act}
variable {o:Oper}
theorem Ykz {w:World} {M:Yd} {Lf:TV→Value→Prop}:∀ (p:Path) {tv:TV} {s:Src} {F:Yd} {b off:Nat},Ya w M Lf tv s F→nav w tv s p=some (.mem b off)→
  (∃ o,s=.mem b o)∨F b∨(¬ M b∧b<w.heap.size):=by
 intro p
 induction p with
 |nil=>intro tv s F b off _ h;rw[Yf] at h;cases h;exact .inl ⟨_,rfl⟩
 |cons c p ih=>
  intro tv s F b off hr hn
  cases tv with
  |pr x y=>
   obtain⟨F1,F2,h1,h2,h3,h4,_⟩:=hr
   cases c with
   |f1=>
    simp only[nav] at hn;rcases ih h1 hn with h | h | h
    ·exact .inl h
    ·exact .inr (.inl (h3 b h))
    ·exact .inr (.inr h)
   |f2=>
    simp only[nav] at hn;rcases ih h2 hn with ⟨o,h⟩ | h | h
    ·obtain⟨o',e,_⟩:=Src.Yat h;exact .inl ⟨o',e⟩
    ·exact .inr (.inl (h4 b h))
    ·exact .inr (.inr h)
   |el i=>simp[nav] at hn
  |cl o t x=>
   cases t with
   |pair t1 t2=>
    obtain⟨F1,F2,h1,h2,h3,h4,_⟩:=hr
    cases c with
    |f1=>
     simp only[nav] at hn;rcases ih (tv:=.cl o t1 x.1) h1 hn with h | h | h
     ·exact .inl h
     ·exact .inr (.inl (h3 b h))
     ·exact .inr (.inr h)
    |f2=>
     simp only[nav] at hn;rcases ih (tv:=.cl o t2 x.2) h2 hn with ⟨o,h⟩ | h | h
     ·obtain⟨o',e,_⟩:=Src.Yat h;exact .inl ⟨o',e⟩
     ·exact .inr (.inl (h4 b h))
     ·exact .inr (.inr h)
    |el i=>simp[nav] at hn
   |sl e=>
    cases c with
    |el i=>
     simp only[nav] at hn
     split at hn
     ·rename_i hi
      obtain⟨A,c,q1,q2,q3⟩:=hr;rw[q1] at hn
      have own:∀ o:Ow,(c≠0→∃ b off,∃ Fs:Nat→Yd,A=some ⟨b,off,none⟩∧F b∧Room w b off (c*e.size)∧
        (∀ i (h:i<x.length),Rep w M e o.elem (x[i]'h) (.mem b (off+i*e.size)) (Fs i)∧Ye (Fs i) F∧¬ Fs i b)∧(∀ i j,i<j→j<x.length→Dis (Fs i) (Fs j)))→
        (∀ b' o',A=some ⟨b',o',none⟩→nav w (.cl o.elem e (x.getD i e.zero)) (.mem b' (o'+i*e.size)) p=some (.mem b off))→F b∨(¬ M b∧b<w.heap.size):=by
       intro o q3 hn
       obtain⟨b',off',Fs,e1,e2,e3,e4,e5⟩:=q3 (by omega)
       have hn':=hn b' off' e1;rw[Ym x i e.zero hi] at hn';rcases ih (tv:=.cl o.elem e (x[i]'hi)) (e4 i hi).1 hn' with ⟨o,h⟩ | h | h
       ·cases h;exact .inl e2
       ·exact .inl ((e4 i hi).2.1 b h)
       ·exact .inr h
      cases o with
      |sh=>
       obtain⟨b',off',e1,e2,e3,e4⟩:=q3 (by intro h0;subst h0;exact absurd hi (Nat.not_lt_zero _))
       subst e1;simp only at hn;rw[Ym x i e.zero hi] at hn;rcases ih (tv:=.cl .sh e (x[i]'hi)) (e4 i hi) hn with ⟨o,h⟩ | h | h
       ·cases h;exact .inr (.inr ⟨e2,e3⟩)
       ·exact h.elim
       ·exact .inr (.inr h)
      |top=>exact .inr (own .top q3 (fun b' o' e1=>by subst e1;exact hn))
      |deep=>exact .inr (own .deep q3 (fun b' o' e1=>by subst e1;exact hn))
     ·cases hn
    |f1=>simp[nav] at hn
    |f2=>simp[nav] at hn
   |arr n e=>
    cases c with
    |el i=>
     simp only[nav] at hn
     split at hn
     ·rename_i hi
      obtain⟨h1,Fs,h2,_⟩:=hr
      have hi':i<x.length:=by omega
      rw[Ym x i e.zero hi'] at hn;rcases ih (tv:=.cl o e (x[i]'hi')) (h2 i hi').1 hn with ⟨o,h⟩ | h | h
      ·obtain⟨o',e,_⟩:=Src.Yat h;exact .inl ⟨o',e⟩
      ·exact .inr (.inl ((h2 i hi').2 b h))
      ·exact .inr (.inr h)
     ·cases hn
    |f1=>simp[nav] at hn
    |f2=>simp[nav] at hn
   |_=>cases c<;>simp[nav] at hn
  |rw o e xs i v=>
   cases c with
   |f1=>simp[nav] at hn
   |f2=>simp[nav] at hn
   |el j=>
    obtain⟨_,_,_,b',off',c',h4,_,Fs,h6,_,h8,_,h10⟩:=hr;obtain⟨hj,hn⟩:=Yfq h4 hn
    by_cases hji:j=i
    ·subst hji
     rw[jL rfl] at hn;rcases ih h10.up hn with ⟨o,h⟩ | h | h
     ·cases h;exact .inr (.inl h6)
     ·exact .inr (.inl ((h8 j hj).2.1 b h))
     ·exact .inr (.inr h)
    ·rw[jM hji,Ym xs j e.zero hj] at hn
     rcases ih (tv:=.cl o.elem e (xs[j]'hj)) ((h8 j hj).1.resolve_left hji) hn with ⟨o,h⟩ | h | h
     ·cases h;exact .inr (.inl h6)
     ·exact .inr (.inl ((h8 j hj).2.1 b h))
     ·exact .inr (.inr h)
  |_=>cases c<;>simp[nav] at hn
structure Far (Z:W0) (S:St) (C:Cx) (w:World) (rs:List Nat) (M':Yd):Prop where
 sub:Ye M' (Mt Z C S.root noB)
 far:∀ r∈rs,∀ R,S.root r=some R→∀ b,Tot C r R b→¬ M' b
theorem Far.mono {rs rs':List Nat} {M':Yd} (h:Far Z S C w rs M') (hs:∀ r∈rs',r∈rs):Far Z S C w rs' M':=⟨h.sub,fun r hr=>h.far r (hs r hr)⟩
theorem Yea (I:Inv Z S C a w) {r:Nat} {R:Root} (hR:S.root r=some R) {b:Nat} (hb:Tot C r R b):b<w.heap.size:=by
 rcases hb with hb | ⟨hk,off,e⟩
 ·exact(I.str.bnd r R b hR hb).1
 ·obtain⟨b',off',e',_,h3,_⟩:=I.str.mem r R hR hk
  rw[e] at e';cases e';exact h3
theorem Yqr (I:Inv Z S C a w) {r:Nat} {p:Path} {R:Root} {oo:Ow} {e:Ty} {xs:List e.El} {u:Value} {M':Yd} (hf:∀ b,Tot C r R b→¬ M' b) (hm:Ye M' (Mt Z C S.root noB))
  (h:Yi w (Mt Z C S.root noB) C.L S.root (.seg r p) u) (hR:S.root r=some R) (hg:R.tv.get p=some (.cl oo (.sl e) xs)) {s:Src} (hs:s.cell w 0=some u):Rep w M' (.sl e) .sh xs s noB:=by
 obtain⟨s0,A,c,F,e1,e2,e3,e4,e5⟩:=Yda I h hR hg;have:=Rep.share e5 hm (fun b hb=>⟨hf b (.inl (e4 b hb)),Yea I hR (.inl (e4 b hb))⟩);refine this.mv (fun i hi=>?_)
 have:i=0:=by simp[Ty.size] at hi;exact hi
 subst this;rw[hs,e2,e3]
theorem Yhx (I:Inv Z S C a w):∀ (v:TV) (t:Ty) {c:TV} {s:Src},(share t v).run S=some c→Ya w (Mt Z C S.root noB) (Yi w (Mt Z C S.root noB) C.L S.root) v s noB→Far Z S C w v.roots M'→
  ∃ t' y,c=.cl .sh t' y∧Rep w M' t' .sh y s noB∧t'.size=v.size∧(v.isAgg=t'.isAgg):=by
 intro v
 induction v with
 |cl o t' x=>
  intro t c s h hr hf
  have h:c=.cl .sh t' x:=by cases t<;>(simp only[share,RD.run,jD] at h;exact h.symm)
  subst h
  exact⟨t',x,rfl,Rep.share hr hf.sub (fun b hb=>hb.elim),rfl,rfl⟩
 |nl=>
  intro t c s h hr hf
  cases t with
  |sl e=>
   simp only[share,RD.run,jD] at h;subst h;obtain⟨u,h1,A,rfl⟩:=hr
   exact⟨_,_,rfl,Rep.nil h1,rfl,rfl⟩
  |_=>cases h
 |pr x y ihx ihy=>
  intro t c s h hr hf
  cases t with
  |pair t1 t2=>
   simp only[share] at h;replace h:=RD.bind_some h;obtain⟨c1,h1,h⟩:=h;replace h:=RD.bind_some h;obtain⟨c2,h2,h⟩:=h;obtain⟨F1,F2,r1,r2,b1,b2,_⟩:=hr
   obtain⟨u1,y1,rfl,q1,q2,q3⟩:=ihx t1 h1 (r1.sub b1) (hf.mono (fun r hr=>by simp[TV.roots,hr]))
   obtain⟨u2,y2,rfl,q4,q5,q6⟩:=ihy t2 h2 (r2.sub b2) (hf.mono (fun r hr=>by simp[TV.roots,hr]))
   simp only[RD.run,jD] at h;subst h
   exact⟨_,_,rfl,⟨noB,noB,q1,by rw[q2];exact q4,fun _ x=>x,fun _ x=>x,fun _ x=>x.elim⟩,by simp[Ty.size,TV.size,q2,q5],rfl⟩
  |_=>cases h
 |seg r p=>
  intro t c s h hr hf
  have h:((els (.seg r p)).bind fun | .mk e xs _=>.ret (TV.cl .sh (.sl e) xs)).run S=some c:=by cases t<;>exact h
  replace h:=RD.bind_some h;obtain⟨⟨e,xs,o⟩,h1,h⟩:=h;simp only[RD.run,jD] at h;subst h;obtain⟨u,hu,hl⟩:=hr;rcases Ybz h1 with ⟨o',e1,_⟩ | ⟨r',p',R,e1,hR,hg⟩ | ⟨r',p',lo,n,R,ys,e1,_⟩
  ·cases e1
  ·cases e1
   exact⟨_,_,rfl,Yqr I (hf.far r (by simp[TV.roots]) R hR) hf.sub hl hR hg hu,rfl,rfl⟩
  ·cases e1
 |sub r p lo n=>
  intro t c s h hr hf
  have h:((els (.sub r p lo n)).bind fun | .mk e xs _=>.ret (TV.cl .sh (.sl e) xs)).run S=some c:=by cases t<;>exact h
  replace h:=RD.bind_some h;obtain⟨⟨e,xs,o⟩,h1,h⟩:=h;simp only[RD.run,jD] at h;subst h;obtain⟨u,hu,R',s0,o2,e',xs',A,len,c0,A',c',k1,k2,k3,k4,k5,k6,k7,k8,k9⟩:=hr;rcases Ybz h1 with ⟨o',e1,_⟩ | ⟨r',p',R,e1,hR,hg⟩ | ⟨r',p',lo',n',R,ys,e1,hR,hg,rfl⟩
  ·cases e1
  ·cases e1
  ·cases e1
   rw[hR] at k1;obtain rfl:=jN k1;rw[Yee hg] at k3;have k3:=jN k3
   obtain⟨F,hF,hr⟩:=focus p (I.str.rep r _ hR) k2 hg
   have hfr:=hf.far r (by simp[TV.roots]) _ hR
   cases k3;have:=Rep.share (show Rep w _ (.sl _) _ _ s0 F from hr) hf.sub (fun b hb=>⟨hfr b (.inl (hF b hb)),Yea I hR (.inl (hF b hb))⟩)
   exact⟨_,_,rfl,Rep.cut this k4 (by rw[hu,k5]) k6 k7 k8 k9,rfl,rfl⟩
 |_=>intro t c s h;cases t<;>cases h
theorem Ymf {M M' F:Yd} {Lf:TV→Value→Prop} (hm:Ye M' M):∀ (v:TV) {c:TV} {s:Src} {F:Yd},(Yhd v).run S=some c→Ya w M Lf v s F→(∀ b,F b→¬ M' b∧b<w.heap.size)→
  ∃ t' y,c=.cl .sh t' y∧Rep w M' t' .sh y s noB∧t'.size=v.size:=by
 intro v
 induction v with
 |cl o t' x=>
  intro c s F h hr hf;simp only[Yhd,RD.run,jD] at h;subst h
  exact⟨t',x,rfl,Rep.share hr hm hf,rfl⟩
 |pr x y ihx ihy=>
  intro c s F h hr hf;simp only[Yhd] at h;replace h:=RD.bind_some h;obtain⟨c1,h1,h⟩:=h;replace h:=RD.bind_some h;obtain⟨c2,h2,h⟩:=h;obtain⟨F1,F2,r1,r2,b1,b2,_⟩:=hr;obtain⟨u1,y1,rfl,q1,q2⟩:=ihx h1 r1 (fun b hb=>hf b (b1 b hb));obtain⟨u2,y2,rfl,q4,q5⟩:=ihy h2 r2 (fun b hb=>hf b (b2 b hb));simp only[RD.run,jD] at h;subst h
  exact⟨_,_,rfl,⟨noB,noB,q1,by rw[q2];exact q4,fun _ x=>x,fun _ x=>x,fun _ x=>x.elim⟩,by simp[Ty.size,TV.size,q2,q5]⟩
 |_=>intro c s F h;cases h
theorem Yd6 (I:Inv Z S C a w) {M':Yd} {v c:TV} {u:Value} (h:(Yju v).run S=some c) (hl:Ydt w (Mt Z C S.root noB) C.L S.root v u) (hf:Far Z S C w v.roots M') :
  ∃ t y,c=.pt t y∧∀ L ρ,Ydt w M' L ρ c u:=by
 cases v with
 |pt t x=>
  simp only[Yju,RD.run,jD] at h;subst h;obtain⟨b,off,e1,e2,e3,e4⟩:=hl
  exact⟨t,x,rfl,fun L ρ=>⟨b,off,e1,fun k=>e2 (hf.sub b k),e3,Ya.mono (Lf:=fun _ _=>True) (tv:=.cl .sh t x) e4 hf.sub⟩⟩
 |loc r p=>
  simp only[Yju] at h;replace h:=RD.bind_some h;obtain⟨c0,h1,h⟩:=h;replace h:=RD.bind_some h;obtain⟨c1,h2,h⟩:=h;obtain⟨R,hR,hg⟩:=Ya1 h1;obtain⟨R',b,off,e1,e2,rfl⟩:=hl;rw[hR] at e1;cases e1
  have hfr:=hf.far r (by simp[TV.roots]) R hR
  obtain⟨F,hF,hr⟩:=focus p (I.str.rep r R hR) e2 hg
  obtain⟨t',y,rfl,q1,q2⟩:=Ymf (F:=noB) hf.sub c0 h2 hr (fun b hb=>⟨hfr b (.inl (hF b hb)),Yea I hR (.inl (hF b hb))⟩);simp only[RD.run,jD] at h;subst h;refine⟨t',y,rfl,fun L ρ=>⟨b,off,rfl,?_,?_,q1⟩⟩
  ·rcases Ykz p (I.str.rep r R hR) e2 with ⟨o,h⟩ | h | h
   ·cases hk:R.k with
    |reg=>obtain⟨cs,e⟩:=I.str.reg r R hR hk;rw[e] at h;cases h
    |mem=>exact hfr b (.inr ⟨hk,o,h⟩)
   ·exact hfr b (.inl h)
   ·exact fun k=>h.1 (hf.sub b k)
  ·rcases Ykz p (I.str.rep r R hR) e2 with ⟨o,h⟩ | h | h
   ·cases hk:R.k with
    |reg=>obtain⟨cs,e⟩:=I.str.reg r R hR hk;rw[e] at h;cases h
    |mem=>exact Yea I hR (.inr ⟨hk,o,h⟩)
   ·exact Yea I hR (.inl h)
   ·exact h.2
 |_=>cases h
theorem Yjt (I:Inv Z S C a w):∀ (v:TV) {c:TV} {us:List Value},(Yeu v).run S=some c→Ycl w (Mt Z C S.root noB) C.L S.root v us→Far Z S C w v.roots M'→∀ L ρ,Ycl w M' L ρ c us:=by
 intro v
 induction v with
 |cl o t x=>intro c us h hc hf L ρ;simp only[Yeu,RD.run,jD] at h;subst h;cases t<;>cases us<;>first | exact hc.elim | trivial
 |pr x y ihx ihy=>
  intro c us h hc hf L ρ
  cases us with
  |nil=>exact hc.elim
  |cons u us=>
   simp only[Yeu] at h;replace h:=RD.bind_some h;obtain⟨c1,h1,h⟩:=h;replace h:=RD.bind_some h;obtain⟨c2,h2,h⟩:=h;simp only[RD.run,jD] at h;subst h
   obtain⟨t,y',rfl,q⟩:=Yd6 I h1 hc.1 (hf.mono (fun r hr=>by simp[TV.roots,hr]))
   exact⟨q L ρ,ihy h2 hc.2 (hf.mono (fun r hr=>by simp[TV.roots,hr])) L ρ⟩
 |_=>intro c us h;cases h
end
section
variable {a:Act}
theorem Ycl.shut (hm:Ye M' M):∀ (v:TV) {us:List Value},v.shut=true→Ycl w M L ρ v us→Ycl w M' L' ρ' v us:=by
 intro v
 induction v with
 |pr x y ihx ihy=>
  intro us hs h
  cases us with
  |nil=>exact h.elim
  |cons u us=>
   simp only[TV.shut,jC] at hs;refine⟨?_,ihy hs.2 h.2⟩
   cases x with
   |nl=>exact h.1
   |pt t y=>obtain⟨b,off,e1,e2,e3,e4⟩:=h.1;exact⟨b,off,e1,fun k=>e2 (hm b k),e3,Ya.mono (Lf:=fun _ _=>True) (tv:=.cl .sh t y) e4 hm⟩
   |loc r p=>simp[TV.shut] at hs
   |seg r p=>simp[TV.shut] at hs
   |sub r p lo n=>simp[TV.shut] at hs
   |_=>exact h.1.elim
 |cl o t x=>intro us hs h;cases t<;>cases us<;>first | exact h.elim | trivial
 |_=>intro us hs h;exact h.elim
theorem Yi.shut (hm:Ye M' M) (hs:v.shut=true) (h:Yi w M L ρ v u):Yi w M' L' ρ' v u:=by
 cases v with
 |clo f c=>obtain⟨caps,h1,h2⟩:=h;exact⟨caps,h1,h2.shut hm c hs⟩
 |nl=>exact h
 |pt t y=>obtain⟨b,off,e1,e2,e3,e4⟩:=h;exact⟨b,off,e1,fun k=>e2 (hm b k),e3,Ya.mono (Lf:=fun _ _=>True) (tv:=.cl .sh t y) e4 hm⟩
 |loc r p=>cases hs
 |seg r p=>cases hs
 |sub r p lo n=>cases hs
 |_=>exact h.elim
theorem Ya.shut (hm:Ye M' M) (hl:∀ v u,v.shut=true→Lf v u→Lf' v u):∀ {tv:TV} {s:Src} {F:Yd},tv.shut=true→Ya w M Lf tv s F→Ya w M' Lf' tv s F:=by
 intro tv
 induction tv with
 |pr x y ihx ihy=>
  intro s F hs h;simp only[TV.shut,jC] at hs;obtain⟨F1,F2,r1,r2,r3⟩:=h
  exact⟨F1,F2,ihx hs.1 r1,ihy hs.2 r2,r3⟩
 |cl o t x=>intro s F hs h;exact Ya.mono (Lf:=Lf) (tv:=.cl o t x) h hm
 |dead n=>intro s F hs h;trivial
 |rw o e xs i v=>intro s F hs h;cases hs
 |_=>intro s F hs h;obtain⟨u,h1,h2⟩:=h;exact⟨u,h1,hl _ _ hs h2⟩
def TV.Yb4:TV→Bool
 |.pr a b=>a.Yb4&&b.Yb4
 |.dead _=>true
 |.op v=>v.Yb4
 |v=>v.shut
theorem TV.Ysp:∀ {v:TV},v.shut=true→v.Yb4=true:=by
 intro v
 induction v with
 |pr a b iha ihb=>intro h;simp only[TV.shut,jC] at h;simp only[TV.Yb4,iha h.1,ihb h.2];rfl
 |op v ih=>intro h;exact ih h
 |_=>intro h;first | rfl | exact h
theorem Ya.Yb4 (hm:Ye M' M) (hno:∀ v u,¬ Lf (.op v) u) (hl:∀ v u,v.shut=true→Lf v u→Lf' v u):∀ {tv:TV} {s:Src} {F:Yd},tv.Yb4=true→Ya w M Lf tv s F→Ya w M' Lf' tv s F:=by
 intro tv
 induction tv with
 |pr x y ihx ihy=>
  intro s F hs h;simp only[TV.Yb4,jC] at hs;obtain⟨F1,F2,r1,r2,r3⟩:=h
  exact⟨F1,F2,ihx hs.1 r1,ihy hs.2 r2,r3⟩
 |dead n=>intro s F hs h;trivial
 |op v=>intro s F hs h;obtain⟨u,h1,h2⟩:=h;exact absurd h2 (hno v u)
 |_=>intro s F hs h;exact Ya.shut hm hl (tv:=_) hs h
theorem Rep.noSh:∀ {t:Ty} {o:Ow} {x:t.El} {s:Src} {F:Yd},nsh o t=true→Rep w M t o x s F→Rep w M' t o x s F:=by
 intro t
 induction t with
 |int k=>intro o x s F _ h;exact h
 |bool=>intro o x s F _ h;exact h
 |str=>intro o x s F _ h;exact h
 |unit=>intro o x s F _ h;exact h
 |pair t u iht ihu=>
  intro o x s F ho h;obtain⟨F1,F2,r1,r2,r3⟩:=h
  have h2:nsh o t=true∧nsh o u=true:=by cases o<;>simp_all [nsh,Ty.pure,Ty.Ye7]
  exact⟨F1,F2,iht h2.1 r1,ihu h2.2 r2,r3⟩
 |sl e ih=>
  intro o x s F ho h;obtain⟨A,c,h1,h2,h3⟩:=h;refine⟨A,c,h1,h2,?_⟩
  cases o with
  |sh=>cases ho
  |top=>
   intro hc;obtain⟨b,off,Fs,e1,e2,e3,e4,e5⟩:=h3 hc
   exact⟨b,off,Fs,e1,e2,e3,fun i hi=>⟨ih (o:=.sh) ho (e4 i hi).1,(e4 i hi).2⟩,e5⟩
  |deep=>
   intro hc;obtain⟨b,off,Fs,e1,e2,e3,e4,e5⟩:=h3 hc
   exact⟨b,off,Fs,e1,e2,e3,fun i hi=>⟨ih (o:=.deep) rfl (e4 i hi).1,(e4 i hi).2⟩,e5⟩
 |arr n e ih=>
  intro o x s F ho h;obtain⟨h1,Fs,h2,h3⟩:=h
  have h4:nsh o e=true:=by cases o<;>simp_all [nsh,Ty.pure,Ty.Ye7]
  exact⟨h1,Fs,fun i hi=>⟨ih h4 (h2 i hi).1,(h2 i hi).2⟩,h3⟩
theorem Ya.noSh (hno:∀ v u,¬ Lf (.op v) u):∀ {tv:TV} {s:Src} {F:Yd},tv.noSh=true→Ya w M Lf tv s F→Ya w M' Lf' tv s F:=by
 intro tv
 induction tv with
 |pr x y ihx ihy=>
  intro s F hs h;simp only[TV.noSh,jC] at hs;obtain⟨F1,F2,r1,r2,r3⟩:=h
  exact⟨F1,F2,ihx hs.1 r1,ihy hs.2 r2,r3⟩
 |cl o t x=>intro s F hs h;exact Rep.noSh hs h
 |op v=>intro s F hs h;obtain⟨u,_,h2⟩:=h;exact(hno _ _ h2).elim
 |dead n=>intro s F hs h;trivial
 |_=>intro s F hs;cases hs
structure Parts (w:World) (M:Yd) (Lf:TV→Value→Prop) (c c1 c2:TV):Prop where
 rep:∀ {s F},Ya w M Lf c s F→∃ F1 F2,Ya w M Lf c1 s F1∧Ya w M Lf c2 (s.sh c1.size) F2∧Ye F1 F∧Ye F2 F∧Dis F1 F2
 size:c.size=c1.size+c2.size
 lay:c.lay=.pair c1.lay c2.lay
 nav1:∀ s q,nav w c s (.f1::q)=nav w c1 s q
 nav2:∀ s q,nav w c s (.f2::q)=nav w c2 (s.sh c1.size) q
 get1:∀ q,c.get (.f1::q)=c1.get q
 get2:∀ q,c.get (.f2::q)=c2.get q
theorem Parts.gr1 (h:Parts w M Lf c c1 c2) (q:Path):c.gr (.f1::q)=c1.gr q:=by unfold TV.gr;rw[h.get1]
theorem Parts.gr2 (h:Parts w M Lf c c1 c2) (q:Path):c.gr (.f2::q)=c2.gr q:=by unfold TV.gr;rw[h.get2]
theorem Yjm (h1:c.fst=some c1) (h2:c.snd=some c2):Parts w M Lf c c1 c2:=by
 cases c with
 |pr x y=>cases h1;cases h2;exact⟨fun h=>h,rfl,rfl,fun _ _=>rfl,fun _ _=>rfl,fun _=>rfl,fun _=>rfl⟩
 |cl o t z=>cases t<;>cases h1;cases h2;exact⟨fun h=>h,rfl,rfl,fun _ _=>rfl,fun _ _=>rfl,fun _=>rfl,fun _=>rfl⟩
 |_=>cases h1
theorem Yf5 (h:isRow c=true):∃ o e,∃ xs:List e.El,c=.cl o (.sl e) xs∧o≠.sh:=by
 cases c with
 |cl o t x=>cases t<;>simp only[isRow] at h<;>first | cases h | (refine⟨o,_,x,rfl,?_⟩;rintro rfl;cases h)
 |_=>cases h
theorem Path.Ylt:∀ {p q:Path},Path.eqf p q=true→p=q
 |[],[],_=>rfl
 |.f1::p,.f1::q,h=>by rw[Path.Ylt (p:=p) (q:=q) h]
 |.f2::p,.f2::q,h=>by rw[Path.Ylt (p:=p) (q:=q) h]
 |[],_::_,h=>by cases h
 |.f1::_,[],h=>by cases h
 |.f2::_,[],h=>by cases h
 |.el _::_,[],h=>by cases h
 |.f1::_,.f2::_,h=>by cases h
 |.f1::_,.el _::_,h=>by cases h
 |.f2::_,.f1::_,h=>by cases h
 |.f2::_,.el _::_,h=>by cases h
 |.el _::_,.f1::_,h=>by cases h
 |.el _::_,.f2::_,h=>by cases h
 |.el _::_,.el _::_,h=>by cases h
theorem Yqj:∀ {c:TV} {s:Src} {F:Yd},c.Ygc=true→Ya w M Lf c s F→Ya w M Lf c s noB:=by
 intro c
 induction c with
 |cl o t x=>
  intro s F h hr;simp only[TV.Ygc] at h
  cases o with
  |sh=>exact Rep.Yh6 hr (fun _ _=>rfl)
  |top=>exact Rep.pure h hr (fun _ _=>rfl)
  |deep=>exact Rep.pure h hr (fun _ _=>rfl)
 |pr x y ihx ihy=>
  intro s F h hr;simp only[TV.Ygc,jC] at h;obtain⟨F1,F2,r1,r2,_⟩:=hr
  exact⟨noB,noB,ihx h.1 r1,ihy h.2 r2,fun _ x=>x,fun _ x=>x,fun _ x=>x.elim⟩
 |_=>intro s F h;cases h
theorem Yr5:∀ {c:TV} {s:Src},c.Ygc=true→Ya w M Lf c s noB→Ya w M Lf' c s noB:=by
 intro c
 induction c with
 |cl o t x=>intro s hno hc;exact hc
 |pr x y ihx ihy=>
  intro s hno hc;simp only[TV.Ygc,jC] at hno;obtain⟨F1,F2,r1,r2,r3,r4,r5⟩:=hc
  exact⟨noB,noB,ihx hno.1 (r1.sub r3),ihy hno.2 (r2.sub r4),fun _ x=>x,fun _ x=>x,fun _ x=>x.elim⟩
 |_=>intro s hno;cases hno
section
variable {Lf:TV→Value→Prop}
theorem Yku (hR:S.root r=some R):∀ (v:TV) {p:Path} {c x:TV} {s':Src} {k:Nat} {F:Yd},Ycv r p v c=some x→nav w R.tv (C.L r) p=some s'→R.tv.get p=some c→
  Ya w M Lf c s' F→Ya w M (Yi w M C.L S.root) v (.reg cells k) noB→Ya w M (fun v u=>Lf v u∨Yi w M C.L S.root v u) x (.reg cells k) F∧x.size=v.size∧c.size=v.size∧(∀ u,x≠.op u):=by
 intro v
 induction v with
 |seg r' q=>
  intro p c x s' k F h hn hg hc hv;simp only[Ycv] at h
  split at h
  ·rename_i hh
   simp only[jC,Nat.beq_eq] at hh;obtain⟨rfl,hq,hrow⟩:=hh;have:=Path.Ylt hq;subst this;cases h;obtain⟨o,e,xs,rfl,ho⟩:=Yf5 hrow;obtain⟨u,hu,R',s1,o1,e1,xs1,k1,k2,k3,k4,_⟩:=hv;rw[hR] at k1;cases k1;rw[hn] at k2;cases k2
   refine⟨Rep.mv (t:=.sl e) hc (fun i hi=>?_),rfl,rfl,by simp⟩
   have:i=0:=by simp[Ty.size] at hi;exact hi
   subst this;rw[hu,k4]
  ·cases h
 |cl o t y=>
  intro p c x s' k F h hn hg hc hv;simp only[Ycv] at h
  split at h
  ·have hl:c.lay=t.lay:=by assumption
   cases h
   exact⟨Rep.sub hv (fun _ h=>h.elim),rfl,by rw[←TV.lay_size,hl,Ty.lay_size];rfl,by simp⟩
  ·cases h
 |pr a b iha ihb=>
  intro p c x s' k F h hn hg hc hv;simp only[Ycv] at h
  split at h
  ·rename_i c1 c2 hc1 hc2
   split at h
   ·rename_i x1 x2 hx1 hx2
    cases h;have pt:=Yjm (w:=w) (M:=M) (Lf:=Lf) hc1 hc2;obtain⟨F1,F2,r1,r2,b1,b2,d⟩:=pt.rep hc;obtain⟨G1,G2,v1,v2,g1,g2,_⟩:=hv;have n1:=Y4 p [.f1] hn hg;have n2:=Y4 p [.f2] hn hg;rw[pt.nav1,pt.get1,Yf,TV.get_nil] at n1;rw[pt.nav2,pt.get2,Yf,TV.get_nil] at n2;obtain⟨q1,q2,q3,q4⟩:=iha hx1 n1.1 n1.2 r1 (v1.sub g1);obtain⟨q5,q6,q7,q8⟩:=ihb hx2 n2.1 n2.2 r2 (v2.sub g2)
    refine⟨Yeq ⟨F1,F2,q1,by rw[q2];exact q5,b1,b2,d⟩,?_,by rw[pt.size,q3,q7];rfl,fun u e=>?_⟩
    ·have:(Yal x1 x2).size=x1.size+x2.size:=by rw[←TV.lay_size,Yep,Lay.size,TV.lay_size,TV.lay_size]
     rw[this,q2,q6];rfl
    ·rcases Y2 x1 x2 with e' | ⟨_,_,_,_,_,_,_,_,_,e',_⟩<;>rw[e'] at e<;>cases e
   ·cases h
  ·cases h
 |_=>intro p c x s' k F h;simp[Ycv] at h
end
theorem Yut (q t:Path) (i j:Nat):Path.far (q++[.el i]) (q++.el j::t) = !Path.flat t:=by
 induction q with
 |nil=>cases t<;>rfl
 |cons a q ih=>cases a<;>simp[Path.far,ih]
theorem Yu6 (q t:Path) (i j:Nat):Path.pre (q++[.el i]) (q++.el j::t)=true:=by
 induction q with
 |nil=>cases t<;>rfl
 |cons a q ih=>cases a<;>simp[Path.pre,ih]
structure Yfg (w w':World) (c n:TV) (s':Src) (r:Nat) (p:Path) (ks:Ks):Prop where
 l:∀ t b off,¬ (ddK ks).l r (p++t)→nav w c s' t=some (.mem b off)→nav w' n s' t=some (.mem b off)
 s:∀ t s1,¬ (ddK ks).s r (p++t)→nav w c s' t=some s1→∀ o e,∀ xs:List e.El,c.gr t=some (.cl o (.sl e) xs)→
  nav w' n s' t=some s1∧s1.cell w' 0=s1.cell w 0∧∃ o',∃ xs':List e.El,n.gr t=some (.cl o' (.sl e) xs')∧xs'.length=xs.length
theorem Yni {e:Ty} {o o':Ow} {xs ys:List e.El} {s':Src} {r:Nat} {p:Path} (hc:s'.cell w' 0=s'.cell w 0) (hl:ys.length=xs.length):Yfg w w' (.cl o (.sl e) xs) (.cl o' (.sl e) ys) s' r p [(r,some (p++[.el 0]))]:=by
 refine⟨fun t b off hd hn=>?_,fun t s1 hd hn oo ee zs hg=>?_⟩
 ·cases t with
  |nil=>rw[Yf] at hn ⊢;exact hn
  |cons a t=>
   cases a with
   |el i=>
    have hf:Path.flat t=true:=by
     cases hh:Path.flat t with
     |true=>rfl
     |false=>exact absurd ⟨_,List.mem_singleton.2 rfl,rfl,by show Path.far _ _=true;rw[Yut,hh];rfl⟩ hd
    simp only[nav] at hn ⊢;rw[hl,hc]
    split at hn
    ·rename_i hi
     rw[jL hi]
     split at hn
     ·exact Yl5 t hf (by rfl) hn
     ·cases hn
    ·cases hn
   |f1=>simp[nav] at hn
   |f2=>simp[nav] at hn
 ·cases t with
  |nil=>
   rw[Yf] at hn;cases hn;rw[Yhq,TV.get_nil] at hg;cases hg
   exact⟨Yf _ _ _,hc,o',ys,Yee (TV.get_nil _),hl⟩
  |cons a t=>
   cases a with
   |el i=>exact absurd ⟨_,List.mem_singleton.2 rfl,rfl,Yu6 p t 0 i⟩ hd
   |f1=>simp[nav] at hn
   |f2=>simp[nav] at hn
theorem Yfg.same (hr:Ya w M Lf c s' noB) (g:Goes w w' M M' noB) (hc:∀ i,i<c.size→s'.cell w' i=s'.cell w i):Yfg w w' c c s' r p ks:=
 ⟨fun t b off _ hn=>(Ybk t hr g hc hn).1,fun t s1 _ hn o e xs hg=>by
  obtain⟨n1,n2⟩:=Ybk t hr g hc hn
  exact⟨n1,n2 o e xs hg,o,xs,hg,rfl⟩⟩
theorem Yfg.mono (h:Yfg w w' c n s' r p ks) (hs:∀ k∈ks,k∈ks'):Yfg w w' c n s' r p ks':=
 ⟨fun t b off hd=>h.l t b off (fun⟨k,hk,e⟩=>hd ⟨k,hs k hk,e⟩),fun t s1 hd=>h.s t s1 (fun⟨k,hk,e⟩=>hd ⟨k,hs k hk,e⟩)⟩
theorem Yfg.Yal (pt:Parts w M Lf c c1 c2) (hz:n1.size=c1.size) (h1:Yfg w w' c1 n1 s' r (p++[.f1]) ks) (h2:Yfg w w' c2 n2 (s'.sh c1.size) r (p++[.f2]) ks)
  (hlay:(Yal n1 n2).lay=c.lay) (hcell:True):Yfg w w' c (Yal n1 n2) s' r p ks:=by
 have hnil:∀ o e (xs:List e.El),c.row≠.cl o (.sl e) xs:=by
  intro o e xs e';have:=pt.lay
  cases c with
  |rw o1 e1 xs1 i1 v1=>simp[TV.lay] at this
  |cl o1 t1 x1=>rw[show TV.cl o1 t1 x1=_ from e'] at this;simp[TV.lay,Ty.lay] at this
  |_=>cases e'
 have hel:∀ i t s,nav w c s (.el i::t)=none:=by
  intro i t s;have hl:=pt.lay
  cases c with
  |pr x y=>rfl
  |cl o t' x=>cases t'<;>first | rfl | (simp[TV.lay,Ty.lay] at hl)
  |rw o e xs i v=>simp[TV.lay] at hl
  |_=>rfl
 refine⟨fun t b off hd hn=>?_,fun t s1 hd hn o e xs hg=>?_⟩
 ·cases t with
  |nil=>rw[Yf] at hn ⊢;exact hn
  |cons a t=>
   cases a with
   |f1=>
    rw[Ydp];rw[pt.nav1] at hn
    exact h1.l t b off (by rw[kO];exact hd) hn
   |f2=>
    rw[Ydq,hz];rw[pt.nav2] at hn
    exact h2.l t b off (by rw[kO];exact hd) hn
   |el i=>rw[hel] at hn;cases hn
 ·cases t with
  |nil=>rw[Yct] at hg;exact absurd (jN hg) (hnil o e xs)
  |cons a t=>
   cases a with
   |f1=>
    rw[Ydp];rw[pt.nav1] at hn;rw[pt.gr1] at hg
    obtain⟨k1,k2,o',xs',k3,k4⟩:=h1.s t s1 (by rw[kO];exact hd) hn o e xs hg
    obtain⟨o'',k5⟩:=Yi4 (b:=n2) k3
    exact⟨k1,k2,o'',xs',k5,k4⟩
   |f2=>
    rw[Ydq,hz];rw[pt.nav2] at hn;rw[pt.gr2] at hg
    obtain⟨k1,k2,o',xs',k3,k4⟩:=h2.s t s1 (by rw[kO];exact hd) hn o e xs hg
    obtain⟨o'',k5⟩:=Yi5 (a:=n1) k3
    exact⟨k1,k2,o'',xs',k5,k4⟩
   |el i=>rw[hel] at hn;cases hn
theorem Ykl {e:Ty} {o:Ow} {xs:List e.El} {s':Src} {r:Nat} {p:Path}:Yfg w w' (.cl o (.sl e) xs) (.dead 1) s' r p [(r,some p)]:=by
 refine⟨fun t b off hd hn=>?_,fun t s1 hd=>absurd ⟨_,List.mem_singleton.2 rfl,rfl,Path.Yie p t⟩ hd⟩
 cases t with
 |nil=>rw[Yf] at hn ⊢;exact hn
 |cons a t=>
  cases a with
  |el i=>exact absurd ⟨_,List.mem_singleton.2 rfl,rfl,by show Path.far _ _=true;rw[Path.Yh9];rfl⟩ hd
  |f1=>simp[nav] at hn
  |f2=>simp[nav] at hn
theorem Ypx (hR:S.root r=some R) (g:Goes w w' M M'' noB):∀ (v:TV) {p:Path} {c x n o:TV} {s':Src} {k:Nat} {F Fo:Yd},
  Ycv r p v c=some x→Yc1 v c o=some n→nav w R.tv (C.L r) p=some s'→R.tv.get p=some c→
  Ya w M Lf c s' F→Ya w M (Yi w M C.L S.root) v (.reg cells k) noB→Ya w' M'' Lf'' o (.reg cells k) Fo→(∀ i,i<c.size→s'.cell w' i=s'.cell w i)→
  Ya w' M'' Lf'' n s' Fo∧n.size=c.size∧o.size=v.size∧c.size=v.size∧n.lay=c.lay∧Yfg w w' c n s' r p (Yhe v++Yfb v o):=by
 intro v
 induction v with
 |seg r' q=>
  intro p c x n o s' k F Fo h hb hn hg hc hv ho hs;simp only[Ycv] at h
  split at h
  ·rename_i hh
   simp only[jC,Nat.beq_eq] at hh;obtain⟨rfl,hq,hrow⟩:=hh;have:=Path.Ylt hq;subst this;cases h;simp only[Yc1] at hb
   split at hb
   ·rename_i o1 e1 xs o2 e2 ys
    split at hb
    ·have he:e2=e1:=by assumption
     subst he;cases hb;obtain⟨u,hu,R',s1,o1',e1',xs1,k1,k2,k3,k4,_⟩:=hv;rw[hR] at k1;cases k1;rw[hn] at k2;cases k2
     have hcell:s'.cell w' 0=some u:=by rw[hs 0 (by simp[TV.size,Ty.size]),k4]
     have hlen:ys.length=xs.length:=by
      obtain⟨A,c,q1,_⟩:=(hc:Rep _ _ (.sl _) _ _ _ _);obtain⟨A',c',q1',_⟩:=(ho:Rep _ _ (.sl _) _ _ _ _);rw[k4] at q1;have hu':(Src.reg cells k).cell w' 0=some u:=hu;rw[hu'] at q1';rw[q1] at q1';have:=jN q1'
      injection this with _ h _
      exact h.symm
     refine⟨Rep.mv (t:=.sl _) ho (fun i hi=>?_),rfl,rfl,rfl,rfl,?_⟩
     ·have:i=0:=by simp[Ty.size] at hi;exact hi
      subst this;rw[hcell];exact hu.symm
     ·exact Yni (by rw[hcell,k4]) hlen
    ·cases hb
   ·cases hb
    exact⟨trivial,rfl,rfl,rfl,rfl,Ykl.mono (fun k hk=>kB _ hk)⟩
   ·cases hb
  ·cases h
 |cl oo t y=>
  intro p c x n o s' k F Fo h hb hn hg hc hv ho hs;simp only[Ycv] at h
  split at h
  ·have hno:c.Ygc=true:=by assumption
   have hl:c.lay=t.lay:=by assumption
   simp only[Yc1] at hb
   split at hb
   ·have hol:o.lay=c.lay:=by assumption
    cases hb;have hc0:=Yqj hno hc
    have hcs:c.size=t.size:=by rw[←TV.lay_size,hl,Ty.lay_size]
    have hlf:Ya w M Lf'' c s' noB:=Yr5 hno hc0
    refine⟨(hlf.go g hs (fun _ _ h=>h)).sub (fun _ h=>h.elim),rfl,by rw[←TV.lay_size,hol,TV.lay_size,hcs];rfl,hcs,rfl,Yfg.same hc0 g hs⟩
   ·cases hb
  ·cases h
 |pr a b iha ihb=>
  intro p c x n o s' k F Fo h hb hn hg hc hv ho hs;simp only[Ycv] at h
  split at h
  ·rename_i c1 c2 hc1 hc2
   split at h
   ·rename_i x1 x2 hx1 hx2
    simp only[Yc1,hc1,hc2] at hb
    split at hb
    ·rename_i c1' c2' o1 o2 e1 e2 ho1 ho2
     cases e1;cases e2
     split at hb
     ·rename_i n1 n2 hn1 hn2
      cases hb;have pt:=Yjm (w:=w) (M:=M) (Lf:=Lf) hc1 hc2;have po:=Yjm (w:=w') (M:=M'') (Lf:=Lf'') ho1 ho2;obtain⟨F1,F2,r1,r2,b1,b2,d⟩:=pt.rep hc;obtain⟨G1,G2,v1,v2,g1,g2,_⟩:=hv;obtain⟨H1,H2,s1,s2,t1,t2,td⟩:=po.rep ho;have na1:=Y4 p [.f1] hn hg;have na2:=Y4 p [.f2] hn hg;rw[pt.nav1,pt.get1,Yf,TV.get_nil] at na1;rw[pt.nav2,pt.get2,Yf,TV.get_nil] at na2
      obtain⟨q1,q2,q3,q4,q5,q6⟩:=iha hx1 hn1 na1.1 na1.2 r1 (v1.sub g1) s1 (fun i hi=>hs i (by rw[pt.size];omega))
      obtain⟨q7,q8,q9,q10,q11,q12⟩:=ihb hx2 hn2 na2.1 na2.2 r2 (v2.sub g2) (by have:=s2;rw[q3] at this;exact this) (fun i hi=>by rw[Src.Yk,Src.Yk];exact hs _ (by rw[pt.size];omega))
      have hlay:(Yal n1 n2).lay=c.lay:=by rw[Yep,pt.lay,q5,q11]
      refine⟨Yeq ⟨H1,H2,q1,by rw[q2];exact q7,t1,t2,td⟩,TV.Yak hlay,by rw[po.size,q3,q9];rfl,by rw[pt.size,q4,q10];rfl,hlay,?_⟩
      have hdd:Yfb (.pr a b) o=Yfb a o1++Yfb b o2:=by simp only[Yfb,ho1,ho2]
      rw[hdd];refine Yfg.Yal pt q2 (q6.mono (fun k hk=>?_)) (q12.mono (fun k hk=>?_)) hlay trivial
      ·rcases List.mem_append.1 hk with h | h
       ·exact jW _ (jW _ h)
       ·exact kB _ (jW _ h)
      ·rcases List.mem_append.1 hk with h | h
       ·exact jW _ (kB _ h)
       ·exact kB _ (kB _ h)
     ·cases hb
    ·cases hb
   ·cases h
  ·cases h
 |_=>intro p c x n o s' k F Fo h;simp[Ycv] at h
end
section
variable {a:Act}
variable {o:Oper}
def Ybg (ρ:Yc):Nat→List Md→List TV→Prop
 |_,[],[]=>True
 |i,.mu::ms,o::os=>(∃ R,ρ i=some R∧o=R.out)∧Ybg ρ (i+1) ms os
 |i,.sh::ms,os=>Ybg ρ (i+1) ms os
 |i,.mv::ms,os=>Ybg ρ (i+1) ms os
 |_,_,_=>False
def Ygv (w:World) (M:Yd) (L:Nat→Src) (ρ:Yc):TV→Value→Yd→Prop
 |.op tv,u,F=>∃ b off F',u=.pointer (some ⟨b,off,none⟩)∧F b∧¬ F' b∧Ye F' F∧Room w b off tv.size∧Ya w M (Yi w M L ρ) tv (.mem b off) F'
 |c,u,F=>Ya w M (Yi w M L ρ) c (.reg u.cells.toList 0) F∧u.cells.size=c.size∧(c.isAgg=true↔∃ cs,u=.agg cs)
def Ydl (w:World) (M:Yd) (L:Nat→Src) (ρ:Yc):List TV→List Value→Yd→Prop
 |[],[],_=>True
 |c::cs,u::us,F=>∃ F1 F2,Ygv w M L ρ c u F1∧Ydl w M L ρ cs us F2∧Ye F1 F∧Ye F2 F∧Dis F1 F2
 |_,_,_=>False
def Yke (w:World) (M:Yd) (L:Nat→Src) (ρ:Yc):List TV→Value→Yd→Prop
 |[],v,_=>v=.tuple #[]
 |[c],v,F=>Ygv w M L ρ c v F
 |cs,v,F=>∃ vs:Array Value,v=.tuple vs∧Ydl w M L ρ cs vs.toList F
def Yhf (Z:W0) (ms:List Md) (out:Out) (v:Value) (w':World):Prop:=∃ C G ρ Fr,Str Z (Yi w' (Mt Z C ρ G) C.L ρ) C G ρ w'∧Ybg ρ 0 ms out.outs∧Ye Fr G∧
 Yke w' (Mt Z C ρ G) C.L ρ out.res v Fr∧out.res.all TV.shut=true∧out.outs.all TV.Yb4=true
def Ybb (P:Program) (f:FuncId):Prop:=∃ fn,P.funcs[f]? = some fn∧(fn.name == "runtime.NumGoroutine")=false∧fn.body.isNone=false
structure Ycz (P:Program) (f:FuncId) (ms:List Md) (cs:List TV) (out:Out):Prop where
 there:Ybb P f
 calls:∀ (Z:W0) (C:Cx) (us:Array Value),us.size=cs.length→Z.nt=us.size→(∀ i,us.size≤i→Z.P i=none)→(∀ i,i<us.size→Z.P i=some (C.L i))→
  Inv Z (Yh cs) C ⟨us,[]⟩ Z.w→Calls P f us Z.w fun e w'=>∃ v,e=.returned v∧Yhf Z ms out v w'
theorem Ye1:∀ (cs:List TV) (j i:Nat),lk i (Ydf j cs)=if j≤i then(cs[i-j]?).map (fun c=>match c with | .op _=>.loc i [] | v=>v.mir i []) else none:=by
 intro cs
 induction cs with
 |nil=>intro j i;split<;>simp[Ydf,lk]
 |cons c cs ih=>
  intro j i
  have step:lk i (Ydf j (c::cs))=if i=j then some (match c with | .op _=>.loc i [] | v=>v.mir i []) else lk i (Ydf (j+1) cs):=by
   by_cases e:i=j
   ·subst e;rw[jL rfl];cases c<;>exact Yl _ _ _
   ·rw[jM e];cases c<;>exact Yv e _ _
  rw[step,ih]
  by_cases e:i=j
  ·subst e;rw[jL rfl,jL (jB _),Nat.sub_self];rfl
  ·rw[jM e]
   by_cases h:j≤i
   ·rw[jL h,jL (by omega),show i-j=(i-(j+1))+1 by omega,List.getElem?_cons_succ]
   ·rw[jM h,jM (by omega)]
theorem Ykv:∀ (cs:List TV) (j i:Nat),lk i (Ydy j cs)=if j≤i then((cs[i-j]?).bind Y8).map some else none:=by
 intro cs
 induction cs with
 |nil=>intro j i;split<;>simp[Ydy,lk]
 |cons c cs ih=>
  intro j i;simp only[Ydy]
  by_cases e:i=j
  ·subst e
   rw[jL (jB _),Nat.sub_self]
   cases hc:Y8 c with
   |some rt=>simp only;rw[Yl];simp[hc]
   |none=>simp only;rw[ih,jM (by omega)];simp[hc]
  ·have:lk i (match Y8 c with | some rt=>(j,some rt)::Ydy (j+1) cs | none=>Ydy (j+1) cs)=lk i (Ydy (j+1) cs):=by
    cases Y8 c with
    |some rt=>exact Yv e _ _
    |none=>rfl
   refine Eq.trans this ?_;rw[ih]
   by_cases h:j≤i
   ·rw[jL h,jL (by omega),show i-j=(i-(j+1))+1 by omega,List.getElem?_cons_succ]
   ·rw[jM h,jM (by omega)]
theorem Ya5 (cs:List TV) (r:Nat):(Yh cs).root r=(cs[r]?).bind Y8:=by
 unfold St.root Yh;simp only[Ykv,kE,if_true,Nat.sub_zero]
 cases (cs[r]?).bind Y8<;>rfl
theorem Yks (cs:List TV) (i:Nat):lk i (Yh cs).tm=(cs[i]?).map (fun c=>match c with | .op _=>.loc i [] | v=>v.mir i []):=by
 unfold Yh;simp only[Ye1,kE,if_true,Nat.sub_zero]
theorem Yac (h:Y8 c=some R) (hc:∀ v,c≠.op v):R=⟨.reg,c⟩:=by
 cases c with
 |cl o t x=>simp only[Y8] at h;split at h<;>first | (cases h;rfl) | cases h
 |op v=>exact absurd rfl (hc v)
 |pr a b=>cases h;rfl
 |_=>cases h
theorem Yd3 (h:Y8 c=none) (hv:VOk w M L ρ c u) (r:Nat):VOk w M L ρ (c.mir r []) u:=by
 cases c with
 |cl o t x=>
  have hv:=(hv:Yb _ _ _ _ _ _)
  have hps:t.pure=true∨o=.sh:=by
   simp only[Y8] at h
   split at h
   ·exact .inl (by assumption)
   ·exact .inr rfl
   ·cases h
  have hsh:VOk w M L ρ (.cl .sh t x) u:=by
   have h1:Yb w M L ρ (.cl .sh t x) u:=⟨by
    rcases hps with hp | rfl
    ·exact Rep.pure hp hv.1 (fun _ _=>rfl)
    ·exact hv.1,hv.2.1,hv.2.2⟩
   exact h1
  have hmir:(TV.cl o t x).mir r []=.cl .sh t x:=by
   simp only[TV.mir];rcases hps with hp | rfl
   ·cases t with
    |pair a b=>simp only[Yap,hp]
    |sl e=>simp[Ty.pure] at hp
    |arr n e=>simp only[Ty.pure] at hp;simp only[Yap,hp]
    |_=>rfl
   ·cases t with
    |pair a b=>simp only[Yap];split<;>rfl
    |sl e=>rfl
    |arr n e=>simp only[Yap];split<;>rfl
    |_=>rfl
  rw[hmir];exact hsh
 |pr a b=>cases h
 |op v=>cases h
 |tup l=>exact hv
 |gd t b v=>exact hv.elim
 |rw o e xs i v=>
  have hv:Yb w M L ρ (.rw o e xs i v) u:=hv
  obtain⟨⟨_,_,_,b,_,_,_,_,Fs,h6,_⟩,_⟩:=hv;exact h6.elim
 |kb b=>exact hv.elim
 |dead n=>exact hv.elim
 |_=>exact hv
structure Yuk (w:World) (Mz X:Yd) (Kz:Nat→Nat→Prop) (cs:List TV) (us:Array Value) (k:Nat) (sk:Src) (Fo:Yd):Prop where
 own:∀ b,Fo b→Mz b∧b<w.heap.size∧(∀ i,¬ Kz b i)∧¬ X b
 op:∀ tv,cs[k]? = some (.op tv)→∃ b off,sk=.mem b off∧us.getD k undef=.pointer (some ⟨b,off,none⟩)∧¬ Fo b∧b<w.heap.size∧Room w b off tv.size∧Mz b∧(∀ i,i<tv.size→¬ Kz b (off+i))∧¬ X b∧
  ∀ M' L ρ,Ye M' (fun b=>Mz b∨X b)→Ya w M' (Yi w M' L ρ) tv sk Fo
 reg:∀ c,cs[k]? = some c→(∀ tv,c≠.op tv)→sk=.reg (us.getD k undef).cells.toList 0∧(us.getD k undef).cells.size=c.size∧(c.isAgg=true↔∃ cs,us.getD k undef=.agg cs)∧c.plain=true∧
  ∀ M' L ρ,Ye M' (fun b=>Mz b∨X b)→Ya w M' (Yi w M' L ρ) c sk Fo
theorem Yin (hlen:us.size=cs.length)
  (plain:∀ i c,i≠k→cs[i]? = some c→(∀ v,c≠.op v)∧∀ M' L ρ,Ye M' (fun b=>Mz b∨X b)→VOk w M' L ρ c (us.getD i undef))
  (Yen:Yuk w Mz X Kz cs us k sk Fo) (hX:∀ b,X b→b<w.heap.size) (hK:∀ b i,Kz b i→b<w.heap.size) :
  Inv ⟨w,Mz,Kz,X,fun i=>if i<us.size then some (if i=k then sk else .reg (us.getD i undef).cells.toList 0) else none,us.size⟩ (Yh cs)
   ⟨fun i=>if i=k then sk else .reg (us.getD i undef).cells.toList 0,fun i=>if i=k then Fo else noB⟩ ⟨us,[]⟩ w:=by
 generalize hZ:(⟨w,Mz,Kz,X,fun i=>if i<us.size then some (if i=k then sk else .reg (us.getD i undef).cells.toList 0) else none,us.size⟩:W0)=Z
 generalize hC:(⟨fun i=>if i=k then sk else .reg (us.getD i undef).cells.toList 0,fun i=>if i=k then Fo else noB⟩:Cx)=C
 have Lk:C.L k=sk:=by rw[←hC];simp
 have Lo:∀ i,i≠k→C.L i=.reg (us.getD i undef).cells.toList 0:=fun i h=>by rw[←hC];simp[h]
 have Fk:C.F k=Fo:=by rw[←hC];simp
 have FoE:∀ i,i≠k→C.F i=noB:=fun i h=>by rw[←hC];simp[h]
 have root:∀ r R,(Yh cs).root r=some R→∃ c,cs[r]? = some c∧Y8 c=some R:=by
  intro r R h;rw[Ya5] at h
  cases hc:cs[r]? with
  |none=>rw[hc] at h;cases h
  |some c=>rw[hc] at h;exact⟨c,rfl,h⟩
 have rootO:∀ r R,r≠k→(Yh cs).root r=some R→∃ c,cs[r]? = some c∧R=⟨.reg,c⟩:=by
  intro r R h hR;obtain⟨c,h1,h2⟩:=root r R hR;exact⟨c,h1,Yac h2 (plain r c h h1).1⟩
 have totO:∀ r R,r≠k→(Yh cs).root r=some R→∀ b,¬ Tot C r R b:=by
  intro r R h hR b hb;obtain⟨c,h1,rfl⟩:=rootO r R h hR;rcases hb with hb | ⟨hk,_⟩
  ·rw[FoE r h] at hb;exact hb
  ·cases hk
 have totK:∀ R,(Yh cs).root k=some R→∀ b,Tot C k R b→Mz b∧b<w.heap.size:=by
  intro R hR b hb;rcases hb with hb | ⟨hk,off,e⟩
  ·rw[Fk] at hb;exact⟨(Yen.own b hb).1,(Yen.own b hb).2.1⟩
  ·obtain⟨c,h1,h2⟩:=root k R hR
   cases c with
   |op tv=>
    obtain⟨b',off',e1,e2,e3,e4,e5,e6,_⟩:=Yen.op tv h1
    rw[Lk,e1] at e;cases e;exact⟨e6,e4⟩
   |cl o t x=>have:=Yac h2 (fun v h=>by cases h);rw[this] at hk;cases hk
   |pr x y=>have:=Yac h2 (fun v h=>by cases h);rw[this] at hk;cases hk
   |_=>cases h2
 have hM:Ye (Mt Z C (Yh cs).root noB) (fun b=>Mz b∨X b):=by
  rintro b (⟨r,R,h1,h2⟩ | h | h)
  ·by_cases e:r=k
   ·subst e;exact .inl (totK R h1 b h2).1
   ·exact absurd h2 (totO r R e h1 b)
  ·exact h.elim
  ·rw[←hZ] at h;exact .inr h
 have hZw:Z.w=w:=by rw[←hZ]
 have hZM:Z.M=Mz:=by rw[←hZ]
 have hZX:Z.X=X:=by rw[←hZ]
 have hZK:Z.K=Kz:=by rw[←hZ]
 have bndF:∀ r R b,(Yh cs).root r=some R→C.F r b→b<w.heap.size∧(∀ i,¬ Z.K b i)∧¬ Z.X b∧(Z.M b∨Z.w.heap.size≤b):=by
  intro r R b hR hb
  by_cases e:r=k
  ·subst e;rw[Fk] at hb
   obtain⟨h1,h2,h3,h4⟩:=Yen.own b hb;rw[hZK,hZX,hZM];exact⟨h2,h3,h4,.inl h1⟩
  ·rw[FoE r e] at hb;exact hb.elim
 refine⟨⟨?_,?_,?_,bndF,fun _ h=>h.elim,?_,fun _ _ _ _ _ h=>h,?_,by rw[hZw];exact jB _,fun b _ _=>by rw[hZw];exact rfl,fun b i _=>by rw[hZw],fun b i j _=>by rw[hZw],?_,?_,by rw[hZw],by rw[hZw],by rw[hZw]⟩,?_,rfl,by rw[←hZ]⟩
 ·intro r R hR
  by_cases e:r=k
  ·subst e
   obtain⟨c,h1,h2⟩:=root r R hR;rw[Lk,Fk]
   cases c with
   |op tv=>cases h2;exact(Yen.op tv h1).choose_spec.choose_spec.2.2.2.2.2.2.2.2 _ _ _ hM
   |cl o t x=>have:=Yac h2 (fun v h=>by cases h);rw[this];exact(Yen.reg _ h1 (fun v h=>by cases h)).2.2.2.2 _ _ _ hM
   |pr x y=>have:=Yac h2 (fun v h=>by cases h);rw[this];exact(Yen.reg _ h1 (fun v h=>by cases h)).2.2.2.2 _ _ _ hM
   |_=>cases h2
  ·obtain⟨c,h1,rfl⟩:=rootO r R e hR
   rw[Lo r e,FoE r e];have hv:=(plain r c e h1).2 _ C.L (Yh cs).root hM
   exact(hv.rep (fun l h=>by subst h;obtain⟨c',h1',h2'⟩:=root r _ hR;rw[h1] at h1';cases h1';cases h2')).1
 ·intro r R hR hk
  by_cases e:r=k
  ·subst e
   obtain⟨c,h1,h2⟩:=root r R hR;rw[Lk]
   cases c with
   |op tv=>cases h2;cases hk
   |cl o t x=>exact⟨_,(Yen.reg _ h1 (fun v h=>by cases h)).1⟩
   |pr x y=>exact⟨_,(Yen.reg _ h1 (fun v h=>by cases h)).1⟩
   |_=>cases h2
  ·exact⟨_,Lo r e⟩
 ·intro r R hR hk
  obtain⟨c,h1,h2⟩:=root r R hR
  by_cases e:r=k
  ·subst e
   cases c with
   |op tv=>
    cases h2;obtain⟨b,off,e1,e2,e3,e4,e5,e6,e7,e8,e9⟩:=Yen.op tv h1
    exact⟨b,off,by rw[Lk];exact e1,by rw[Fk];exact e3,e4,e5,by rw[hZK];exact e7,by rw[hZX];exact e8,by rw[hZM];exact .inl e6⟩
   |cl o t x=>have:=Yac h2 (fun v h=>by cases h);rw[this] at hk;cases hk
   |pr x y=>have:=Yac h2 (fun v h=>by cases h);rw[this] at hk;cases hk
   |_=>cases h2
  ·have:=Yac h2 (plain r c e h1).1;rw[this] at hk;cases hk
 ·intro r r' R R' hne h h' b hb hb'
  by_cases e:r=k
  ·subst e;exact totO r' R' (fun e=>hne e.symm) h' b hb'
  ·exact totO r R e h b hb
 ·intro r R hR
  refine⟨fun s hp=>?_,fun _ hp=>?_⟩
  ·rw[←hZ] at hp
   by_cases hr:r<us.size
   ·have h1:some (if r=k then sk else Src.reg (us.getD r undef).cells.toList 0)=some s:=by rw[←hp];exact(jL hr).symm
    rw[←jN h1,←hC]
   ·have h1:none=some s:=by rw[←hp];exact(jM hr).symm
    cases h1
  ·exfalso
   obtain⟨c,hc,_⟩:=root r R hR
   have hr:r<us.size:=by rw[hlen];exact(List.getElem?_eq_some_iff.1 hc).1
   rw[←hZ] at hp
   have h1:some (if r=k then sk else Src.reg (us.getD r undef).cells.toList 0)=none:=by rw[←hp];exact(jL hr).symm
   cases h1
 ·rw[hZX,hZw];exact hX
 ·rw[hZK,hZw];exact hK
 ·intro i v hl
  rw[Yks] at hl
  cases hc:cs[i]? with
  |none=>rw[hc] at hl;cases hl
  |some c=>
   rw[hc] at hl;simp only[jT,jD] at hl;show Yfv _ _ _ _ _ v (us.getD i undef)
   by_cases ho:∃ tv,c=.op tv
   ·obtain⟨tv,rfl⟩:=ho
    simp only at hl;subst hl
    have e:i=k:=by
     by_cases e:i=k
     ·exact e
     ·exact absurd rfl ((plain i _ e hc).1 tv)
    subst e;obtain⟨b,off,e1,e2,_⟩:=Yen.op tv hc;rw[e2]
    refine Yb.Yah (v:=.loc i []) ⟨⟨.mem,tv⟩,b,off,by rw[Ya5,hc];rfl,by rw[Yf,Lk,e1],rfl⟩
   ·have hne:∀ tv,c≠.op tv:=fun tv h=>ho ⟨tv,h⟩
    have hl:c.mir i []=v:=by cases c<;>first | exact hl | exact absurd rfl (hne _)
    subst hl
    have hval:Ya w (Mt Z C (Yh cs).root noB) (Yi w (Mt Z C (Yh cs).root noB) C.L (Yh cs).root) c (.reg (us.getD i undef).cells.toList 0) (C.F i)∧(us.getD i undef).cells.size=c.size∧(c.isAgg=true↔∃ cs,us.getD i undef=.agg cs)∧c.plain=true∨
      VOk w (Mt Z C (Yh cs).root noB) C.L (Yh cs).root c (us.getD i undef):=by
     by_cases e:i=k
     ·subst e
      obtain⟨k1,k2,k3,k4,k5⟩:=Yen.reg c hc hne;rw[Fk,←k1];exact .inl ⟨k5 _ _ _ hM,k2,k3,k4⟩
     ·exact .inr ((plain i c e hc).2 _ _ _ hM)
    have fromRep:∀ F,Ya w (Mt Z C (Yh cs).root noB) (Yi w (Mt Z C (Yh cs).root noB) C.L (Yh cs).root) c (.reg (us.getD i undef).cells.toList 0) F→(us.getD i undef).cells.size=c.size→(c.isAgg=true↔∃ cs,us.getD i undef=.agg cs)→C.L i=.reg (us.getD i undef).cells.toList 0→
      ∀ R,Y8 c=some R→Yfv w (Mt Z C (Yh cs).root noB) C.L (Yh cs).root ⟨us,[]⟩ (c.mir i []) (us.getD i undef):=by
     intro F h1 h2 h3 hL R hR;have hRR:=Yac hR hne
     have hroot:(Yh cs).root i=some R:=by rw[Ya5,hc];exact hR
     have hrep:=Yf9 hroot c [] (s':=.reg (us.getD i undef).cells.toList 0) h1 (by rw[hRR,Yf,hL]) (by rw[hRR,TV.get_nil]) (fun _ _=>rfl)
     rcases Yf8 h1 i [] with ⟨n,e⟩ | hp
     ·rw[e];trivial
     ·rcases Yib i c [] with e | ⟨n,e⟩
      ·exact(VOk.Yhs hrep (by rw[Yb2];exact h2) (by rw[e];exact h3) hp).tm _
      ·rw[e];trivial
    have hLi:C.L i=.reg (us.getD i undef).cells.toList 0:=by
     by_cases e:i=k
     ·subst e;rw[Lk];exact(Yen.reg c hc hne).1
     ·exact Lo i e
    cases hR:Y8 c with
    |some R=>
     rcases hval with ⟨h1,h2,h3,_⟩ | h
     ·exact fromRep _ h1 h2 h3 hLi R hR
     ·have hnt:∀ l,c≠.tup l:=by rintro l rfl;cases hR
      exact fromRep _ (h.rep hnt).1 (h.rep hnt).2 (h.val hnt).2.2 hLi R hR
    |none=>
     rcases hval with ⟨h1,h2,h3,h4⟩ | h
     ·
      have hnt:∀ l,c≠.tup l:=by rintro l rfl;cases h4
      have hv:VOk w (Mt Z C (Yh cs).root noB) C.L (Yh cs).root c (us.getD i undef):=by
       refine VOk.Yhs ?_ h2 h3 h4
       cases c with
       |cl o t x=>
        simp only[Y8] at hR
        split at hR
        ·rename_i hp;exact Rep.pure hp h1 (fun _ _=>rfl)
        ·exact Rep.Yh6 h1 (fun _ _=>rfl)
        ·cases hR
       |pr x y=>cases hR
       |dead n=>cases h4
       |rw o e xs i v=>cases h4
       |_=>exact h1
      exact(Yd3 hR hv i).tm _
     ·exact(Yd3 hR h i).tm _
end
end Mf
