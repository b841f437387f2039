import Derived.Test.YthaonimonnheeaaGreatMf2
import Derived.Below
import Derived.Calls
import Derived.ChangeSame
import Derived.ChangeShapes
import Derived.DataReads
import Derived.Deep.AppendSrc
import Derived.Deep.Draws
import Derived.Deep.MidRow
import Derived.Deep.Upon
import Derived.KernelRfl
import Derived.Laws.AppendOwn
import Derived.Laws.BytesString
import Derived.Laws.Entries
import Derived.Laws.IdiomCopy
import Derived.Laws.IdiomStrings
import Derived.Laws.Strings
import Derived.Laws.StructEq
import Derived.Laws.Tables
import Derived.Lay
import Derived.Lib.SliceRun
import Derived.Orders
import Derived.Sort.Grow
import Derived.Sort.Row
import GoSem.Core.Region
import GoSem.Core.View
set_option linter.unusedVariables false
set_option linter.unusedSimpArgs false
namespace Mf
open Go
set_option linter.unusedVariables false
set_option linter.unusedSimpArgs false
section
variable {P:Program} {tb:Tb} {g:Gd} {o:Oper}
theorem Ybo {t e:TypeId} {j:TypeInfo} {b off len c:Nat} {k:IntKind} {n:Int} {w:World} (hd:P.underlying t=some (.slice e)) (hj:P.info? e=some j) (h0:0≤n) (hl:n<len) :
  (Instr.indexAt t (.slice (some ⟨b,off,none⟩) len c) (.int k n)).run P w=.ok (.pointer (some ⟨b,off+n.toNat*j.size,none⟩)) w:=by
 simp[Instr.indexAt,asIntOf,run_underlying hd,h0,hl,Y1 hj,Addr.add_mid]
theorem Yd9 {t e:TypeId} {j:TypeInfo} {b off len:Nat} {k:IntKind} {n:Int} {w:World} (hd:P.underlying t=some (.array len e)) (hj:P.info? e=some j) (h0:0≤n) (hl:n<len) :
  (Instr.indexAt t (.pointer (some ⟨b,off,none⟩)) (.int k n)).run P w=.ok (.pointer (some ⟨b,off+n.toNat*j.size,none⟩)) w:=by
 simp[Instr.indexAt,asIntOf,run_underlying hd,h0,hl,Y1 hj,Addr.add_mid,Instr.sureAddr]
theorem Yry {w:World} {o:Ow} {e:Ty} {xs:List e.El} {s:Src} {i b off len c:Nat} (hi:i<xs.length) (hc:s.cell w 0=some (.slice (some ⟨b,off,none⟩) len c)) :
  nav w (.cl o (.sl e) xs) s [.el i]=some (.mem b (off+i*e.size)):=by
 simp only[nav];rw[if_pos hi,hc]
theorem Yk1.at {w:World} {M:Ya} {e:Ty} {sh:Bool} {xs:List e.El} {A:Option Addr} (h:Yk1 w M e sh xs A) {i:Nat} (hi:i<xs.length) :
  ∃ b off,A=some ⟨b,off,none⟩∧(sh=true→¬ M b∧b<w.heap.size)∧∃ F o',Rep w M e o' (xs[i]'hi) (.mem b (off+i*e.size)) F∧(sh=true→o'=.sh):=by
 obtain⟨b,off,h1,h2,h3⟩:=h (by intro h0;subst h0;simp at hi)
 exact⟨b,off,h1,h2,h3 i hi⟩
theorem Ylt {t:TypeId} {x ix:Operand} (ho:o.op=.indexAddr t x ix):PvS P tb g o:=by
 intro Z S C a w ht I hg b v h hb;simp only[pv,ho] at h;replace h:=RD.bind_some h;obtain⟨vx,h1,h⟩:=h;replace h:=RD.bind_some h;obtain⟨vi,h2,h⟩:=h;replace h:=RD.bind_some h;obtain⟨ti,h3,h⟩:=h;have hx:=Yg I hg h1;have hi:=Yg I hg h2;obtain⟨⟨d,hd,hdk,_⟩,_⟩:=ht t ti (Yp h3)
 have ex:∀ u,(Instr.indexAt t (a.eval x) (a.eval ix)).run P w=.ok u w→(execOp a.eval o).run P w=.ok (.value u) w:=by
  intro u hu;simp[execOp,ho,hu]
 cases vi with
 |cl oi tyi n=>
  cases tyi with
  |int k=>
   simp only at h;have e3:=(hi:Yd _ _ _ _ _ _).int;rw[e3] at ex
   cases hid:ti.d with
   |sl ee=>
    rw[hid] at hdk h;simp only at h;obtain⟨rfl,te,j,q1,q2,q3,_⟩:=hdk
    cases vx with
    |seg r p=>
     simp only at h;replace h:=RD.bind_some h;obtain⟨c0,h4,h⟩:=h;obtain⟨R,hR,hget⟩:=Ya2 h4
     cases c0 with
     |rw oc e xs i0 v0=>
      simp only[TV.row] at h
      split at h
      ·rename_i hty _
       rw[q1] at hty;cases hty;cases h;obtain⟨h0,hlt⟩:=Yce.1 (Yae hb);obtain⟨R',s,o1,e',xs',p1,p2,p3,p4,_⟩:=(hx:Yd _ _ _ _ _ _).leaf rfl;rw[hR] at p1;cases p1
       obtain⟨F,_,hr⟩:=focus p (I.str.rep r R hR) p2 hget
       obtain⟨_,_,_,b0,off,c,r1,_⟩:=hr
       have e4:a.eval x=.slice (some ⟨b0,off,none⟩) xs.length c:=by rw[p4] at r1;exact Option.some.inj r1
       rw[e4] at ex;refine⟨_,ex _ (Ybo hd q2 h0 hlt),.inr ?_⟩;refine Yd.Yah (v:=.loc r (p++[.el n.toNat])) ⟨R,b0,off+n.toNat*j.size,hR,?_,rfl⟩
       rw[(Y2 p _ p2 hget).1,Ye0 r1 (by omega:n.toNat<xs.length),q3]
       split<;>exact Yf _ _ _
      ·cases h
     |cl oc tc xs=>
      cases tc with
      |sl e=>
       simp only[TV.row] at h
       split at h
       ·rename_i hty _
        rw[q1] at hty;cases hty;cases h;obtain⟨h0,hlt⟩:=Yce.1 (Yae hb);obtain⟨s,A,c,F,e1,e2,e4,e5,e6⟩:=Yc7 I ((hx:Yd _ _ _ _ _ _).leaf rfl) hR hget;obtain⟨A',c',k1,k2,k3⟩:=Rep.row e6;rw[e2] at k1;cases k1
        obtain⟨b0,off,rfl,_,_⟩:=k3.at (i:=n.toNat) (by omega)
        rw[e4] at ex;refine⟨_,ex _ (Ybo hd q2 h0 hlt),.inr ?_⟩;refine Yd.Yah (v:=.loc r (p++[.el n.toNat])) ⟨R,b0,off+n.toNat*j.size,hR,?_,rfl⟩
        rw[(Y2 p _ e1 hget).1,Yry (by omega) e2,q3]
       ·cases h
      |_=>cases h
     |_=>cases h
    |sub r p lo m=>
     simp only at h;replace h:=RD.bind_some h;obtain⟨c0,h4,h⟩:=h;obtain⟨R,hR,hget⟩:=Ya2 h4
     cases c0 with
     |cl oc tc xs=>
      cases tc with
      |sl e=>
       simp only at h
       split at h
       ·rename_i hty _
        rw[q1] at hty;cases hty;cases h;obtain⟨h0,hlt⟩:=Yce.1 (Yae hb);obtain⟨R',s,o2,e',xs',A,len,c,A',c',p1,p2,p3,p4,p5,p6,p7,p8,p9⟩:=(hx:Yd _ _ _ _ _ _).leaf rfl;rw[hR] at p1;cases p1;rw[Yeb hget] at p3;cases p3
        obtain⟨F,hF,hr⟩:=focus p (I.str.rep r R hR) p2 hget
        obtain⟨A2,c2,k1,k2,k3⟩:=Rep.row (hr:Rep w _ (.sl te) oc xs s F);rw[p4] at k1;cases k1
        obtain⟨b0,off,rfl,_,_⟩:=k3.at (i:=lo+n.toNat) (by omega)
        rw[p5,p9 (by omega)] at ex
        simp only[Option.map_some,Addr.add_mid] at ex;refine⟨_,ex _ (Ybo hd q2 h0 hlt),.inr ?_⟩;refine Yd.Yah (v:=.loc r (p++[.el (lo+n.toNat)])) ⟨R,b0,off+lo*te.size+n.toNat*j.size,hR,?_,rfl⟩
        rw[(Y2 p _ p2 hget).1,Yry (by omega) p4,q3]
        rw[show off+lo*te.size+n.toNat*te.size=off+(lo+n.toNat)*te.size by rw[Nat.add_mul];omega]
       ·cases h
      |_=>cases h
     |_=>cases h
    |cl oc tc xs=>
     cases tc with
     |sl e=>
      simp only at h
      split at h
      ·rename_i hty _
       rw[q1] at hty;cases hty;cases h;obtain⟨h0,hlt⟩:=Yce.1 (Yae hb);obtain⟨A,c,e1,e2,k3⟩:=Yf6 (o:=.sh) I hx rfl
       obtain⟨b0,off,rfl,k4,F,o',k5,k6⟩:=k3.at (i:=n.toNat) (by omega)
       rw[e1] at ex;obtain⟨k7,k8⟩:=k4 rfl;have:=k6 rfl;subst this;refine⟨_,ex _ (Ybo hd q2 h0 hlt),.inr ?_⟩;refine Yd.Yah (v:=.pt te (xs.getD n.toNat te.zero)) ⟨b0,off+n.toNat*j.size,rfl,k7,k8,?_⟩
       rw[Yn _ _ _ (by omega:n.toNat<xs.length),q3]
       exact Rep.Yg4 k5 (fun _ _=>rfl)
      ·cases h
     |_=>cases h
    |_=>cases h
   |arr mm ee=>
    rw[hid] at hdk h;simp only at h;obtain⟨rfl,te,j,q1,q2,q3,_⟩:=hdk
    cases vx with
    |loc r p=>
     simp only at h;replace h:=RD.bind_some h;obtain⟨c0,h4,h⟩:=h;obtain⟨R,hR,hget⟩:=Ya2 h4
     cases c0 with
     |cl oc tc xs=>
      cases tc with
      |arr m' e=>
       simp only at h
       split at h
       ·rename_i hty _
        rw[q1] at hty;cases hty;cases h;obtain⟨h0,hlt⟩:=Yce.1 (Yae hb);obtain⟨R',b0,off,p1,p2,p3⟩:=(hx:Yd _ _ _ _ _ _).leaf rfl;rw[hR] at p1;cases p1;rw[p3] at ex;refine⟨_,ex _ (Yd9 hd q2 h0 hlt),.inr ?_⟩;refine Yd.Yah (v:=.loc r (p++[.el n.toNat])) ⟨R,b0,off+n.toNat*j.size,hR,?_,rfl⟩;rw[(Y2 p _ p2 hget).1,q3]
        simp only[nav];rw[if_pos (by omega)];rfl
       ·cases h
      |_=>cases h
     |_=>cases h
    |pt ty ys=>
     cases ty with
     |arr m' e=>
      simp only at h
      split at h
      ·rename_i hty _
       rw[q1] at hty;cases hty;cases h;obtain⟨h0,hlt⟩:=Yce.1 (Yae hb);obtain⟨b0,off,p1,p2,p3,p4⟩:=(hx:Yd _ _ _ _ _ _).leaf rfl;rw[p1] at ex;obtain⟨hlen,Fs,hF,_⟩:=p4;refine⟨_,ex _ (Yd9 hd q2 h0 hlt),.inr ?_⟩;refine Yd.Yah (v:=.pt te (ys.getD n.toNat te.zero)) ⟨b0,off+n.toNat*j.size,rfl,p2,p3,?_⟩
       rw[Yn _ _ _ (by omega:n.toNat<ys.length),q3]
       exact Rep.Yg4 (hF n.toNat (by omega)).1 (fun _ _=>rfl)
      ·cases h
     |_=>cases h
    |_=>cases h
   |_=>rw[hid] at h;cases h
  |_=>cases h
 |_=>cases h
end
end Mf
namespace Mf
open Go
set_option linter.unusedVariables false
set_option linter.unusedSimpArgs false
section
variable {P:Program} {tb:Tb} {g:Gd} {o:Oper}
def Yro (a:Act) (x:Option Operand) (l:Option Int):Prop:=match x,l with
 |none,none=>True
 |some x,some n=>∃ k,a.eval x=.int k n
 |_,_=>False
theorem Ygb {Z:W0} {S:St} {C:Cx} {a:Act} {w:World} (I:Inv Z S C a w) (hg:Yax a g) {x:Option Operand} {l:Option Int} (h:(Yig g x).run S=some l):Yro a x l:=by
 cases x with
 |none=>simp only[Yig,RD.run] at h;cases h;trivial
 |some x=>
  simp only[Yig] at h;replace h:=RD.bind_some h;obtain⟨v,h1,h⟩:=h;have hv:=Yg I hg h1
  cases v with
  |cl o t n=>
   cases t with
   |int k=>cases h;exact⟨k,(hv:Yd _ _ _ _ _ _).int⟩
   |_=>cases h
  |_=>cases h
theorem run_sliceBound {k:IntKind} {n:Int} {y:Nat} {c:BoundsCode} {w:World} (h0:0≤n) (h1:n≤y):(Instr.sliceBound (.int k n) y c).run P w=.ok n.toNat w:=by
 simp[Instr.sliceBound,asIntOf,h0,h1]
theorem Yaz {a:Act} {lo hi:Option Operand} {l h:Option Int} {isS:Bool} {len cap l' h':Nat} {w:World} (hl:Yro a lo l) (hh:Yro a hi h) (hs:slb l h len=(true,l',h')) (hc:len≤cap) :
  (Instr.sliceBounds isS len cap (lo.map a.eval) (hi.map a.eval) none).run P w=.ok (l',h',cap) w∧l'≤h'∧h'≤len:=by
 cases lo with
 |none=>
  cases l with
  |some l=>exact hl.elim
  |none=>
   cases hi with
   |none=>
    cases h with
    |some h=>exact hh.elim
    |none=>simp only[slb,Prod.mk.injEq,true_and] at hs;obtain⟨rfl,rfl⟩:=hs;exact⟨by simp[Instr.sliceBounds],by omega,by omega⟩
   |some y=>
    cases h with
    |none=>exact hh.elim
    |some n=>
     obtain⟨k,e⟩:=hh;simp only[slb,Prod.mk.injEq,Bool.and_eq_true,decide_eq_true_eq] at hs;obtain⟨⟨q1,q2⟩,rfl,rfl⟩:=hs
     refine⟨?_,by omega,by omega⟩
     simp[Instr.sliceBounds,e,run_sliceBound q1 (show n≤cap by omega)]
 |some x=>
  cases l with
  |none=>exact hl.elim
  |some m=>
   obtain⟨k',e'⟩:=hl
   cases hi with
   |none=>
    cases h with
    |some h=>exact hh.elim
    |none=>
     simp only[slb,Prod.mk.injEq,Bool.and_eq_true,decide_eq_true_eq] at hs;obtain⟨⟨q1,q2⟩,rfl,rfl⟩:=hs
     refine⟨?_,by omega,by omega⟩
     simp[Instr.sliceBounds,e',run_sliceBound q1 q2]
   |some y=>
    cases h with
    |none=>exact hh.elim
    |some n=>
     obtain⟨k,e⟩:=hh;simp only[slb,Prod.mk.injEq,Bool.and_eq_true,decide_eq_true_eq] at hs;obtain⟨⟨⟨q1,q2⟩,q3,q4⟩,rfl,rfl⟩:=hs
     refine⟨?_,by omega,by omega⟩
     simp[Instr.sliceBounds,e,e',run_sliceBound q1 (show n≤cap by omega),run_sliceBound q3 (show m≤(n.toNat:Int) by omega)]
theorem Yd6 {t e:TypeId} {j:TypeInfo} {a:Act} {lo hi:Option Operand} {l h:Option Int} {len cap l' h':Nat} {A:Option Addr} {w:World} (hd:P.underlying t=some (.slice e)) (hj:P.info? e=some j)
  (hl:Yro a lo l) (hh:Yro a hi h) (hs:slb l h len=(true,l',h')) (hc:len≤cap) :
  (Instr.sliceAt t (.slice A len cap) (lo.map a.eval) (hi.map a.eval) none).run P w=.ok (.slice (if cap=l' then A else A.map (·.add (l'*j.size))) (h'-l') (cap-l')) w:=by
 obtain⟨q,_,_⟩:=Yaz (P:=P) (isS:=true) (w:=w) hl hh hs hc;simp only[Instr.sliceAt,Instr.slice,Sem.run_bind,run_underlying hd,Result.andThen_ok,q,Y1 hj];rfl
theorem Yre {t:TypeId} {x:Operand} {lo hi mx:Option Operand} (ho:o.op=.slice t x lo hi mx):PvS P tb g o:=by
 intro Z S C a w ht I hg b v h hb;simp only[pv,ho] at h;replace h:=RD.bind_some h;obtain⟨vx,h1,h⟩:=h;replace h:=RD.bind_some h;obtain⟨ti,h2,h⟩:=h;have hx:=Yg I hg h1;obtain⟨⟨d,hd,hdk,_⟩,_⟩:=ht t ti (Yp h2)
 have ex:∀ u,(Instr.sliceAt t (a.eval x) (lo.map a.eval) (hi.map a.eval) (mx.map a.eval)).run P w=.ok u w→(execOp a.eval o).run P w=.ok (.value u) w:=by
  intro u hu;simp[execOp,ho,hu]
 split at h
 ·
  rename_i k1
  split at h
  ·rename_i k2
   split at h
   ·rename_i e hid
    rw[hid] at hdk;obtain⟨rfl,te,j,q1,q2,q3,_⟩:=hdk;replace h:=RD.bind_some h;obtain⟨n,h3,h⟩:=h
    have hns:∀ oo s,vx≠.cl oo .str s:=by
     rintro oo s rfl;cases h
    obtain⟨A,c,e1⟩:=Yed I hx h3 hns
    have hv:v=.nl:=by
     split at h
     ·cases h
     ·cases h;rfl
    subst hv;rw[e1] at ex
    refine⟨.slice (if 0=0 then A else A.map (·.add (0*j.size))) 0 0,ex _ ?_,.inr ?_⟩
    ·simp[Instr.sliceAt,Instr.slice,Instr.sliceBounds,run_underlying hd,Act.eval,run_sliceBound (P:=P) (k:=k1) (n:=0) (y:=c) (c:=.slice3Acap) (w:=w) (by omega) (by omega),
      run_sliceBound (P:=P) (k:=k2) (n:=0) (y:=0) (c:=.slice3B) (w:=w) (by omega) (by omega),Y1 q2]
    ·exact Yd.Yah (v:=.nl) ⟨_,rfl⟩
   ·cases h
  ·cases h
 ·cases h
 ·replace h:=RD.bind_some h;obtain⟨l,h3,h⟩:=h
  replace h:=RD.bind_some h;obtain⟨hh,h4,h⟩:=h;have hl:=Ygb I hg h3;have hhi:=Ygb I hg h4;simp only[Option.map_none] at ex
  split at h
  ·have hid:ti.d=.str:=by assumption
   rw[hid] at hdk;obtain⟨rfl,_⟩:=hdk;rename_i oo s _ _ _;obtain⟨z,e1,e2⟩:=(hx:Yd _ _ _ _ _ _).str;rw[e1] at ex
   have hz:z.size=s.length:=by rw[←e2];simp
   generalize hs:slb l hh s.length=r at h;obtain⟨b',l',h'⟩:=r;cases h;have hb':=Yae hb;subst hb';rw[←hz] at hs;obtain⟨q,q1,q2⟩:=Yaz (P:=P) (isS:=false) (w:=w) hl hhi hs (Nat.le_refl _);refine⟨.string (z.extract l' h'),ex _ ?_,.inr ?_⟩
   ·simp only[Instr.sliceAt,Instr.slice,Sem.run_bind,run_underlying hd,Result.andThen_ok,Option.isSome_none,Bool.false_eq_true,if_false,q];rfl
   ·have:(s.take h').drop l'=(z.extract l' h').data.toList:=by
     rw[ByteArray.data_extract,Array.toList_extract,List.extract_eq_take_drop,e2,List.drop_take]
    rw[this];exact .Yno _ _
  ·have hid:∃ e,ti.d=.sl e:=⟨_,by assumption⟩
   obtain⟨ee,hid⟩:=hid;rw[hid] at hdk;obtain⟨rfl,te,j,q1,q2,q3,_⟩:=hdk
   split at h
   ·rename_i e xs _ _ _ _ _ _
    have hty:Ty.sl e=ti.ty:=by assumption
    obtain rfl:e=te:=by rw[q1] at hty;exact Ty.sl.inj hty
    generalize hs:slb l hh xs.length=r at h;obtain⟨b',l',h'⟩:=r;cases h;have hb':=Yae hb;subst hb';obtain⟨A,c,e1,e2,e3⟩:=Yf6 (o:=.sh) I hx rfl;rw[e1] at ex;obtain⟨_,r1,r2⟩:=Yaz (P:=P) (isS:=true) (w:=w) hl hhi hs e2
    have hlen:((xs.take h').drop l').length=h'-l':=by simp;omega
    refine⟨_,ex _ (Yd6 hd q2 hl hhi hs e2),.inr (Yd.v (Yd.mk1 ?_ rfl rfl rfl (by rintro⟨_,h⟩;cases h)) rfl)⟩
    refine⟨_,c-l',by rw[hlen];rfl,by rw[hlen];omega,fun hne=>?_⟩
    have hpos:0<h'-l':=by rw[←hlen];exact List.length_pos_iff.2 hne
    obtain⟨b0,off,rfl,f1,f2⟩:=e3 (by intro h0;subst h0;simp at r2;omega)
    obtain⟨f3,f4⟩:=f1 rfl
    refine⟨b0,off+l'*e.size,by rw[if_neg (by omega)];simp[Addr.add_mid,q3],f3,f4,fun i hi=>?_⟩
    have hi':i<h'-l':=by rw[←hlen];exact hi
    obtain⟨F,o',g1,g2⟩:=f2 (l'+i) (by omega)
    have:=g2 rfl;subst this;simp only[List.getElem_drop,List.getElem_take]
    rw[show off+l'*e.size+i*e.size=off+(l'+i)*e.size by rw[Nat.add_mul];omega]
    exact Rep.Yg4 g1 (fun _ _=>rfl)
   ·cases h
  ·have hid:∃ e,ti.d=.sl e:=⟨_,by assumption⟩
   obtain⟨ee,hid⟩:=hid;rw[hid] at hdk;obtain⟨rfl,te,j,q1,q2,q3,_⟩:=hdk;replace h:=RD.bind_some h;obtain⟨⟨e,xs,oo⟩,h5,h⟩:=h;simp only at h
   split at h
   ·rename_i hty _
    rw[q1] at hty;cases hty;generalize hs:slb l hh xs.length=r at h;obtain⟨b',l',h'⟩:=r;cases h;have hb':=Yae hb;subst hb';obtain⟨A,c,e1,e2,e3⟩:=Yf6 I hx h5;rw[e1] at ex;obtain⟨_,r1,r2⟩:=Yaz (P:=P) (isS:=true) (w:=w) hl hhi hs e2;rcases Yb4 h5 with ⟨_,hh,_⟩ | ⟨r,p,R,hh,hR,hget⟩ | ⟨_,_,_,_,_,_,hh,_⟩
    ·cases hh
    ·cases hh
     obtain⟨s,A',c',F,k1,k2,k3,k4,k5⟩:=Yc7 I ((hx:Yd _ _ _ _ _ _).leaf rfl) hR hget;rw[e1] at k3;cases k3;refine⟨_,ex _ (Yd6 hd q2 hl hhi hs e2),.inr ?_⟩
     refine Yd.Yah (v:=.sub _ _ l' (h'-l')) ⟨R,s,oo,_,xs,A,_,c,_,c-l',hR,k1,Yeb hget,k2,rfl,by omega,by omega,by omega,fun hc=>?_⟩
     rw[if_neg (by omega),q3]
    ·cases hh
   ·cases h
  ·have hid:∃ e,ti.d=.sl e:=⟨_,by assumption⟩
   obtain⟨ee,hid⟩:=hid;rw[hid] at hdk;obtain⟨rfl,te,j,q1,q2,q3,_⟩:=hdk;replace h:=RD.bind_some h;obtain⟨⟨e,xs,oo⟩,h5,h⟩:=h;simp only at h
   split at h
   ·rename_i r p lo' n _ _ _ _ hty _
    rw[q1] at hty;cases hty;generalize hs:slb l hh n=r' at h;obtain⟨b',l',h'⟩:=r';cases h;have hb':=Yae hb;subst hb';obtain⟨R,s,o2,e',ys,A,len,c,A',c',p1,p2,p3,p4,p5,p6,p7,p8,p9⟩:=(hx:Yd _ _ _ _ _ _).leaf rfl;rw[p5] at ex;obtain⟨_,r1,r2⟩:=Yaz (P:=P) (isS:=true) (w:=w) hl hhi hs p7
    have hte:e'=te:=by
     rcases Yb4 h5 with ⟨_,hh,_⟩ | ⟨_,_,_,hh,_⟩ | ⟨_,_,_,_,R',ys',hh,hR',hg',_⟩
     ·cases hh
     ·cases hh
     ·cases hh;rw[hR'] at p1;cases p1;rw[Yeb hg'] at p3;cases p3;rfl
    subst hte;refine⟨_,ex _ (Yd6 hd q2 hl hhi hs p7),.inr ?_⟩
    refine Yd.Yah (v:=.sub r p (lo'+l') (h'-l')) ⟨R,s,o2,e',ys,A,len,c,_,c'-l',p1,p2,p3,p4,rfl,by omega,by omega,by omega,fun hc=>?_⟩
    rw[if_neg (by omega),q3,p9 (by omega)]
    cases A with
    |none=>rfl
    |some ad=>
     simp only[Option.map_some,Option.some.injEq];unfold Addr.add
     by_cases z1:lo'*e'.size=0
     ·have:(lo'+l')*e'.size=l'*e'.size:=by rw[Nat.add_mul,z1];omega
      simp[z1,this]
     ·by_cases z2:l'*e'.size=0
      ·have:(lo'+l')*e'.size=lo'*e'.size:=by rw[Nat.add_mul,z2];omega
       simp[z2,this,z1]
      ·have:(lo'+l')*e'.size≠0:=by rw[Nat.add_mul];omega
       simp only[z1,z2,this,if_false];rw[Nat.add_mul];simp[Nat.add_assoc]
   ·cases h
  ·cases h
end
end Mf
namespace Mf
open Go
set_option linter.unusedVariables false
set_option linter.unusedSimpArgs false
section
variable {P:Program} {tb:Tb} {g:Gd} {o:Oper}
theorem Yti:∀ (f:Nat) {v u:TV} {k:Nat},v.Ycc f=some k→v.get (Yai f)=some u→k+u.size≤v.size:=by
 intro f
 induction f with
 |zero=>
  intro v u k h hg
  cases v with
  |pr a b=>simp only[TV.Ycc,Option.some.injEq] at h;simp only[Yai,TV.get,TV.get_nil,Option.some.injEq] at hg;subst h hg;simp[TV.size]
  |cl o t x=>
   cases t with
   |pair a b=>simp only[TV.Ycc,Option.some.injEq] at h;simp only[Yai,TV.get,TV.get_nil,Option.some.injEq] at hg;subst h hg;simp[TV.size,Ty.size]
   |_=>cases h
  |_=>cases h
 |succ f ih=>
  intro v u k h hg
  cases v with
  |pr a b=>
   simp only[TV.Ycc] at h
   split at h
   ·rename_i k' hk;cases h
    simp only[Yai,TV.get] at hg;have:=ih hk hg;simp only[TV.size];omega
   ·cases h
  |cl o t x=>
   cases t with
   |pair a b=>
    simp only[TV.Ycc] at h
    split at h
    ·rename_i k' hk;cases h
     simp only[Yai,TV.get] at hg;have:=ih hk hg;simp only[TV.size,Ty.size] at *;omega
    ·cases h
   |_=>cases h
  |_=>cases h
theorem Yc.Ypv {w:World} {M:Ya} {L:Nat→Src} {ρ:Yb} {v:TV} {s:Src} {F:Ya} (h:Yc w M (Yi w M L ρ) v s F) (hF:Ye F noB):(∃ n,v=.dead n)∨v.plain=true:=by
 cases v with
 |rw o e xs i v=>obtain⟨_,_,_,b,_,_,_,_,Fs,h6,_⟩:=h;exact(hF b h6).elim
 |op v=>obtain⟨u,_,h⟩:=h;exact h.elim
 |dead n=>exact .inl ⟨_,rfl⟩
 |tup l=>obtain⟨u,_,h⟩:=h;exact h.elim
 |gd t b l=>obtain⟨u,_,h⟩:=h;exact h.elim
 |kb l=>obtain⟨u,_,h⟩:=h;exact h.elim
 |_=>exact .inr rfl
theorem Yr7 {t:TypeId} {x:Operand} {f:Nat} (ho:o.op=.field t x f):PvS P tb g o:=by
 intro Z S C a w ht I hg b u h hb;simp only[pv,ho] at h;replace h:=RD.bind_some h;obtain⟨vx,h1,h⟩:=h;replace h:=RD.bind_some h;obtain⟨i,h2,h⟩:=h;have hx:=Yg I hg h1;obtain⟨⟨d,hd,hdk,hda⟩,_⟩:=ht t i (Yp h2)
 split at h
 ·rename_i offs hoffs
  rw[hoffs] at hdk
  split at h
  ·rename_i hlay _
   split at h
   ·rename_i aa bb u0 hfo hob hget
    split at h
    ·rename_i hbeq
     cases h
     have:aa=bb:=by simpa using hbeq
     subst this;obtain⟨fs,fd,j,de,e1,e2,e3,e4,e5,e6,e7,e8⟩:=Yit hdk hob;subst e1
     have hv:Yd w (Mt Z C S.root noB) C.L S.root vx (a.eval x)∧vx.isAgg=true:=by
      cases vx with
      |pr p q=>exact⟨hx,rfl⟩
      |cl oo tt xx=>cases tt<;>first | exact⟨hx,rfl⟩ | (cases f<;>cases hfo)
      |_=>cases f<;>cases hfo
     obtain⟨hv,hagg⟩:=hv;obtain⟨cs,hcs⟩:=hv.2.2.1 hagg;have hul:=Yjv f hlay hget
     have husz:u.size=j.size:=by rw[←TV.lay_size,hul,Ty.lay_size,e6]
     have hle:=Yti f hfo hget
     have hsz:cs.size=vx.size:=by have:=hv.2.1;rw[hcs] at this;exact this
     obtain⟨F',_,hr⟩:=focus (Yai f) hv.1 (Yjl f _ hfo) hget
     rw[hcs] at hr
     have ex:∀ u,(part fd.type cs fd.offset).run P w=.ok u w→(execOp a.eval o).run P w=.ok (.value u) w:=by
      intro u hu;simp only[execOp,ho,Sem.run_bind,Instr.field,run_underlying hd,Result.andThen_ok,e2,hcs,asAgg,Sem.run_pure,hu]
     have hkind:=Yc.Ypv hr (by assumption)
     have hr':∀ u':Value,(∀ i,i<j.size→u'.cells.toList[i]? = cs.toList[aa+i]?)→Yc w (Mt Z C S.root noB) (Yi w (Mt Z C S.root noB) C.L S.root) u (.reg u'.cells.toList 0) noB:=by
      intro u' hu'
      have:Yc w (Mt Z C S.root noB) (Yi w (Mt Z C S.root noB) C.L S.root) u (.reg u'.cells.toList 0) F':=
       hr.mv (fun i hi=>by
        simp only[Src.sh,Src.cell,Nat.zero_add,Value.cells]
        exact hu' i (by omega))
      have hF:Ye F' noB:=by assumption
      exact this.sub hF
     cases hrow:de.isRow with
     |true=>
      refine⟨.agg (cs.extract fd.offset (fd.offset+j.size)),ex _ ?_,?_⟩
      ·simp[part,Ycs e7,hrow,Y1 e4]
      ·rcases hkind with hk | hk
       ·exact .inl hk
       ·refine .inr (VOk.Yhd (hr' _ (fun i hi=>?_)) ?_ ?_ hk)
        ·simp only[Value.cells,Array.toList_extract,List.extract_eq_take_drop,e3]
         rw[List.getElem?_take_of_lt (by omega),List.getElem?_drop]
        ·simp only[Value.cells,Array.size_extract,e3];omega
        ·have:u.isAgg=(Y7 i.ty f).isAgg:=Yey hul (fun e=>by rw[e] at hk;cases hk)
         rw[this,e8,hrow];simp
     |false=>
      have h1:j.size=1:=by
       have:(Y7 i.ty f).isAgg=false:=by
        cases hh:(Y7 i.ty f).isAgg with
        |false=>rfl
        |true=>rw[e8.1 hh] at hrow;cases hrow
       rw[e6]
       cases hty:Y7 i.ty f<;>rw[hty] at this<;>first | rfl | cases this
      have hlt:fd.offset<cs.size:=by omega
      refine⟨cs[fd.offset],ex _ ?_,?_⟩
      ·simp[part,Ycs e7,hrow,Array.getElem?_eq_getElem hlt]
      ·rcases hkind with hk | hk
       ·exact .inl hk
       ·have hna:u.isAgg=false:=by
         have:u.isAgg=(Y7 i.ty f).isAgg:=Yey hul (fun e=>by rw[e] at hk;cases hk)
         rw[this]
         cases hh:(Y7 i.ty f).isAgg with
         |false=>rfl
         |true=>rw[e8.1 hh] at hrow;cases hrow
        have hlive:u.live=true:=by
         cases u with
         |pr p q=>cases hna
         |dead n=>cases hk
         |rw o e xs i v=>
          obtain⟨_,_,_,b,_,_,_,_,Fs,h6,_⟩:=hr
          have hF:Ye F' noB:=by assumption
          exact(hF b h6).elim
         |_=>rfl
        have hcell:=hr.cells (fun v u h=>h.one.1)
        have hc:=hcell.resolve_right (fun hn=>hn hlive) 0 (by omega)
        obtain⟨c,hc1,hc2⟩:=hc
        have:c=cs[fd.offset]:=by
         simp only[Src.sh,Src.cell,Value.cells,Nat.zero_add,Nat.add_zero,Array.getElem?_toList] at hc1;rw[←e3,Array.getElem?_eq_getElem hlt] at hc1;exact(Option.some.inj hc1).symm
        rw[this] at hc2
        have hnagg:¬ ∃ q,cs[fd.offset]=.agg q:=by
         rintro⟨q,hq⟩;rw[hq] at hc2;cases hc2
        have h1c:=Yb6 hnagg
        refine .inr (VOk.Yhd (hr' _ (fun i hi=>?_)) (by rw[h1c,husz,h1];rfl) ?_ hk)
        ·have:i=0:=by omega
         subst this;rw[h1c,←e3];simp[Array.getElem?_eq_getElem hlt]
        ·rw[hna];exact⟨fun h=>(by cases h),fun h=>absurd h hnagg⟩
    ·cases h
   ·cases h
  ·cases h
 ·cases h
theorem Yi1:PvS P tb g o:=by
 intro Z S C a w ht I hg b v h hb;have h0:=h
 cases ho:o.op with
 |move x=>exact Ytn ho Z S C a w ht I hg b v h hb
 |pick c x y=>exact Yt1 ho Z S C a w ht I hg b v h hb
 |load t x=>exact Ytq ho Z S C a w ht I hg b v h hb
 |fieldAddr t x f=>exact Yl5 ho Z S C a w ht I hg b v h hb
 |field t x f=>exact Yr7 ho Z S C a w ht I hg b v h hb
 |indexAddr t x i=>exact Ylt ho Z S C a w ht I hg b v h hb
 |index t x i=>exact Yr3 ho Z S C a w ht I hg b v h hb
 |binOp op t x y yt=>exact Ysn ho Z S C a w ht I hg b v h hb
 |unOp op t x=>exact Ytd ho Z S C a w ht I hg b v h hb
 |nilCheck x=>exact Ymm ho Z S C a w ht I hg b v h hb
 |extract x i=>exact Yny ho Z S C a w ht I hg b v h hb
 |slice t x lo hi mx=>exact Yre ho Z S C a w ht I hg b v h hb
 |convert s d x=>exact Yoy ho Z S C a w ht I hg b v h hb
 |makeFunc fn first cap=>exact Ymo ho Z S C a w ht I hg b v h hb
 |call c=>
  obtain⟨callee,args,ats⟩:=c
  cases callee with
  |builtin bb=>
   cases bb with
   |len=>exact Yu4 ho Z S C a w ht I hg b v h hb
   |min=>exact Yux ho Z S C a w ht I hg b v h hb
   |max=>exact Yuu ho Z S C a w ht I hg b v h hb
   |_=>simp only[pv,ho] at h;cases h
  |_=>simp only[pv,ho] at h;cases h
 |_=>simp only[pv,ho] at h;cases h
end
end Mf
namespace Mf
open Go
set_option linter.unusedVariables false
set_option linter.unusedSimpArgs false
theorem Ydl {α:Type} (i:Nat):∀ (a b:List (Nat×α)),lk i (a++b)=match lk i a with | some x=>some x | none=>lk i b
 |[],b=>rfl
 |(j,x)::a,b=>by
  simp only[List.cons_append,lk]
  cases h:Nat.beq i j with
  |true=>rfl
  |false=>exact Ydl i a b
theorem Yov {α β:Type} (i:Nat) (f:α→β):∀ (a:List (Nat×α)),lk i (a.map fun x=>(x.1,f x.2))=(lk i a).map f
 |[]=>rfl
 |(j,x)::a=>by
  simp only[List.map_cons,lk]
  cases h:Nat.beq i j with
  |true=>rfl
  |false=>exact Yov i f a
theorem Yl {α:Type} (i:Nat) (x:α) (l:List (Nat×α)):lk i ((i,x)::l)=some x:=by
 simp only[lk];rw[show Nat.beq i i=true by simp]
theorem Yu {α:Type} {i j:Nat} (h:i≠j) (x:α) (l:List (Nat×α)):lk i ((j,x)::l)=lk i l:=by
 simp only[lk];rw[show Nat.beq i j=false by cases hb:Nat.beq i j with | false=>rfl | true=>exact absurd (Nat.eq_of_beq_eq_true hb) h]
def Patch.roots (p:Patch) (S:St):Yb:=fun r=>match lk r p.rt with | some x=>x | none=>S.root r
theorem Root.Yvp (R:Root):R.kill []=R:=rfl
theorem Yet (S:St) (p:Patch):(S.ap p).root=fun r=>(p.roots S r).map (Root.kill p.ks):=by
 funext r
 unfold St.ap Patch.roots
 split
 ·rename_i hk
  simp only[hk,St.root,Ydl]
  cases lk r p.rt with
  |none=>simp only;cases lk r S.rt with
   |none=>rfl
   |some x=>cases x<;>rfl
  |some x=>cases x<;>rfl
 ·rename_i hk
  simp only[St.root];rw[Yov r (Yrg p.ks),Ydl]
  cases lk r p.rt with
  |none=>simp only;cases lk r S.rt with
   |none=>rfl
   |some x=>cases x<;>rfl
  |some x=>cases x<;>rfl
theorem Yuq (v:TV):Yt [] v=v:=rfl
theorem Yd8 (S:St) (p:Patch) (i:Nat):lk i (S.ap p).tm=match lk i p.tm with | some v=>some v | none=>(lk i S.tm).map (Yt p.ks):=by
 unfold St.ap
 split
 ·rename_i hk
  simp only[hk,Ydl]
  cases lk i p.tm with
  |none=>simp only;cases lk i S.tm<;>rfl
  |some v=>rfl
 ·simp only[Ydl]
  cases lk i p.tm with
  |none=>exact Yov i (Yt p.ks) S.tm
  |some v=>rfl
theorem Gs.Yuw {w:World} {M:Ya} {L:Nat→Src} {ρ:Yb} (ks:Ks):Gs w w M M ρ (fun r=>(ρ r).map (Root.kill ks)) L L Dd.none:=(Gs.refl w M ρ L).kill ks
theorem Y3.Ypw:∀ v:TV,Y3 Dd.none v:=by
 intro v
 induction v with
 |pr a b iha ihb=>exact⟨iha,ihb⟩
 |loc r q=>exact fun x=>x
 |seg r q=>exact fun x=>x
 |sub r q lo n=>exact fun x=>x
 |clo f c ih=>exact ih
 |_=>trivial
theorem Ytm (a:Act) (d:Nat) (u:Value) (h:d<a.tmps.size):(a.put (some d) u).tmps.getD d undef=u:=by
 simp[Act.put,Array.getD_eq_getD_getElem?,h]
theorem Yrj (a:Act) (d:Option Nat) (u:Value) {i:Nat} (h:d≠some i):(a.put d u).tmps.getD i undef=a.tmps.getD i undef:=by
 cases d with
 |none=>rfl
 |some d=>
  have:d≠i:=fun e=>h (by rw[e])
  simp[Act.put,Array.getD_eq_getD_getElem?,Array.getElem?_setIfInBounds,this]
theorem Yse (a:Act) (d:Option Nat) (u:Value):(a.put d u).tmps.size=a.tmps.size:=by cases d<;>simp[Act.put]
theorem put_defers (a:Act) (d:Option Nat) (u:Value):(a.put d u).defers=a.defers:=by cases d<;>rfl
def Yw (S:St) (d:Option Nat):Prop:=∀ i t b x,lk i S.tm=some (.gd t b x)→d≠some t
theorem Inv.ap {Z:W0} {S:St} {C C':Cx} {a:Act} {w w':World} {D:Dd} {p:Patch} {Q:TV→Value→Prop} {dst:Option Nat} {u:Value}
  (I:Inv Z S C a w)
  (J:Str Z (fun v u=>Yi w (Mt Z C S.root noB) C.L S.root v u∨Q v u) C' noB (p.roots S) w')
  (g:Gs w w' (Mt Z C S.root noB) (Mt Z C' (p.roots S) noB) S.root (p.roots S) C.L C'.L D)
  (hQ:∀ v u,Q v u→Yi w' (Mt Z C' (p.roots S) noB) C'.L (p.roots S) v u)
  (hcl:∀ r q R,S.root r=some R→D.l r q→(ddK p.ks).l r q) (hcs:∀ r q R,S.root r=some R→D.s r q→(ddK p.ks).s r q)
  (hgd:Yw S dst) (hd:∀ d,dst=some d→d<Z.nt∧∃ v,lk d p.tm=some v)
  (htm:∀ i v,lk i p.tm=some v→dst=some i∧Ygj w' (Mt Z C' (p.roots S) noB) C'.L (p.roots S) (a.put dst u) v u) :
  Inv Z (S.ap p) C' (a.put dst u) w':=by
 have hM:Mt Z C' (S.ap p).root noB=Mt Z C' (p.roots S) noB:=by rw[Yet,Yk2]
 have gk:Gs w' w' (Mt Z C' (p.roots S) noB) (Mt Z C' (p.roots S) noB) (p.roots S) (S.ap p).root C'.L C'.L Dd.none:=by
  rw[Yet];exact Gs.Yuw p.ks
 refine Inv.step (Q:=Q) (ks:=p.ks) I J g ?_ ?_ (Yet S p) hcl hcs (by rw[put_defers];exact I.df) (by rw[Yse];exact I.ts) ?_
 ·intro v u h _
  rw[hM];exact(hQ v u h).go gk (Y3.Ypw v)
 ·intro v u h;exact(hQ v u h).Yjh
 ·intro i v' h
  rw[Yd8] at h
  cases hp:lk i p.tm with
  |some v=>
   rw[hp] at h;cases h;obtain⟨rfl,ht⟩:=htm i _ hp;refine .inr ?_
   rw[Ytm a i u (by rw[I.ts];exact(hd i rfl).1),hM]
   exact ht.go gk (Kd.refl Y3.Ypw _) (fun _ _ _ _=>rfl)
  |none=>
   rw[hp] at h
   cases hs:lk i S.tm with
   |none=>rw[hs] at h;cases h
   |some v=>
    rw[hs] at h;cases h
    have hne:dst≠some i:=by
     rintro rfl;obtain⟨_,v0,hv0⟩:=hd i rfl;rw[hp] at hv0;cases hv0
    exact .inl ⟨v,rfl,rfl,Yrj a dst u hne,fun t b x e=>Yrj a dst u (hgd i t b x (by rw[←e];exact hs))⟩
theorem Inv.slot {Z:W0} {S:St} {C:Cx} {a:Act} {w:World} {d:Nat} {v:TV} {u:Value} (I:Inv Z S C a w) (hgd:Yw S (some d)) (hd:d<Z.nt)
  (hv:Ygj w (Mt Z C S.root noB) C.L S.root (a.put (some d) u) v u):Inv Z (S.ap ⟨[(d,v)],[],[]⟩) C (a.put (some d) u) w:=by
 have hr:Patch.roots ⟨[(d,v)],[],[]⟩ S=S.root:=rfl;refine Inv.ap (Q:=fun _ _=>False) (D:=Dd.none) I ?_ ?_ (fun _ _ h=>h.elim) (fun _ _ _ _ h=>h.elim) (fun _ _ _ _ h=>h.elim) hgd ?_ ?_
 ·rw[hr];exact I.str.lf (fun _ _ h=>.inl h)
 ·rw[hr];exact Gs.refl _ _ _ _
 ·intro d' e;cases e;exact⟨hd,v,Yl _ _ _⟩
 ·intro i v' h
  simp only[lk] at h
  split at h
  ·rename_i he
   have:i=d:=by simpa using he
   subst this;cases h
   exact⟨rfl,by rw[hr];exact hv⟩
  ·cases h
theorem Inv.Yox {Z:W0} {S:St} {C:Cx} {a:Act} {w:World} {u:Value} (I:Inv Z S C a w):Inv Z (S.ap ⟨[],[],[]⟩) C (a.put none u) w:=by
 have hr:Patch.roots ⟨[],[],[]⟩ S=S.root:=rfl
 refine Inv.ap (Q:=fun _ _=>False) (D:=Dd.none) (dst:=none) I ?_ ?_ (fun _ _ h=>h.elim) (fun _ _ _ _ h=>h.elim) (fun _ _ _ _ h=>h.elim) (fun _ _ _ _ _ e=>by cases e) ?_ ?_
 ·rw[hr];exact I.str.lf (fun _ _ h=>.inl h)
 ·rw[hr];exact Gs.refl _ _ _ _
 ·intro d' e;cases e
 ·intro i v' h;cases h
def OpS (P:Program) (o:Oper) (S S':St):Prop:=∀ (Z:W0) (C:Cx) (a:Act) (w:World) (g:Gd),Inv Z S C a w→Yax a g→True
end Mf
namespace Mf
open Go
set_option linter.unusedVariables false
set_option linter.unusedSimpArgs false
theorem Ylr {w:World}:∀ (p:Path) {a b u:TV} {s s1:Src},p.flat=true→a.lay=b.lay→nav w a s p=some s1→b.get p=some u→nav w b s p=some s1:=by
 intro p
 induction p with
 |nil=>intro a b u s s1 _ _ h _;rw[Yf] at h ⊢;exact h
 |cons c p ih=>
  intro a b u s s1 hf hl hn hg
  cases c with
  |el i=>simp[Path.flat] at hf
  |f1=>
   simp only[Path.flat] at hf
   cases a with
   |pr x y=>
    simp only[nav] at hn
    cases b with
    |pr x' y'=>simp only[TV.lay,Lay.pair.injEq] at hl;simp only[TV.get] at hg;simp only[nav];exact ih hf hl.1 hn hg
    |cl o t z=>
     cases t<;>simp only[TV.get] at hg<;>first | cases hg | (simp only[TV.lay,Ty.lay,Lay.pair.injEq] at hl;simp only[nav];exact ih (b:=TV.cl o _ z.1) hf hl.1 hn hg)
    |_=>cases hg
   |cl o t z=>
    cases t<;>simp only[nav] at hn<;>first | cases hn | skip
    cases b with
    |pr x' y'=>simp only[TV.lay,Ty.lay,Lay.pair.injEq] at hl;simp only[TV.get] at hg;simp only[nav];exact ih (a:=TV.cl o _ z.1) hf hl.1 hn hg
    |cl o' t' z'=>
     cases t'<;>simp only[TV.get] at hg<;>first | cases hg | (simp only[TV.lay,Ty.lay,Lay.pair.injEq] at hl;simp only[nav];exact ih (a:=TV.cl o _ z.1) (b:=TV.cl o' _ z'.1) hf hl.1 hn hg)
    |_=>cases hg
   |_=>cases hn
  |f2=>
   simp only[Path.flat] at hf
   cases a with
   |pr x y=>
    simp only[nav] at hn
    cases b with
    |pr x' y'=>
     simp only[TV.lay,Lay.pair.injEq] at hl;simp only[TV.get] at hg;simp only[nav]
     rw[←TV.Yak hl.1];exact ih hf hl.2 hn hg
    |cl o t z=>
     cases t<;>simp only[TV.get] at hg<;>first | cases hg | (simp only[TV.lay,Ty.lay,Lay.pair.injEq] at hl;simp only[nav];rw[←show x.size=Ty.size _ by rw[←TV.lay_size,hl.1,Ty.lay_size]];exact ih (b:=TV.cl o _ z.2) hf hl.2 hn hg)
    |_=>cases hg
   |cl o t z=>
    cases t<;>simp only[nav] at hn<;>first | cases hn | skip
    cases b with
    |pr x' y'=>
     simp only[TV.lay,Ty.lay,Lay.pair.injEq] at hl;simp only[TV.get] at hg;simp only[nav]
     rw[show x'.size=Ty.size _ by rw[←TV.lay_size,←hl.1,Ty.lay_size]];exact ih (a:=TV.cl o _ z.2) hf hl.2 hn hg
    |cl o' t' z'=>
     cases t'<;>simp only[TV.get] at hg<;>first | cases hg | skip
     rename_i a1 b1 a2 b2;simp only[TV.lay,Ty.lay,Lay.pair.injEq] at hl;simp only[nav]
     rw[show a2.size=a1.size by rw[←Ty.lay_size,←hl.1,Ty.lay_size]];exact ih (a:=TV.cl o _ z.2) (b:=TV.cl o' _ z'.2) hf hl.2 hn hg
    |_=>cases hg
   |_=>cases hn
def Yk.roots (K:Yk) (S:St):Yb:=fun r=>match lk r K.rt with | some x=>x | _=>S.root r
structure Yy (Z:W0) (S:St) (C:Cx) (w:World) (K:Yk) (G:Ya) (C1:Cx) (D:Dd):Prop where
 str:Str Z (Yi w (Mt Z C S.root noB) C.L S.root) C1 G (K.roots S) w
 gs:Gs w w (Mt Z C S.root noB) (Mt Z C1 (K.roots S) G) S.root (K.roots S) C.L C1.L D
 L:C1.L=C.L
 lay:∀ r R,K.roots S r=some R→∃ R0,S.root r=some R0∧R.tv.lay=R0.tv.lay∧R.k=R0.k
 cl:∀ r q,D.l r q→(ddK K.ks).l r q
 cs:∀ r q,D.s r q→(ddK K.ks).s r q
 ty:∀ r R q o e,∀ xs:List e.El,K.roots S r=some R→R.tv.get q=some (.cl o (.sl e) xs)→∃ R0 o0,S.root r=some R0∧R0.tv.get q=some (.cl o0 (.sl e) xs)
theorem Yc4 {a b:TV} {q:Path} {o:Ow} {e:Ty} {xs:List e.El} (h:(Yal a b).get (.f1::q)=some (.cl o (.sl e) xs)):∃ o',a.get q=some (.cl o' (.sl e) xs):=by
 rcases Yz a b with eq | ⟨o1,t,x,o',u,y,p,rfl,rfl,eq,_⟩
 ·rw[eq] at h;exact⟨o,h⟩
 ·rw[eq] at h;exact Yn8 q h
theorem Yc9 {a b:TV} {q:Path} {o:Ow} {e:Ty} {xs:List e.El} (h:(Yal a b).get (.f2::q)=some (.cl o (.sl e) xs)):∃ o',b.get q=some (.cl o' (.sl e) xs):=by
 rcases Yz a b with eq | ⟨o1,t,x,o',u,y,p,rfl,rfl,eq,_⟩
 ·rw[eq] at h;exact⟨o,h⟩
 ·rw[eq] at h;exact Yn8 q h
theorem Yh7 {a b:TV} {o:Ow} {e:Ty} {xs:List e.El} (h:Yal a b=.cl o (.sl e) xs):False:=by
 rcases Yz a b with eq | ⟨o1,t,x,o',u,y,p,rfl,rfl,eq,_⟩<;>rw[eq] at h<;>cases h
theorem Yh2 {a b:TV} {i:Nat} {q:Path} {v:TV} (h:(Yal a b).get (.el i::q)=some v):False:=by
 rcases Yz a b with eq | ⟨o1,t,x,o',u,y,p,rfl,rfl,eq,_⟩<;>rw[eq] at h<;>cases h
theorem Kp.refl (w:World) (s:Src) (n b:Nat):Kp w w s n b:=by
 cases s with
 |reg cs o=>exact Same.refl w b
 |mem b0 off0=>
  by_cases h:b=b0<;>simp[Kp,h,Same]
theorem Yy.start {Z:W0} {S:St} {C:Cx} {a:Act} {w:World} (I:Inv Z S C a w):Yy Z S C w .none noB C Dd.none where
 str:=I.str
 gs:=Gs.refl _ _ _ _
 L:=rfl
 lay:=fun r R h=>⟨R,h,rfl,rfl⟩
 cl:=fun _ _ h=>h.elim
 cs:=fun _ _ h=>h.elim
 ty:=fun r R q o e xs h1 h2=>⟨R,o,h1,h2⟩
theorem Yth {w w':World} {M M':Ya} {ρ ρ':Yb} {L L':Nat→Src} {D:Dd} (g:Gs w w' M M' ρ ρ' L L' D) {b:Nat} (h:¬ M b) (hb:b<w.heap.size):¬ M' b:=(g.st b h hb).2
theorem Yb3 {k:Nat×Option Path} {ks:Ks}:(∀ r q,(ddK ks).l r q→(ddK (k::ks)).l r q)∧(∀ r q,(ddK ks).s r q→(ddK (k::ks)).s r q):=
 ⟨fun r q ⟨x,h,e⟩=>⟨x,List.mem_cons_of_mem _ h,e⟩,fun r q ⟨x,h,e⟩=>⟨x,List.mem_cons_of_mem _ h,e⟩⟩
theorem Path.Yh0 (p t:Path):Path.pre p (p++t)=true:=by
 induction p with
 |nil=>cases t<;>rfl
 |cons a p ih=>cases a<;>simp[Path.pre,ih]
theorem Path.Yh3 (p t:Path):Path.far p (p++t) = !Path.flat t:=by
 induction p with
 |nil=>cases t<;>rfl
 |cons a p ih=>cases a<;>simp[Path.far,ih]
theorem Yft:∀ (p:Path) {tv tv':TV},tv.set p (.dead 1)=some tv'→tv'.opn=true:=by
 have rs:∀ {o:Ow} {e:Ty} {xs:List e.El} {i:Nat} {v tv':TV},Ybw o e xs i v=some tv'→v.opn=true→tv'=.rw o e xs i v:=by
  intro o e xs i v tv' h hv;rcases Yaj h with ⟨y,h1,_⟩ | ⟨_,_,rfl⟩
  ·obtain⟨o',x,rfl,_⟩:=Yau h1;cases hv
  ·rfl
 intro p
 induction p with
 |nil=>intro tv tv' h;rw[TV.set_nil] at h;cases h;rfl
 |cons a p ih=>
  intro tv tv' h
  cases tv with
  |pr x y=>
   cases a with
   |f1=>
    simp only[TV.set] at h
    split at h
    ·rename_i a' ha;cases h;rw[Yf0,ih ha];rfl
    ·cases h
   |f2=>
    simp only[TV.set] at h
    split at h
    ·rename_i a' ha;cases h;rw[Yf0,ih ha,Bool.or_true]
    ·cases h
   |el i=>cases h
  |cl o t x=>
   cases t with
   |pair ta tb=>
    cases a with
    |f1=>
     simp only[TV.set] at h
     split at h
     ·rename_i a' ha;cases h;rw[Yf0,ih ha];rfl
     ·cases h
    |f2=>
     simp only[TV.set] at h
     split at h
     ·rename_i a' ha;cases h;rw[Yf0,ih ha,Bool.or_true]
     ·cases h
    |el i=>cases o<;>cases h
   |sl e=>
    cases a with
    |el i=>obtain⟨_,tve,h1,h2⟩:=Yi3 h;rw[rs h2 (ih h1)];rfl
    |f1=>cases o<;>cases h
    |f2=>cases o<;>cases h
   |arr m e=>
    cases a with
    |el i=>
     simp only[TV.set] at h
     split at h
     ·rename_i tve h1
      split at h
      ·rename_i y h2
       obtain⟨o',x',rfl,_⟩:=Yau h2;cases ih h1
      ·cases h
     ·cases h
    |f1=>cases o<;>cases h
    |f2=>cases o<;>cases h
   |_=>cases a<;>cases o<;>cases h
  |rw o e xs i v=>
   cases a with
   |el j=>obtain⟨_,_,tve,h1,h2⟩:=Yjq h;rw[rs h2 (ih h1)];rfl
   |f1=>cases o<;>cases h
   |f2=>cases o<;>cases h
  |_=>cases a<;>cases h
theorem Yha {o:Ow} {e:Ty} {xs:List e.El} {i:Nat} {p:Path} {u v tv':TV} (hu:u.set p (.dead 1)=some v) (h:Ybw o e xs i v=some tv'):tv'=.rw o e xs i v:=by
 rcases Yaj h with ⟨y,h1,_⟩ | ⟨_,_,rfl⟩
 ·obtain⟨o',x,rfl,_⟩:=Yau h1;cases Yft p hu
 ·rfl
theorem Ymg:∀ (p:Path) {tv tv':TV} {q:Path} {o:Ow} {e:Ty} {xs:List e.El},tv.set p (.dead 1)=some tv'→tv'.get q=some (.cl o (.sl e) xs)→∃ o',tv.get q=some (.cl o' (.sl e) xs):=by
 intro p
 induction p with
 |nil=>
  intro tv tv' q o e xs hs hg;rw[TV.set_nil] at hs;cases hs
  cases q with
  |nil=>rw[TV.get_nil] at hg;cases hg
  |cons a q=>cases a<;>cases hg
 |cons c p ih=>
  intro tv tv' q o e xs hs hg
  cases tv with
  |pr x y=>
   cases c with
   |f1=>
    simp only[TV.set] at hs
    split at hs
    ·rename_i x' hx;cases hs
     cases q with
     |nil=>rw[TV.get_nil] at hg;exact(Yh7 (Option.some.inj hg)).elim
     |cons a q=>
      cases a with
      |f1=>show ∃ o',x.get q=some (.cl o' (.sl e) xs);obtain⟨o',h⟩:=Yc4 hg;exact ih hx h
      |f2=>show ∃ o',y.get q=some (.cl o' (.sl e) xs);exact Yc9 hg
      |el i=>exact(Yh2 hg).elim
    ·cases hs
   |f2=>
    simp only[TV.set] at hs
    split at hs
    ·rename_i x' hx;cases hs
     cases q with
     |nil=>rw[TV.get_nil] at hg;exact(Yh7 (Option.some.inj hg)).elim
     |cons a q=>
      cases a with
      |f1=>show ∃ o',x.get q=some (.cl o' (.sl e) xs);exact Yc4 hg
      |f2=>show ∃ o',y.get q=some (.cl o' (.sl e) xs);obtain⟨o',h⟩:=Yc9 hg;exact ih hx h
      |el i=>exact(Yh2 hg).elim
    ·cases hs
   |el i=>cases hs
  |cl ow t z=>
   cases t with
   |pair t1 t2=>
    cases c with
    |f1=>
     simp only[TV.set] at hs
     split at hs
     ·rename_i x' hx;cases hs
      cases q with
      |nil=>rw[TV.get_nil] at hg;exact(Yh7 (Option.some.inj hg)).elim
      |cons a q=>
       cases a with
       |f1=>show ∃ o',(TV.cl ow t1 z.1).get q=some (.cl o' (.sl e) xs);obtain⟨o',h⟩:=Yc4 hg;exact ih (tv:=.cl ow t1 z.1) hx h
       |f2=>show ∃ o',(TV.cl ow t2 z.2).get q=some (.cl o' (.sl e) xs);exact Yc9 hg
       |el i=>exact(Yh2 hg).elim
     ·cases hs
    |f2=>
     simp only[TV.set] at hs
     split at hs
     ·rename_i x' hx;cases hs
      cases q with
      |nil=>rw[TV.get_nil] at hg;exact(Yh7 (Option.some.inj hg)).elim
      |cons a q=>
       cases a with
       |f1=>show ∃ o',(TV.cl ow t1 z.1).get q=some (.cl o' (.sl e) xs);exact Yc4 hg
       |f2=>show ∃ o',(TV.cl ow t2 z.2).get q=some (.cl o' (.sl e) xs);obtain⟨o',h⟩:=Yc9 hg;exact ih (tv:=.cl ow t2 z.2) hx h
       |el i=>exact(Yh2 hg).elim
     ·cases hs
    |el i=>cases ow<;>cases hs
   |sl e0=>
    cases c with
    |el i=>
     obtain⟨_,tve,h1,h2⟩:=Yi3 hs;cases Yha h1 h2
     cases q with
     |nil=>rw[TV.get_nil] at hg;cases hg
     |cons a q=>
      cases a with
      |el j=>
       rw[Ycp] at hg;show ∃ o',(TV.cl ow.elem e0 (z.getD j e0.zero)).get q=_
       by_cases hji:j=i
       ·subst hji;rw[if_pos rfl] at hg;exact ih h1 hg
       ·rw[if_neg hji] at hg;exact⟨o,hg⟩
      |f1=>cases hg
      |f2=>cases hg
    |f1=>cases ow<;>cases hs
    |f2=>cases ow<;>cases hs
   |arr m e0=>
    cases c with
    |el i=>
     simp only[TV.set] at hs
     split at hs
     ·rename_i tve h1
      split at hs
      ·rename_i y h2
       obtain⟨o',x',rfl,_⟩:=Yau h2;cases Yft p h1
      ·cases hs
     ·cases hs
    |f1=>cases ow<;>cases hs
    |f2=>cases ow<;>cases hs
   |_=>cases c<;>cases ow<;>cases hs
  |rw ow e0 z i v=>
   cases c with
   |el j=>
    obtain⟨_,rfl,tve,h1,h2⟩:=Yjq hs;cases Yha h1 h2
    cases q with
    |nil=>rw[TV.get_nil] at hg;cases hg
    |cons a q=>
     cases a with
     |el k=>
      rw[Ycp] at hg ⊢
      by_cases hki:k=j
      ·rw[if_pos hki] at hg ⊢;exact ih h1 hg
      ·rw[if_neg hki] at hg ⊢;exact⟨o,hg⟩
     |f1=>cases hg
     |f2=>cases hg
   |f1=>cases ow<;>cases hs
   |f2=>cases ow<;>cases hs
  |_=>cases c<;>cases hs
theorem Ynb {Z:W0} {S:St} {C:Cx} {w:World} {K K':Yk} {G:Ya} {C1:Cx} {D:Dd} (T:Yy Z S C w K G C1 D) {r:Nat} {R R0:Root} {p:Path} {c:TV} {s:Src}
  (hR:K.roots S r=some R) (hR0:S.root r=some R0) (hn0:nav w R0.tv (C.L r) p=some s) (hfn:p.flat=true∨R=R0) (h:(Yhb K r p R).run S=some (c,K')) :
  ∃ C2 D2 F G',Yy Z S C w K' G' C2 D2∧Ye G G'∧Ye F G'∧Dis F G∧(∀ b,G' b→G b∨F b)∧
   ∃ o e,∃ x:List e.El,o≠.sh∧c=.cl o (.sl e) x∧(∃ o0,R0.tv.get p=some (.cl o0 (.sl e) x))∧Rep w (Mt Z C1 (K.roots S) G) (.sl e) o x s F∧Ye (Mt Z C2 (K'.roots S) G') (Mt Z C1 (K.roots S) G):=by
 obtain⟨R0',hR0',hlay,hkind⟩:=T.lay r R hR;rw[hR0] at hR0';cases hR0';unfold Yhb at h
 split at h
 ·rename_i o e x hget
  have body:o≠.sh→(takeC K r p R (.cl o (.sl e) x)).run S=some (c,K')→∃ C2 D2 F G',Yy Z S C w K' G' C2 D2∧Ye G G'∧Ye F G'∧Dis F G∧(∀ b,G' b→G b∨F b)∧
   ∃ o e,∃ x:List e.El,o≠.sh∧c=.cl o (.sl e) x∧(∃ o0,R0.tv.get p=some (.cl o0 (.sl e) x))∧Rep w (Mt Z C1 (K.roots S) G) (.sl e) o x s F∧Ye (Mt Z C2 (K'.roots S) G') (Mt Z C1 (K.roots S) G):=by
   intro ho h
   have hold:∃ o0,R0.tv.get p=some (.cl o0 (.sl e) x):=by
    obtain⟨R1,o1,h1,h2⟩:=T.ty r R p o e x hR hget;rw[hR0] at h1;cases h1;exact⟨o1,h2⟩
   by_cases hpk:p=[]∧R.k=.reg
   ·
    obtain⟨rfl,hk⟩:=hpk;simp only[takeC,hk] at h;cases h;rw[Yf] at hn0;cases hn0;rw[TV.get_nil] at hget;have hRtv:R.tv=.cl o (.sl e) x:=Option.some.inj hget
    have hk':(⟨(r,none)::K.rt,(r,none)::K.ks⟩:Yk).roots S=(K.roots S).set r none:=by
     funext i
     unfold Yk.roots Yb.set
     by_cases e:i=r
     ·subst e;rw[Yl,if_pos rfl]
     ·rw[Yu e,if_neg e]
    have hrep:=T.str.rep r R hR;have hgd:=T.str.gdis r R hR
    obtain⟨W,hW⟩:=T.str.weak (ρ':=(K.roots S).set r none) (G':=fun b=>G b∨C1.F r b) (fun i R' h=>by
      by_cases e:i=r
      ·subst e;rw[Yb.Yo] at h;cases h
      ·rwa [Yb.Ym _ _ e] at h)
     (fun b hb=>hb.imp id (fun hb=>⟨r,R,hR,Yb.Yo _ _ _,hb⟩))
    have Wg:=T.str.Ycg hW ⟨fun i _=>i=r,fun i _=>i=r⟩
     (fun i R' q h1 h2=>by rw[Yb.Ym _ _ h2];exact h1) (fun i R' q h1 h2=>by rw[Yb.Ym _ _ h2];exact h1)
    refine⟨C1,_,C1.F r,fun b=>G b∨C1.F r b,⟨by rw[hk'];exact W,by rw[hk'];exact T.gs.trans Wg,T.L,?_,?_,?_,?_⟩,fun _ h=>.inl h,fun _ h=>.inr h,
     fun b h1 h2=>hgd b (.inl h1) h2,fun _ h=>h,o,e,x,ho,rfl,hold,?_,by rw[hk'];exact hW⟩
    ·intro i R' h
     rw[hk'] at h
     by_cases e:i=r
     ·subst e;rw[Yb.Yo] at h;cases h
     ·rw[Yb.Ym _ _ e] at h;exact T.lay i R' h
    ·rintro i q (h | h)
     ·exact Yb3.1 i q (T.cl i q h)
     ·exact⟨_,List.mem_cons_self,h.symm,rfl⟩
    ·rintro i q (h | h)
     ·exact Yb3.2 i q (T.cs i q h)
     ·exact⟨_,List.mem_cons_self,h.symm,rfl⟩
    ·intro i R' q o' e' xs' h hg
     rw[hk'] at h
     by_cases e:i=r
     ·subst e;rw[Yb.Yo] at h;cases h
     ·rw[Yb.Ym _ _ e] at h;exact T.ty i R' q o' e' xs' h hg
    ·rw[hRtv,T.L] at hrep;exact hrep
   ·
    have hF:takeC K r p R (.cl o (.sl e) x)=Ym6 K r p R (.cl o (.sl e) x):=by
     unfold takeC
     cases p with
     |nil=>cases hk:R.k with
      |reg=>exact absurd ⟨rfl,hk⟩ hpk
      |mem=>rfl
     |cons a p=>rfl
    rw[hF] at h;unfold Ym6 at h
    split at h
    ·rename_i tv hset
     have hn:nav w R.tv (C1.L r) p=some s:=by
      rw[T.L];rcases hfn with hfl | rfl
      ·exact Ylr p hfl hlay.symm hn0 hget
      ·exact hn0
     cases h
     ·obtain⟨Fo,Fr,f1,f2,f3,f4,f5,f6,f7⟩:=T.str.put hR hn hget hset (by rfl)
      have hk':(⟨(r,some ⟨R.k,tv⟩)::K.rt,(r,some p)::K.ks⟩:Yk).roots S=(K.roots S).set r (some ⟨R.k,tv⟩):=by
       funext i
       unfold Yk.roots Yb.set
       by_cases e:i=r
       ·subst e;rw[Yl,if_pos rfl]
       ·rw[Yu e,if_neg e]
      obtain⟨W,Wg⟩:=f7 w noB (fun b=>G b∨Fo b) ⟨fun i q=>i=r∧∃ t,q=p++t∧Path.flat t=false,fun i q=>i=r∧∃ t,q=p++t⟩
       ⟨rfl,fun b=>Kp.refl w s _ b⟩
       trivial (fun _ h=>h.elim) (fun b hb=>⟨hb,fun h=>h⟩) rfl rfl rfl
       (fun t b off hd hn=>by
        have ht:Path.flat t=true:=by
         cases hh:Path.flat t with
         |true=>rfl
         |false=>exact absurd ⟨rfl,t,rfl,hh⟩ hd
        cases t with
        |nil=>rw[Yf] at hn ⊢;exact hn
        |cons a t=>cases a<;>first | (simp[nav] at hn;done) | simp[Path.flat] at ht)
       (fun t s1 hd=>absurd ⟨rfl,t,rfl⟩ hd)
      have hsub:Ye (Mt Z (C1.Ydf r fun b=>Fr b∨noB b) ((K.roots S).set r (some ⟨R.k,tv⟩)) (fun b=>G b∨Fo b)) (Mt Z C1 (K.roots S) G):=by
       rintro b (⟨i,R',h1,h2⟩ | (h | h) | h)
       ·by_cases e:i=r
        ·subst e;rw[Yb.Yo] at h1;cases h1
         refine .inl ⟨i,R,hR,?_⟩;rcases h2 with h2 | h2
         ·simp only[Cx.Ydf,if_true] at h2
          rcases h2 with h2 | h2
          ·exact .inl (f2 b h2)
          ·exact h2.elim
         ·exact .inr h2
        ·rw[Yb.Ym _ _ e] at h1
         refine .inl ⟨i,R',h1,?_⟩;unfold Tot at h2;simp only[Cx.Ydf,if_neg e] at h2;exact h2
       ·exact .inr (.inl h)
       ·exact .inl ⟨r,R,hR,.inl (f1 b h)⟩
       ·exact .inr (.inr h)
      refine⟨C1.Ydf r fun b=>Fr b∨noB b,_,Fo,fun b=>G b∨Fo b,⟨by rw[hk'];exact W,by rw[hk'];exact T.gs.trans Wg,T.L,?_,?_,?_,?_⟩,fun _ h=>.inl h,fun _ h=>.inr h,
       fun b h1 h2=>T.str.gdis r R hR b (.inl (f1 b h1)) h2,fun _ h=>h,o,e,x,ho,rfl,hold,f4,by rw[hk'];exact hsub⟩
      ·intro i R' h
       rw[hk'] at h
       by_cases e:i=r
       ·subst e;rw[Yb.Yo] at h;cases h
        exact⟨R0,hR0,by rw[f6];exact hlay,hkind⟩
       ·rw[Yb.Ym _ _ e] at h;exact T.lay i R' h
      ·rintro i q (h | ⟨rfl,t,rfl,ht⟩)
       ·exact Yb3.1 i q (T.cl i q h)
       ·exact⟨_,List.mem_cons_self,rfl,by show Path.far p (p++t)=true;rw[Path.Yh3,ht];rfl⟩
      ·rintro i q (h | ⟨rfl,t,rfl⟩)
       ·exact Yb3.2 i q (T.cs i q h)
       ·exact⟨_,List.mem_cons_self,rfl,Path.Yh0 p t⟩
      ·intro i R' q o' e' xs' h hg
       rw[hk'] at h
       by_cases e:i=r
       ·subst e;rw[Yb.Yo] at h;cases h
        obtain⟨o2,h2⟩:=Ymg p hset hg;exact T.ty i R q o2 e' xs' hR h2
       ·rw[Yb.Ym _ _ e] at h;exact T.ty i R' q o' e' xs' h hg
    ·cases h
  cases o with
  |sh=>cases h
  |top=>exact body (by simp) h
  |deep=>exact body (by simp) h
 ·cases h
end Mf
namespace Mf
open Go
set_option linter.unusedVariables false
set_option linter.unusedSimpArgs false
variable {Z:W0} {S:St} {C:Cx} {w:World} {K K':Yk} {G:Ya} {C1:Cx} {D:Dd}
def Ybg (Z:W0) (S:St) (C:Cx) (w:World) (K:Yk) (G:Ya) (C1:Cx) (K':Yk) (c:TV) (s:Src) (n:Nat):Prop:=
 ∃ C2 D2 F G',Yy Z S C w K' G' C2 D2∧Ye G G'∧Ye F G'∧Dis F G∧(∀ b,G' b→G b∨F b)∧
  Yc w (Mt Z C2 (K'.roots S) G') (Yi w (Mt Z C S.root noB) C.L S.root) c s F∧Ye (Mt Z C2 (K'.roots S) G') (Mt Z C1 (K.roots S) G)∧c.size=n
theorem Ycj (T:Yy Z S C w K G C1 D) {r:Nat} {p:Path} {c:TV} {s':Src} {u:Value} (hu:Yi w (Mt Z C S.root noB) C.L S.root (.seg r p) u) (hs:s'.cell w 0=some u)
  (h:(Ybv K r p).run S=some (c,K')):Ybg Z S C w K G C1 K' c s' 1∧∃ o e,∃ x:List e.El,o≠.sh∧c=.cl o (.sl e) x∧∃ R0 o0,S.root r=some R0∧R0.tv.get p=some (.cl o0 (.sl e) x):=by
 obtain⟨R0,s,o0,e0,xs0,h1,h2,h3,h4,_⟩:=hu
 have key:∀ R,K.roots S r=some R→(p.flat=true∨R=R0)→(Yhb K r p R).run S=some (c,K')→Ybg Z S C w K G C1 K' c s' 1∧∃ o e,∃ x:List e.El,o≠.sh∧c=.cl o (.sl e) x∧∃ R0 o0,S.root r=some R0∧R0.tv.get p=some (.cl o0 (.sl e) x):=by
  intro R hR hfn h;obtain⟨C2,D2,F,G',t1,t2,t3,t4,t5,o,e,x,ho,rfl,⟨o0,hold⟩,hr,hm⟩:=Ynb T hR h1 h2 hfn h;refine⟨⟨C2,D2,F,G',t1,t2,t3,t4,t5,?_,hm,rfl⟩,o,e,x,ho,rfl,R0,o0,h1,hold⟩
  have:Rep w (Mt Z C1 (K.roots S) G) (.sl e) o x s' F:=hr.mv (fun i hi=>by
   have:i=0:=by simp[Ty.size] at hi;exact hi
   subst this;rw[hs,h4])
  exact Yc.mono (tv:=.cl o (.sl e) x) this hm
 unfold Ybv at h
 split at h
 ·rename_i R hR
  split at h
  ·rename_i hfl;exact key R (by unfold Yk.roots;rw[hR]) (.inl hfl) h
  ·cases h
 ·cases h
 ·rename_i hR
  simp only[RD.run] at h
  split at h
  ·rename_i R hR'
   exact key R (by unfold Yk.roots;rw[hR];exact hR') (.inr (by rw[h1] at hR';exact(Option.some.inj hR').symm)) h
  ·cases h
theorem Rep.cut {M:Ya} {o:Ow} {e:Ty} {xs:List e.El} {s s':Src} {F:Ya} {A A':Option Addr} {len c c' lo n:Nat} (h:Rep w M (.sl e) o xs s F) (hc:s.cell w 0=some (.slice A len c))
  (hc':s'.cell w 0=some (.slice A' n c')) (h1:lo+n≤xs.length) (h2:n≤c') (h3:lo+c'≤c) (h4:c'≠0→A'=A.map (fun ad=>ad.add (lo*e.size))) :
  Rep w M (.sl e) o ((xs.drop lo).take n) s' F:=by
 obtain⟨A0,c0,q1,q2,q3⟩:=h;rw[hc] at q1;cases q1
 have hlen:((xs.drop lo).take n).length=n:=by simp;omega
 have own:∀ o:Ow,(c≠0→∃ b off,∃ Fs:Nat→Ya,A=some ⟨b,off,none⟩∧F b∧Room w b off (c*e.size)∧
   (∀ i (h:i<xs.length),Rep w M e o.elem (xs[i]'h) (.mem b (off+i*e.size)) (Fs i)∧Ye (Fs i) F∧¬ Fs i b)∧(∀ i j,i<j→j<xs.length→Dis (Fs i) (Fs j)))→
   (c'≠0→∃ b off,∃ Fs:Nat→Ya,A'=some ⟨b,off,none⟩∧F b∧Room w b off (c'*e.size)∧
   (∀ i (h:i<((xs.drop lo).take n).length),Rep w M e o.elem (((xs.drop lo).take n)[i]'h) (.mem b (off+i*e.size)) (Fs i)∧Ye (Fs i) F∧¬ Fs i b)∧(∀ i j,i<j→j<((xs.drop lo).take n).length→Dis (Fs i) (Fs j))):=by
  intro o q3 hne
  obtain⟨b,off,Fs,r1,r2,r3,r4,r5⟩:=q3 (by omega)
  refine⟨b,off+lo*e.size,fun i=>Fs (lo+i),by rw[h4 hne,r1];simp[Addr.add_mid],r2,fun i hi=>?_,fun i hi=>?_,fun i j hij hj=>r5 _ _ (by omega) (by omega)⟩
  ·have:lo*e.size+i<c*e.size:=by
    calc lo*e.size+i<lo*e.size+c'*e.size:=by omega
     _=(lo+c')*e.size:=by rw[Nat.add_mul]
     _≤c*e.size:=Nat.mul_le_mul_right _ h3
   have:=r3 _ this
   rwa [show off+lo*e.size+i=off+(lo*e.size+i) by omega]
  ·simp only[List.getElem_take,List.getElem_drop]
   rw[show off+lo*e.size+i*e.size=off+(lo+i)*e.size by rw[Nat.add_mul];omega]
   exact r4 (lo+i) (by omega)
 refine⟨A',c',by rw[hlen];exact hc',by rw[hlen];exact h2,?_⟩
 cases o with
 |sh=>
  intro hne
  have hn:0<n:=by rw[←hlen];exact List.length_pos_iff.2 hne
  obtain⟨b,off,r1,r2,r3,r4⟩:=q3 (by intro h0;subst h0;simp at h1;omega)
  refine⟨b,off+lo*e.size,by rw[h4 (by omega),r1];simp[Addr.add_mid],r2,r3,fun i hi=>?_⟩
  simp only[List.getElem_take,List.getElem_drop]
  rw[show off+lo*e.size+i*e.size=off+(lo+i)*e.size by rw[Nat.add_mul];omega]
  exact r4 (lo+i) (by omega)
 |top=>exact own .top q3
 |deep=>exact own .deep q3
theorem Rep.nil {M:Ya} {o:Ow} {e:Ty} {s:Src} {A:Option Addr} (h:s.cell w 0=some (.slice A 0 0)):Rep w M (.sl e) o ([]:List e.El) s noB:=by
 refine⟨A,0,h,Nat.le_refl _,?_⟩
 cases o with
 |sh=>exact fun h=>absurd rfl h
 |top=>exact fun h=>absurd rfl h
 |deep=>exact fun h=>absurd rfl h
theorem Ybg.stay (T:Yy Z S C w K G C1 D) {c:TV} {s:Src} {n:Nat} (h:Yc w (Mt Z C S.root noB) (Yi w (Mt Z C S.root noB) C.L S.root) c s noB) (hm:Ye (Mt Z C1 (K.roots S) G) (Mt Z C S.root noB)) (hn:c.size=n) :
  Ybg Z S C w K G C1 K c s n:=
 ⟨C1,D,noB,G,T,fun _ h=>h,fun _ h=>h.elim,fun _ h=>h.elim,fun _ h=>.inl h,h.mono hm,fun _ h=>h,hn⟩
theorem Yck (q np:Nat):∀ (v:TV) (t:Ty) {K K':Yk} {G:Ya} {C1:Cx} {D:Dd} {c:TV} {s:Src},Yy Z S C w K G C1 D→Ye (Mt Z C1 (K.roots S) G) (Mt Z C S.root noB)→
  Yc w (Mt Z C S.root noB) (Yi w (Mt Z C S.root noB) C.L S.root) v s noB→(Ya6 q np K t v).run S=some (c,K')→Ybg Z S C w K G C1 K' c s v.size:=by
 intro v
 induction v with
 |cl o t' x=>
  intro t K K' G C1 D c s T hm hr h
  cases t<;>simp only[Ya6,RD.run] at h<;>(cases h;exact Ybg.stay T hr hm rfl)
 |nl=>
  intro t K K' G C1 D c s T hm hr h
  cases t with
  |sl e=>
   simp only[Ya6,RD.run] at h;cases h;obtain⟨u,h1,A,rfl⟩:=id hr;unfold Yrm
   split
   ·exact Ybg.stay T hr hm rfl
   ·split
    ·exact Ybg.stay T (c:=.cl .deep (.sl e) []) (Rep.nil h1) hm rfl
    ·exact Ybg.stay T (c:=.cl .top (.sl e) []) (Rep.nil h1) hm rfl
   ·exact Ybg.stay T (c:=.cl .sh (.sl e) []) (Rep.nil h1) hm rfl
   ·exact Ybg.stay T (c:=.cl .deep (.sl e) []) (Rep.nil h1) hm rfl
  |_=>cases h
 |pr a b iha ihb=>
  intro t K K' G C1 D c s T hm hr h
  cases t with
  |pair t1 t2=>
   simp only[Ya6] at h;replace h:=RD.bind_some h;obtain⟨⟨a',K1⟩,h1,h⟩:=h;replace h:=RD.bind_some h;obtain⟨⟨b',K2⟩,h2,h⟩:=h;cases h;obtain⟨F1,F2,r1,r2,_,_,_⟩:=hr
   have r1':=r1.sub (G:=noB) (by assumption)
   have r2':=r2.sub (G:=noB) (by assumption)
   obtain⟨C2,D2,Fa,Ga,t1',g1,f1,d1,e1,ra,m1,s1⟩:=iha t1 T hm r1' h1;obtain⟨C3,D3,Fb,Gb,t2',g2,f2,d2,e2,rb,m2,s2⟩:=ihb t2 t1' (fun b hb=>hm b (m1 b hb)) r2' h2;refine⟨C3,D3,fun b=>Fa b∨Fb b,Gb,t2',fun b hb=>g2 b (g1 b hb),fun b hb=>hb.elim (fun h=>g2 b (f1 b h)) (f2 b),?_,?_,?_,fun b hb=>m1 b (m2 b hb),?_⟩
   ·rintro b (h | h) hg
    ·exact d1 b h hg
    ·exact d2 b h (g1 b hg)
   ·intro b hb
    rcases e2 b hb with h | h
    ·rcases e1 b h with h | h
     ·exact .inl h
     ·exact .inr (.inl h)
    ·exact .inr (.inr h)
   ·refine Yem ⟨Fa,Fb,ra.mono m2,by rw[s1];exact rb,fun _ h=>.inl h,fun _ h=>.inr h,fun b h1 h2=>d2 b h2 (f1 b h1)⟩
   ·have:(Yal a' b').size=a'.size+b'.size:=by rw[←TV.lay_size,Yei,Lay.size,TV.lay_size,TV.lay_size]
    rw[this,s1,s2];rfl
  |_=>cases h
 |seg r p=>
  intro t K K' G C1 D c s T hm hr h
  have h':(match Nat.blt r np with
   |true=>(RD.ret (.seg r p,K):RD (TV×Yk))
   |false=>Ybv K r p).run S=some (c,K'):=by cases t<;>exact h
  split at h'
  ·cases h';exact Ybg.stay T hr hm rfl
  ·obtain⟨u,h1,h2⟩:=hr
   exact(Ycj T h2 h1 h').1
 |sub r p lo n=>
  intro t K K' G C1 D c s T hm hr h
  have h':((Ybv K r p).bind fun(v,k)=>match Ynk lo n v with | some v=>.ret (v,k) | none=>(RD.fail:RD (TV×Yk))).run S=some (c,K'):=by cases t<;>exact h
  ·replace h':=RD.bind_some h';obtain⟨⟨v0,K0⟩,h1,h'⟩:=h'
   obtain⟨u,q1,R,s0,o,e,xs,A,len,c0,A',c',q2,q3,q4,q5,q6,q7,q8,q9,q10⟩:=hr;obtain⟨⟨C2,D2,F,G',t1,t2,t3,t4,t5,t6,t7,t8⟩,o',e',x',ho,rfl,R1,o1,hR1,hg1⟩:=Ycj (s':=.reg [.slice A len c0] 0) T (u:=.slice A len c0) ⟨R,s0,o,e,xs,q2,q3,q4,q5,_,_,_,rfl⟩ rfl h1;simp only[Ynk] at h';cases h';rw[q2] at hR1;cases hR1;rw[Yeb hg1] at q4;cases q4;refine⟨C2,D2,F,G',t1,t2,t3,t4,t5,?_,t7,rfl⟩
   exact Rep.cut (s':=s) t6 rfl (by rw[q1,q6]) q7 q8 q9 q10
 |loc r p=>intro t K K' G C1 D c s T hm hr h;cases t<;>simp only[Ya6,RD.run] at h<;>(cases h;exact Ybg.stay T hr hm rfl)
 |pt ty x=>intro t K K' G C1 D c s T hm hr h;cases t<;>simp only[Ya6,RD.run] at h<;>(cases h;exact Ybg.stay T hr hm rfl)
 |clo f x=>intro t K K' G C1 D c s T hm hr h;cases t<;>simp only[Ya6,RD.run] at h<;>(cases h;exact Ybg.stay T hr hm rfl)
 |_=>intro t K K' G C1 D c s T hm hr h;cases t<;>cases h
end Mf
namespace Mf
open Go
set_option linter.unusedVariables false
set_option linter.unusedSimpArgs false
variable {Z:W0} {S:St} {C:Cx} {w w':World} {K:Yk} {G:Ya} {C1:Cx} {D:Dd} {a:Act}
structure Yb8 (w w':World) (G G1:Ya):Prop where
 sz:w.heap.size≤w'.heap.size
 same:∀ b,b<w.heap.size→¬ G b→Same w w' b
 g:∀ b,G1 b→G b∨(w.heap.size≤b∧b<w'.heap.size)
 os:w'.os=w.os
 tape:w'.tape=w.tape
 output:w'.output=w.output
theorem Yb8.refl (w:World) (G:Ya):Yb8 w w G G:=⟨Nat.le_refl _,fun _ _ _=>rfl,fun _ h=>.inl h,rfl,rfl,rfl⟩
theorem Ymf {np d:Nat} {v:TV} {rt:Root} {p:Patch} (h:(Yam np d v rt K).run S=some p) :
  np≤d∧p.tm=[(d,v)]∧p.rt=(d,some rt)::K.rt∧(∀ k∈K.ks,k∈p.ks)∧(∀ R,S.root d=some R→(d,none)∈p.ks):=by
 unfold Yam at h
 split at h
 ·cases h
 ·rename_i hnp
  have hle:np≤d:=by
   rcases Nat.lt_or_ge d np with h' | h'
   ·have:Nat.blt d np=true:=by simpa using h'
    rw[this] at hnp;cases hnp
   ·exact h'
  simp only[RD.run] at h
  split at h
  ·cases h;exact⟨hle,rfl,rfl,fun k hk=>List.mem_cons_of_mem _ hk,fun R _=>List.mem_cons_self⟩
  ·rename_i hr;cases h;exact⟨hle,rfl,rfl,fun k hk=>hk,fun R hR=>absurd hR (by rw[hr];simp)⟩
theorem Yeo (I:Inv Z S C a w) (T:Yy Z S C w K G C1 D) {np d:Nat} {v:TV} {rt:Root} {p:Patch} {u:Value} {s:Src} {Fn G1:Ya}
  (h:(Yam np d v rt K).run S=some p) (hnp:∀ i,np≤i→Z.P i=none) (hgd:Yw S (some d)) (hd:d<Z.nt)
  (H:Yb8 w w' G G1)
  (hr:∀ M,Ye M (fun b=>Mt Z C1 (K.roots S) G b∨w.heap.size≤b)→(∀ b,G b→¬ G1 b→¬ M b)→Ye G1 M→Yc w' M (Yi w (Mt Z C S.root noB) C.L S.root) rt.tv s Fn) (hF:Ye Fn G1)
  (hk:(rt.k=.reg∧∃ cs,s=.reg cs 0)∨(rt.k=.mem∧∃ b off,s=.mem b off∧G1 b∧¬ Fn b∧Room w' b off rt.tv.size))
  (hv:∀ M L ρ,L d=s→ρ d=some rt→Ygj w' M L ρ (a.put (some d) u) v u) :
  ∃ C',Inv Z (S.ap p) C' (a.put (some d) u) w':=by
 obtain⟨hle,hptm,hprt,hks1,hks2⟩:=Ymf h
 have hρ:p.roots S=((K.roots S).set d none).set d (some rt):=by
  funext i
  unfold Patch.roots Yk.roots Yb.set;rw[hprt]
  by_cases e:i=d
  ·subst e;rw[Yl];simp
  ·rw[Yu e];simp only[if_neg e];cases lk i K.rt<;>rfl
 obtain⟨W1,m1⟩:=T.str.weak (ρ':=(K.roots S).set d none) (G':=G) (fun i R' h=>by
   by_cases e:i=d
   ·subst e;rw[Yb.Yo] at h;cases h
   ·rwa [Yb.Ym _ _ e] at h) (fun b hb=>.inl hb)
 have g1:=T.str.Ycg m1 ⟨fun i _=>i=d,fun i _=>i=d⟩
  (fun i R' q h1 h2=>by rw[Yb.Ym _ _ h2];exact h1) (fun i R' q h1 h2=>by rw[Yb.Ym _ _ h2];exact h1)
 obtain⟨W2,g2⟩:=W1.hand H.sz H.same H.g H.os H.tape H.output
 have hsub:Ye (Mt Z C1 ((K.roots S).set d none) G1) (fun b=>Mt Z C1 (K.roots S) G b∨w.heap.size≤b):=by
  rintro b (h | h | h)
  ·exact .inl (m1 b (.inl h))
  ·rcases H.g b h with h | h
   ·exact .inl (.inr (.inl h))
   ·exact .inr h.1
  ·exact .inl (.inr (.inr h))
 have hex:∀ b,G b→¬ G1 b→¬ Mt Z C1 ((K.roots S).set d none) G1 b:=by
  rintro b hG hG1 (⟨r,R',h1,h2⟩ | h | h)
  ·refine T.str.gdis r R' ?_ b h2 hG
   by_cases e:r=d
   ·subst e;rw[Yb.Yo] at h1;cases h1
   ·rwa [Yb.Ym _ _ e] at h1
  ·exact hG1 h
  ·exact(T.str.gbnd b hG).2.2.1 h
 obtain⟨W3,g3⟩:=W2.new (d:=d) (R:=rt) (s:=s) (Fn:=Fn) (G':=noB) (Yb.Yo _ _ _) (hnp d hle) (hr _ hsub hex (fun b h=>.inr (.inl h))) hF (fun _ h=>h.elim) (fun _ h=>h.elim)
  (by
   rcases hk with hk | ⟨k1,b,off,k2,k3,k4,k5⟩
   ·exact .inl hk
   ·exact .inr ⟨k1,b,off,k2,k3,k4,fun h=>h,k5⟩)
 refine⟨C1.set d s Fn,Inv.ap (Q:=fun _ _=>False) (dst:=some d) I (by rw[hρ];exact W3.lf (fun _ _ h=>.inl h)) (by rw[hρ];exact((T.gs.trans g1).trans g2).trans g3)
  (fun _ _ h=>h.elim) ?_ ?_ hgd ?_ ?_⟩
 ·rintro r q R hR (((h | h) | h) | h)
  ·obtain⟨k,k1,k2⟩:=T.cl r q h;exact⟨k,hks1 k k1,k2⟩
  ·cases h;exact⟨_,hks2 R hR,rfl,rfl⟩
  ·exact h.elim
  ·exact h.elim
 ·rintro r q R hR (((h | h) | h) | h)
  ·obtain⟨k,k1,k2⟩:=T.cs r q h;exact⟨k,hks1 k k1,k2⟩
  ·cases h;exact⟨_,hks2 R hR,rfl,rfl⟩
  ·exact h.elim
  ·exact h.elim
 ·intro d' e;cases e;exact⟨hd,v,by rw[hptm];exact Yl _ _ _⟩
 ·intro i v' h
  rw[hptm] at h
  by_cases e:i=d
  ·subst e;rw[Yl] at h;cases h
   exact⟨rfl,hv _ _ _ (by simp[Cx.set]) (by rw[hρ,Yb.Yo])⟩
  ·rw[Yu e] at h;cases h
theorem Ydg (I:Inv Z S C a w) (T:Yy Z S C w K G C1 D) {np d:Nat} {v:TV} {rt:Root} {p:Patch} {u:Value} {s:Src} {Fn G1:Ya}
  (h:(Yam np d v rt K).run S=some p) (hnp:∀ i,np≤i→Z.P i=none) (hgd:Yw S (some d)) (hd:d<Z.nt)
  (H:Yb8 w w' G G1)
  (hr:∀ M,Ye M (fun b=>Mt Z C1 (K.roots S) G b∨w.heap.size≤b)→Yc w' M (Yi w (Mt Z C S.root noB) C.L S.root) rt.tv s Fn) (hF:Ye Fn G1)
  (hk:(rt.k=.reg∧∃ cs,s=.reg cs 0)∨(rt.k=.mem∧∃ b off,s=.mem b off∧G1 b∧¬ Fn b∧Room w' b off rt.tv.size))
  (hv:∀ M L ρ,L d=s→ρ d=some rt→Ygj w' M L ρ (a.put (some d) u) v u) :
  ∃ C',Inv Z (S.ap p) C' (a.put (some d) u) w':=
 Yeo I T h hnp hgd hd H (fun M hM _ _=>hr M hM) hF hk hv
def Yad (w:World) (cs:Array Value) (e:TypeId):World:={w with heap:=w.heap.push (.cells cs e) }
theorem Ypo (w:World) (cs:Array Value) (e:TypeId):(Yad w cs e).heap[w.heap.size]? = some (.cells cs e):=by
 show(w.heap.push (.cells cs e))[w.heap.size]? = _;rw[Array.getElem?_push_size]
theorem Ydo (w:World) (cs:Array Value) (e:TypeId) (i:Nat):(Yad w cs e).cell? ⟨w.heap.size,i,none⟩=cs[i]?:=by
 simp only[World.cell?,Ypo];rfl
theorem Ym9 (w:World) (cs:Array Value) (e:TypeId) (i:Nat):(Yad w cs e).frozen? ⟨w.heap.size,i,none⟩=false:=by
 simp only[World.frozen?,Ypo];simp
theorem Ycm (w:World) (cs:Array Value) (e:TypeId) {b:Nat} (h:b<w.heap.size):Same w (Yad w cs e) b:=by
 unfold Same Yad;simp[Array.getElem?_push,Nat.ne_of_lt h]
theorem Ygv (w:World) (cs:Array Value) (e:TypeId) (G:Ya):Yb8 w (Yad w cs e) G (fun b=>G b∨b=w.heap.size) where
 sz:=by simp[Yad]
 same:=fun b hb _=>Ycm w cs e hb
 g:=fun b h=>h.imp id (fun h=>by subst h;exact⟨Nat.le_refl _,by simp[Yad]⟩)
 os:=rfl
 tape:=rfl
 output:=rfl
theorem Ygt (w:World) (cs:Array Value) (e:TypeId) {n:Nat} (h:n≤cs.size):Room (Yad w cs e) w.heap.size 0 n:=by
 intro i hi;rw[Nat.zero_add,Ydo,Ym9]
 exact⟨by simp;omega,rfl⟩
theorem Yc.push {M M1:Ya} {Lf:TV→Value→Prop} {c:TV} {s:Src} {F:Ya} (h:Yc w M1 Lf c s F) (cs:Array Value) (e:TypeId) (hM:Ye M (fun b=>M1 b∨w.heap.size≤b)) (hF:∀ b,F b→b<w.heap.size)
  (hs:∀ b off,s=.mem b off→b<w.heap.size):Yc (Yad w cs e) M Lf c s F:=by
 refine h.go ⟨by simp[Yad],fun b hb=>Ycm w cs e (hF b hb),fun b h1 h2=>⟨Ycm w cs e h2,fun h=>(hM b h).elim h1 (fun h=>by omega)⟩⟩ (fun i _=>?_) (fun _ _ x=>x)
 cases s with
 |reg cs o=>rfl
 |mem b off=>exact(Ycm w cs e (hs b off rfl)).cell _
theorem Yr:∀ t:Ty,(Yx t).length=t.size:=by
 intro t
 induction t with
 |pair a b iha ihb=>simp[Yx,Ty.size,iha,ihb]
 |arr n e ih=>simp[Yx,Ty.size,ih]
 |_=>rfl
theorem Yow (n:Nat) (e:Ty) {i j:Nat} (hi:i<n) (hj:j<e.size):(Yx (.arr n e))[i*e.size+j]? = (Yx e)[j]?:=by
 simp only[Yx]
 induction n generalizing i with
 |zero=>omega
 |succ n ih=>
  rw[List.replicate_succ,List.flatten_cons]
  cases i with
  |zero=>rw[Nat.zero_mul,Nat.zero_add,List.getElem?_append_left (by rw[Yr];exact hj)]
  |succ i=>
   rw[List.getElem?_append_right (by rw[Yr,Nat.add_mul];omega),Yr]
   rw[show(i+1)*e.size+j-e.size=i*e.size+j by rw[Nat.add_mul];omega]
   exact ih (by omega)
theorem Ybe {w:World} {M:Ya}:∀ (t:Ty) {o:Ow} {s:Src},(∀ i,i<t.size→s.cell w i=(Yx t)[i]?)→Rep w M t o t.zero s noB:=by
 intro t
 induction t with
 |int k=>intro o s h;exact h 0 (by simp[Ty.size])
 |bool=>intro o s h;exact h 0 (by simp[Ty.size])
 |str=>intro o s h;exact⟨⟨#[]⟩,h 0 (by simp[Ty.size]),rfl⟩
 |unit=>intro o s h;trivial
 |pair a b iha ihb=>
  intro o s h;refine⟨noB,noB,iha (fun i hi=>?_),ihb (fun i hi=>?_),fun _ x=>x.elim,fun _ x=>x.elim,fun _ x=>x.elim⟩
  ·rw[h i (by simp[Ty.size];omega)];simp only[Yx];rw[List.getElem?_append_left (by rw[Yr];exact hi)]
  ·rw[Src.Yj,h _ (by simp[Ty.size];omega)];simp only[Yx];rw[List.getElem?_append_right (by rw[Yr];omega),Yr]
   congr 1;omega
 |sl e ih=>intro o s h;exact Rep.nil (h 0 (by simp[Ty.size]))
 |arr n e ih=>
  intro o s h
  refine⟨by simp[Ty.zero],fun _=>noB,fun i hi=>⟨?_,fun _ x=>x.elim⟩,fun _ _ _ _ _ x=>x.elim⟩
  have hi':i<n:=by simpa [Ty.zero] using hi
  simp only[Ty.zero,List.getElem_replicate];refine ih (fun j hj=>?_);have:=Yay (n:=n) (sz:=e.size) hi'
  rw[Src.Yj,h _ (by simp only[Ty.size];omega),Yow n e hi' hj]
theorem Yho:∀ t:Ty,(Yc0 t).size=t.size:=by
 intro t
 induction t with
 |pair a b iha ihb=>simp only[Yc0];split<;>simp[TV.size,Ty.size,iha,ihb]
 |_=>rfl
theorem Yhk {M M':Ya} {w0:World} {L:Nat→Src} {ρ:Yb}:∀ (t:Ty) {s:Src},(∀ i,i<t.size→s.cell w i=(Yx t)[i]?)→Yc w M (Yi w0 M' L ρ) (Yc0 t) s noB:=by
 intro t
 induction t with
 |sl e ih=>intro s h;exact⟨_,h 0 (by simp[Ty.size]),none,rfl⟩
 |pair a b iha ihb=>
  intro s h;simp only[Yc0]
  split
  ·exact Ybe (.pair a b) h
  ·refine⟨noB,noB,iha (fun i hi=>?_),ihb (fun i hi=>?_),fun _ x=>x.elim,fun _ x=>x.elim,fun _ x=>x.elim⟩
   ·rw[h i (by simp[Ty.size];omega)];simp only[Yx];rw[List.getElem?_append_left (by rw[Yr];exact hi)]
   ·rw[Src.Yj,Yho,h _ (by simp[Ty.size];omega)];simp only[Yx];rw[List.getElem?_append_right (by rw[Yr];omega),Yr]
    congr 1;omega
 |int k=>intro s h;exact Ybe (.int k) h
 |bool=>intro s h;exact Ybe .bool h
 |str=>intro s h;exact Ybe .str h
 |unit=>intro s h;exact Ybe .unit h
 |arr n e ih=>intro s h;exact Ybe (.arr n e) h
theorem Yn0 {M:Ya} {L:Nat→Src} {ρ:Yb} (t:Ty) {s:Src} (h:∀ i,i<t.size→s.cell w i=(Yx t)[i]?):Yc w M (Yi w M L ρ) (Yc0 t) s noB:=Yhk t h
variable {P:Program} {tb:Tb} {g:Gd} {o:Oper} {hn:Hint}
def Done (P:Program) (o:Oper) (a:Act) (w:World) (Nx:Value→World→Prop):Prop:=
 (∃ u w',((execOp a.eval o).run P w=.ok (.value u) w'∨(u=undef∧(execOp a.eval o).run P w=.ok .skip w'))∧Nx u w')∨False
theorem Yrs (ht:Yag P tb) (I:Inv Z S C a w) {np d:Nat} {t:TypeId} (ho:o.op=.alloc t) (hd:o.dst=some d) {b:Option Bool} {p:Patch} (hnp:∀ i,np≤i→Z.P i=none) (hgd:Yw S (some d)) (hdn:d<Z.nt)
  (h:(doR tb hn np g o).run S=some (.step b p)):Done P o a w fun u w'=>∃ C',Inv Z (S.ap p) C' (a.put o.dst u) w':=by
 simp only[doR,ho,hd] at h;replace h:=RD.bind_some h;obtain⟨i,h1,h⟩:=h;replace h:=RD.bind_some h;obtain⟨p',h2,h⟩:=h;cases h;obtain⟨_,⟨j,hj,hjs,z,hz,hzc⟩⟩:=ht t i (Yp h1);refine .inl ⟨.pointer (some ⟨w.heap.size,0,none⟩),Yad w z.cells t,.inl ?_,?_⟩
 ·simp[execOp,ho,Instr.alloc,zeroValue,typeInfo,hj,hz,newVar,newRow,Yad]
 ·rw[hd]
  have hsz:i.ty.size=z.cells.size:=by rw[←Yr,←hzc];simp
  generalize hct:Yl7 hn d i.ty=ct at h2;unfold Yl7 at hct
  have hcs:ct.size=i.ty.size:=by rw[←hct];split<;>first | exact Yho _ | rfl
  have hcell:∀ k,k<i.ty.size→(Src.mem w.heap.size 0).cell (Yad w z.cells t) k=(Yx i.ty)[k]?:=fun k hk=>by
   simp only[Src.cell,Nat.zero_add];rw[Ydo,←hzc,Array.getElem?_toList]
  refine Ydg I (Yy.start I) (s:=.mem w.heap.size 0) (Fn:=noB) h2 hnp hgd hdn (Ygv w z.cells t noB) (fun M hM=>?_) (fun _ h=>h.elim)
   (.inr ⟨rfl,w.heap.size,0,rfl,.inr rfl,fun h=>h,Ygt w z.cells t (by show ct.size≤_;rw[hcs,←hsz];exact Nat.le_refl _)⟩) (fun M L ρ hL hρ=>?_)
  ·show Yc _ _ _ ct _ _
   rw[←hct]
   split
   ·exact Yhk i.ty hcell
   ·exact Ybe i.ty hcell
  ·exact Yd.Yah (v:=.loc d []) ⟨_,w.heap.size,0,hρ,by rw[Yf,hL],rfl⟩
end Mf
namespace Mf
open Go
set_option linter.unusedVariables false
set_option linter.unusedSimpArgs false
variable {Z:W0} {S:St} {C:Cx} {w w':World} {K:Yk} {G:Ya} {C1:Cx} {D:Dd} {a:Act}
variable {P:Program} {tb:Tb} {g:Gd} {o:Oper} {hn:Hint}
theorem VOk.rep {M:Ya} {L:Nat→Src} {ρ:Yb} {v:TV} {u:Value} (h:VOk w M L ρ v u) (hv:∀ l,v≠.tup l):Yc w M (Yi w M L ρ) v (.reg u.cells.toList 0) noB∧u.cells.size=v.size:=
 ⟨(h.val hv).1,(h.val hv).2.1⟩
theorem Ydw (q np:Nat) (t:Ty) (K:Yk) (l:TV) {r:TV×Yk} (h:(Ya6 q np K t (.tup l)).run S=some r):False:=by cases t<;>cases h
theorem Yu3 (I:Inv Z S C a w) {np d:Nat} {t:TypeId} {x:Operand} (ho:o.op=.box t x) (hd:o.dst=some d) {b:Option Bool} {p:Patch} (hnp:∀ i,np≤i→Z.P i=none) (hgd:Yw S (some d)) (hdn:d<Z.nt) (hg:Yax a g)
  (h:(doR tb hn np g o).run S=some (.step b p)):Done P o a w fun u w'=>∃ C',Inv Z (S.ap p) C' (a.put o.dst u) w':=by
 simp only[doR,ho,hd] at h;replace h:=RD.bind_some h;obtain⟨v,h1,h⟩:=h;have hv:=Yg I hg h1
 have hexec:(execOp a.eval o).run P w=.ok (.value (.pointer (some ⟨w.heap.size,0,none⟩))) (Yad w (a.eval x).cells t):=by
  simp[execOp,ho,Instr.box,newVar,newRow,Yad]
 rw[hd];unfold Yv6 at h
 split at h
 ·
  rename_i ty y hfz hfr;simp only[Bool.and_eq_true,Bool.not_eq_true'] at hfz;refine .inl ⟨_,_,.inl hexec,?_⟩
  obtain⟨oo,rfl,hshp⟩:∃ oo,v=.cl oo ty y∧(oo=.sh∨ty.pure=true):=by
   cases v with
   |cl oo t' y'=>
    simp only[TV.Ytk] at hfr
    split at hfr
    ·rename_i ho'
     cases hfr;refine⟨_,rfl,?_⟩;unfold Yju at ho'
     split at ho'
     ·cases ho'
     ·exact .inl ho'
    ·cases hfr
    ·split at hfr
     ·cases hfr;exact⟨_,rfl,.inr (by assumption)⟩
     ·cases hfr
   |_=>cases hfr
  have hval:=(hv:Yd _ _ _ _ _ _)
  have hrep:Rep w (Mt Z C S.root noB) ty .sh y (.reg (a.eval x).cells.toList 0) noB:=by
   rcases hshp with rfl | hp
   ·exact hval.1
   ·exact Rep.pure hp hval.1 (fun _ _=>rfl)
  have hpt:p.tm=[(d,.pt ty y)]∧p.rt=[(d,none)]∧(∀ R,S.root d=some R→(d,none)∈p.ks):=by
   simp only[RD.run] at h
   split at h
   ·cases h;exact⟨rfl,rfl,fun R _=>List.mem_cons_self⟩
   ·rename_i hr;cases h;exact⟨rfl,rfl,fun R hR=>absurd hR (by rw[hr];simp)⟩
  obtain⟨e1,e2,e3⟩:=hpt
  have hρ:p.roots S=Yb.set S.root d none:=by
   funext i
   unfold Patch.roots Yb.set;rw[e2]
   by_cases e:i=d
   ·subst e;rw[Yl,if_pos rfl]
   ·rw[Yu e,if_neg e];rfl
  obtain⟨W1,m1⟩:=I.str.weak (ρ':=Yb.set S.root d none) (G':=noB) (fun i R' h=>by
    by_cases e:i=d
    ·subst e;rw[Yb.Yo] at h;cases h
    ·rwa [Yb.Ym _ _ e] at h) (fun b hb=>.inl hb)
  have g1:=I.str.Ycg m1 ⟨fun i _=>i=d,fun i _=>i=d⟩
   (fun i R' q h1 h2=>by rw[Yb.Ym _ _ h2];exact h1) (fun i R' q h1 h2=>by rw[Yb.Ym _ _ h2];exact h1)
  obtain⟨W2,g2⟩:=W1.hand (w':=Yad w (a.eval x).cells t) (G':=noB) (by simp[Yad]) (fun b hb _=>Ycm w _ t hb) (fun b h=>h.elim) rfl rfl rfl
  refine⟨C,Inv.ap (Q:=fun _ _=>False) (dst:=some d) I (by rw[hρ];exact W2.lf (fun _ _ h=>.inl h)) (by rw[hρ];exact g1.trans g2) (fun _ _ h=>h.elim) ?_ ?_ hgd ?_ ?_⟩
  ·rintro r q R hR (h | h)
   ·cases h;exact⟨_,e3 R hR,rfl,rfl⟩
   ·exact h.elim
  ·rintro r q R hR (h | h)
   ·cases h;exact⟨_,e3 R hR,rfl,rfl⟩
   ·exact h.elim
  ·intro d' e;cases e;exact⟨hdn,_,by rw[e1];exact Yl _ _ _⟩
  ·intro i v' hl
   rw[e1] at hl
   by_cases e:i=d
   ·subst e;rw[Yl] at hl;cases hl
    refine⟨rfl,Yd.Yah (v:=.pt ty y) ⟨w.heap.size,0,rfl,?_,by simp[Yad],?_⟩⟩
    ·
     rintro(⟨r,R,k1,k2⟩ | k | k)
     ·rw[hρ] at k1
      rcases k2 with k2 | ⟨kk,off,k2⟩
      ·have:=(W1.bnd r R _ k1 k2).1;omega
      ·obtain⟨b',off',e',_,k3,_⟩:=W1.mem r R k1 kk
       rw[k2] at e';cases e';omega
     ·exact k
     ·have:=I.str.xb _ k;have:=I.str.sz;omega
    ·rw[hρ]
     refine(hrep.go (w':=Yad w (a.eval x).cells t) (M':=Mt Z C (Yb.set S.root i none) noB) ⟨by simp[Yad],fun b hb=>hb.elim,fun b k1 k2=>⟨Ycm w _ t k2,fun k=>k1 (m1 b k)⟩⟩ (fun _ _=>rfl)).mv (fun i hi=>?_)
     simp only[Src.cell,Nat.zero_add];rw[Ydo,Array.getElem?_toList]
   ·rw[Yu e] at hl;cases hl
 ·replace h:=RD.bind_some h;obtain⟨⟨c,K⟩,h2,h⟩:=h
  replace h:=RD.bind_some h;obtain⟨p',h3,h⟩:=h;cases h
  obtain⟨hr,hsz⟩:=hv.rep (fun l e=>by subst e;exact Ydw _ _ _ _ _ h2)
  obtain⟨C2,D2,F,G',T,g1,g2,g3,g4,rc,m,sc⟩:=Yck _ np v _ (Yy.start I) (fun _ h=>h) hr h2;have hb:∀ b,G' b→b<w.heap.size:=fun b h=>(T.str.gbnd b h).1;refine .inl ⟨.pointer (some ⟨w.heap.size,0,none⟩),Yad w (a.eval x).cells t,.inl hexec,?_⟩
  refine Ydg I T (s:=.mem w.heap.size 0) (Fn:=F) h3 hnp hgd hdn (Ygv w (a.eval x).cells t G') (fun M hM=>?_) (fun b h=>.inl (g2 b h))
   (.inr ⟨rfl,w.heap.size,0,rfl,.inr rfl,fun h=>absurd (hb _ (g2 _ h)) (Nat.lt_irrefl _),Ygt w _ t (by rw[sc,hsz];exact Nat.le_refl _)⟩) (fun M L ρ hL hρ=>?_)
  ·refine(rc.push (a.eval x).cells t hM (fun b h=>hb b (g2 b h)) (fun b off e=>by cases e)).mv (fun i hi=>?_)
   simp only[Src.cell,Nat.zero_add];rw[Ydo,Array.getElem?_toList]
  ·exact Yd.Yah (v:=.loc d []) ⟨_,w.heap.size,0,hρ,by rw[Yf,hL],rfl⟩
theorem Yis (I:Inv Z S C a w) (T:Yy Z S C w K G C1 D) {np d:Nat} {oo:Ow} {e:Ty} {xs:List e.El} {p:Patch} {u:Value} {A:Option Addr} {n c:Nat} {Fn G1:Ya}
  (h:(Yam np d (.seg d []) ⟨.reg,.cl oo (.sl e) xs⟩ K).run S=some p) (hnp:∀ i,np≤i→Z.P i=none) (hgd:Yw S (some d)) (hd:d<Z.nt)
  (H:Yb8 w w' G G1) (hu:u=.slice A n c)
  (hr:∀ M,Ye M (fun b=>Mt Z C1 (K.roots S) G b∨w.heap.size≤b)→(∀ b,G b→¬ G1 b→¬ M b)→Ye G1 M→Rep w' M (.sl e) oo xs (.reg [u] 0) Fn) (hF:Ye Fn G1) :
  ∃ C',Inv Z (S.ap p) C' (a.put (some d) u) w':=by
 refine Yeo I T h hnp hgd hd H hr hF (.inl ⟨rfl,[u],rfl⟩) (fun M L ρ hL hρ=>?_)
 exact Yd.Yah (v:=.seg d []) ⟨_,_,oo,e,xs,hρ,Yf _ _ _,TV.get_nil _,by rw[hL];rfl,A,n,c,hu⟩
theorem Yer (I:Inv Z S C a w) (T:Yy Z S C w K G C1 D) {np d:Nat} {oo:Ow} {e:Ty} {xs:List e.El} {p:Patch} {u:Value} {A:Option Addr} {n c:Nat} {Fn G1:Ya}
  (h:(Yam np d (.seg d []) ⟨.reg,.cl oo (.sl e) xs⟩ K).run S=some p) (hnp:∀ i,np≤i→Z.P i=none) (hgd:Yw S (some d)) (hd:d<Z.nt)
  (H:Yb8 w w' G G1) (hu:u=.slice A n c)
  (hr:∀ M,Ye M (fun b=>Mt Z C1 (K.roots S) G b∨w.heap.size≤b)→Rep w' M (.sl e) oo xs (.reg [u] 0) Fn) (hF:Ye Fn G1) :
  ∃ C',Inv Z (S.ap p) C' (a.put (some d) u) w':=by
 refine Ydg I T h hnp hgd hd H hr hF (.inl ⟨rfl,[u],rfl⟩) (fun M L ρ hL hρ=>?_)
 exact Yd.Yah (v:=.seg d []) ⟨_,_,oo,e,xs,hρ,Yf _ _ _,TV.get_nil _,by rw[hL];rfl,A,n,c,hu⟩
theorem Yu1 (ht:Yag P tb) (I:Inv Z S C a w) {np d:Nat} (ho:o.op=.assign (.const (.slice none 0 0))) (hd:o.dst=some d) {b:Option Bool} {p:Patch} (hnp:∀ i,np≤i→Z.P i=none) (hgd:Yw S (some d)) (hdn:d<Z.nt)
  (h:(doR tb hn np g o).run S=some (.step b p)):Done P o a w fun u w'=>∃ C',Inv Z (S.ap p) C' (a.put o.dst u) w':=by
 simp only[doR,ho,hd] at h;replace h:=RD.bind_some h;obtain⟨i,h1,h⟩:=h
 split at h
 ·rename_i e _
  replace h:=RD.bind_some h;obtain⟨p',h2,h⟩:=h;cases h
  refine .inl ⟨.slice none 0 0,w,.inl (by simp[execOp,ho,Act.eval]),?_⟩
  rw[hd];exact Yer I (Yy.start I) (Fn:=noB) h2 hnp hgd hdn (Yb8.refl w noB) rfl (fun M hM=>Rep.nil rfl) (fun _ h=>h.elim)
 ·cases h
theorem Ys3 {w:World} {M:Ya} {e:Ty} {xs:List e.El} {cs:Array Value} {te:TypeId} {len cap:Nat} (hlen:xs.length=len) (hc:len≤cap) (hs:cs.size=cap*e.size)
  {oo:Ow} (ho:oo≠.sh) {F:Ya} {Fs:Nat→Ya} (hF:F w.heap.size) (hFs:∀ i,i<len→Ye (Fs i) F∧¬ Fs i w.heap.size) (hd:∀ i j,i<j→j<len→Dis (Fs i) (Fs j))
  (hr:∀ i (h:i<xs.length),Rep (Yad w cs te) M e oo.elem (xs[i]'h) (.mem w.heap.size (0+i*e.size)) (Fs i)) :
  Rep (Yad w cs te) M (.sl e) oo xs (.reg [.slice (some ⟨w.heap.size,0,none⟩) len cap] 0) F:=by
 subst hlen;refine⟨_,cap,rfl,hc,?_⟩
 have own:cap≠0→∃ b off,∃ Fs:Nat→Ya,(some ⟨w.heap.size,0,none⟩:Option Addr)=some ⟨b,off,none⟩∧F b∧Room (Yad w cs te) b off (cap*e.size)∧
   (∀ i (h:i<xs.length),Rep (Yad w cs te) M e oo.elem (xs[i]'h) (.mem b (off+i*e.size)) (Fs i)∧Ye (Fs i) F∧¬ Fs i b)∧(∀ i j,i<j→j<xs.length→Dis (Fs i) (Fs j)):=
  fun _=>⟨w.heap.size,0,Fs,rfl,hF,Ygt w cs te (by omega),fun i hi=>⟨hr i hi,hFs i hi⟩,hd⟩
 cases oo with
 |sh=>exact absurd rfl ho
 |top=>exact own
 |deep=>exact own
theorem Ymt {z:Array Value} {e:Ty} {n i j:Nat} (hz:z.toList=Yx e) (hi:i<n) (hj:j<e.size):((Array.range (n*e.size)).map (z[· % z.size]!))[i*e.size+j]? = (Yx e)[j]?:=by
 have hsz:z.size=e.size:=by rw[←Yr,←hz];simp
 have h1:=Yay (n:=n) (sz:=e.size) hi
 have hlt:i*e.size+j<n*e.size:=by omega
 rw[Array.getElem?_map,Array.getElem?_eq_getElem (by simpa using hlt)]
 simp only[Option.map_some,Array.getElem_range]
 have hm:(i*e.size+j) % z.size=j:=by rw[hsz,Nat.mul_comm,Nat.mul_add_mod,Nat.mod_eq_of_lt hj]
 rw[hm,←hz,Array.getElem?_toList,Array.getElem?_eq_getElem (by omega:j<z.size)]
 simp[getElem!_pos,show j<z.size by omega]
theorem wrap_small {n:Int} (h0:0≤n) (h1:n≤2147483648):IntKind.i64.wrap n=n:=by
 unfold IntKind.wrap
 have:n % (2 ^ IntKind.i64.bits:Int)=n:=Int.emod_eq_of_lt h0 (by simp[IntKind.bits];omega)
 simp only[this];simp[IntKind.bits,IntKind.signed];omega
theorem run_makeSlice {t e:TypeId} {j:TypeInfo} {z:Value} {kn km:IntKind} {n m:Int} {w:World} (hd:P.underlying t=some (.slice e)) (hj:P.info? e=some j) (hz:j.zero=some z) (hby:j.bytes≤4096)
  (h0:0≤n) (h1:n≤m) (h2:m≤2147483648) :
  ∃ cs:Array Value,(Instr.makeSlice t (.int kn n) (.int km m)).run P w=.ok (.slice (some ⟨w.heap.size,0,none⟩) n.toNat m.toNat) (Yad w cs e)∧
   (cs=(Array.range (m.toNat*j.size)).map (z.cells[· % z.cells.size]!)∨(m.toNat*j.size=0∧cs=#[])):=by
 have wn:=wrap_small h0 (by omega)
 have wm:=wrap_small (n:=m) (by omega) h2
 have hby':(j.bytes:Int)*m≤281474976710656:=by
  have:(j.bytes:Int)*m≤4096*m:=Int.mul_le_mul_of_nonneg_right (by omega) (by omega)
  omega
 have t1:¬ (m<0):=by omega
 have t2:¬ (n<0):=by omega
 have t3:¬ ((j.bytes:Int)*m>281474976710656):=by omega
 have t4:¬ (n>m):=by omega
 by_cases hzero:m.toNat*j.size=0
 ·refine⟨#[],?_,.inr ⟨hzero,rfl⟩⟩
  simp[Instr.makeSlice,run_underlying hd,asInt,asIntOf,Ye6 hj,wn,wm,t1,t2,t3,t4,Y1 hj,hzero,newRow,Yad,h0,h1]
  have e0:(Array.range 0)=#[]:=Array.eq_empty_of_size_eq_zero (by simp)
  simp[e0]
 ·refine⟨_,?_,.inl rfl⟩
  simp[Instr.makeSlice,run_underlying hd,asInt,asIntOf,Ye6 hj,wn,wm,t1,t2,t3,t4,Y1 hj,hzero,newRow,Yad,zeroValue,hz,h0,h1]
theorem Yk7 (ht:Yag P tb) (I:Inv Z S C a w) {np d:Nat} {t:TypeId} {l c:Operand} (ho:o.op=.makeSlice t l c) (hd:o.dst=some d) {b:Option Bool} {p:Patch} (hnp:∀ i,np≤i→Z.P i=none) (hgd:Yw S (some d)) (hdn:d<Z.nt) (hg:Yax a g)
  (h:(doR tb hn np g o).run S=some (.step b p)) (hb:b≠some false):Done P o a w fun u w'=>∃ C',Inv Z (S.ap p) C' (a.put o.dst u) w':=by
 simp only[doR,ho,hd] at h;replace h:=RD.bind_some h;obtain⟨vl,h1,h⟩:=h;replace h:=RD.bind_some h;obtain⟨vc,h2,h⟩:=h;replace h:=RD.bind_some h;obtain⟨i,h3,h⟩:=h;have hl:=Yg I hg h1;have hc:=Yg I hg h2;obtain⟨⟨dd,hdd,hdk,_⟩,_⟩:=ht t i (Yp h3)
 split at h
 ·rename_i k1 n _ k2 m e _
  have hty:i.ty=.sl e:=by assumption
  replace h:=RD.bind_some h;obtain⟨p',h4,h⟩:=h;cases h;have hb':=Yae hb;simp only[Bool.and_eq_true,decide_eq_true_eq] at hb';obtain⟨b1,b2,b3⟩:=hb';have e1:=(hl:Yd _ _ _ _ _ _).int;have e2:=(hc:Yd _ _ _ _ _ _).int
  have hsl:∃ ee,dd=.slice ee∧∃ te j,i.ty=.sl te∧P.info? ee=some j∧j.size=te.size∧(∃ z,j.zero=some z∧z.cells.toList=Yx te)∧j.bytes≤4096:=by
   cases hid:i.d with
   |sl ee=>rw[hid] at hdk;obtain⟨q0,te,j,q1,q2,q3,q4,_,q5⟩:=hdk;exact⟨ee,q0,te,j,q1,q2,q3,q4,q5⟩
   |int k=>rw[hid] at hdk;have:=hdk.2;rw[hty] at this;cases this
   |bool=>rw[hid] at hdk;have:=hdk.2;rw[hty] at this;cases this
   |str=>rw[hid] at hdk;have:=hdk.2;rw[hty] at this;cases this
   |arr n e=>rw[hid] at hdk;obtain⟨_,te,j,q1,_⟩:=hdk;rw[hty] at q1;cases q1
   |st offs=>rw[hid] at hdk;obtain⟨_,_,q1,_⟩:=hdk;rw[hty] at q1;cases q1
   |_=>rw[hid] at hdk;exact hdk.elim
  obtain⟨ee,rfl,te,j,q1,q2,q3,⟨z,q4,q5⟩,q6⟩:=hsl
  obtain rfl:e=te:=by rw[hty] at q1;exact Ty.sl.inj q1
  obtain⟨cs,hrun,hcs⟩:=run_makeSlice (P:=P) (kn:=k1) (km:=k2) (w:=w) hdd q2 q4 q6 b1 b2 b3
  refine .inl ⟨_,_,.inl (by simp only[execOp,ho,e1,e2,Sem.run_bind,hrun,Result.andThen_ok];rfl),?_⟩
  rw[hd];refine Yer I (Yy.start I) (Fn:=fun b=>b=w.heap.size) h4 hnp hgd hdn (Ygv w cs ee noB) rfl (fun M hM=>?_) (fun b h=>.inr h)
  have hlen:(List.replicate n.toNat e.zero).length=n.toNat:=by simp
  refine Ys3 hlen (Int.toNat_le_toNat b2) ?_ (by simp) rfl (Fs:=fun _=>noB) (fun _ _=>⟨fun _ h=>h.elim,fun h=>h⟩) (fun _ _ _ _ _ h=>h.elim) (fun i hi=>?_)
  ·rcases hcs with rfl | ⟨h0,rfl⟩
   ·simp[q3]
   ·rw[←q3,h0];rfl
  ·simp only[List.getElem_replicate]
   refine Ybe e (fun k hk=>?_)
   simp only[Src.cell];rw[show 0+i*e.size+k=i*e.size+k by omega,Ydo]
   have hi':i<m.toNat:=Nat.lt_of_lt_of_le (by rw[hlen] at hi;exact hi) (Int.toNat_le_toNat b2)
   rcases hcs with rfl | ⟨h0,rfl⟩
   ·rw[q3];exact Ymt q5 hi' hk
   ·rw[q3] at h0
    rcases Nat.mul_eq_zero.1 h0 with h | h<;>omega
 ·cases h
end Mf
namespace Mf
open Go
set_option linter.unusedVariables false
set_option linter.unusedSimpArgs false
theorem Ymz (n:Nat):(TV.dead n).lay=.at∨(TV.dead n).lay=.dead n:=by
 by_cases h:n=1
 ·subst h;exact .inl rfl
 ·right;unfold TV.lay;split<;>simp_all
theorem Yk4 {w w':World}:∀ (p:Path) {a b:TV} {s s1:Src},p.flat=true→a.lay=b.lay→nav w a s p=some s1→nav w' b s p=some s1:=by
 intro p
 induction p with
 |nil=>intro a b s s1 _ _ h;rw[Yf] at h ⊢;exact h
 |cons c p ih=>
  intro a b s s1 hf hl hn
  have pairOf:∀ (v:TV) (l1 l2:Lay),v.lay=.pair l1 l2→∃ x y:TV,x.lay=l1∧y.lay=l2∧(∀ (w:World) (s:Src) q,nav w v s (.f1::q)=nav w x s q)∧(∀ (w:World) (s:Src) q,nav w v s (.f2::q)=nav w y (s.sh x.size) q):=by
   intro v l1 l2 h
   cases v with
   |pr x y=>simp only[TV.lay,Lay.pair.injEq] at h;exact⟨x,y,h.1,h.2,fun _ _ _=>rfl,fun _ _ _=>rfl⟩
   |cl o t z=>
    cases t with
    |pair t1 t2=>simp only[TV.lay,Ty.lay,Lay.pair.injEq] at h;exact⟨.cl o t1 z.1,.cl o t2 z.2,h.1,h.2,fun _ _ _=>rfl,fun _ _ _=>rfl⟩
    |_=>cases h
   |dead n=>rcases Ymz n with e | e<;>rw[e] at h<;>cases h
   |_=>cases h
  have isPair:∃ l1 l2,a.lay=.pair l1 l2:=by
   cases a with
   |pr x y=>exact⟨_,_,rfl⟩
   |cl o t z=>cases t<;>cases c<;>first | exact⟨_,_,rfl⟩ | (simp[nav] at hn;done) | simp[Path.flat] at hf
   |rw o e xs i v=>cases c<;>first | (simp[nav] at hn;done) | simp[Path.flat] at hf
   |_=>cases c<;>simp[nav] at hn
  obtain⟨l1,l2,ha⟩:=isPair;obtain⟨x,y,x1,y1,na1,na2⟩:=pairOf a l1 l2 ha;obtain⟨x',y',x1',y1',nb1,nb2⟩:=pairOf b l1 l2 (hl▸ha)
  cases c with
  |el i=>simp[Path.flat] at hf
  |f1=>
   simp only[Path.flat] at hf;rw[na1] at hn;rw[nb1]
   exact ih hf (x1.trans x1'.symm) hn
  |f2=>
   simp only[Path.flat] at hf;rw[na2] at hn;rw[nb2,←TV.Yak (x1.trans x1'.symm)];exact ih hf (y1.trans y1'.symm) hn
theorem Ylj {w w':World}:∀ (p:Path) {t t':Ty} {o o':Ow} {x:t.El} {x':t'.El} {s s1:Src},t.pure=true→t.lay=t'.lay→nav w (.cl o t x) s p=some s1→nav w' (.cl o' t' x') s p=some s1:=by
 intro p
 induction p with
 |nil=>intro t t' o o' x x' s s1 _ _ h;rw[Yf] at h ⊢;exact h
 |cons c p ih=>
  intro t t' o o' x x' s s1 hp hl hn
  cases t with
  |pair a b=>
   cases t' with
   |pair a' b'=>
    simp only[Ty.lay,Lay.pair.injEq] at hl;simp only[Ty.pure,Bool.and_eq_true] at hp
    cases c with
    |f1=>simp only[nav] at hn ⊢;exact ih hp.1 hl.1 hn
    |f2=>simp only[nav] at hn ⊢;rw[←Ty.lay_size a',←hl.1,Ty.lay_size];exact ih hp.2 hl.2 hn
    |el i=>simp[nav] at hn
   |_=>cases hl
  |arr n e=>
   cases t' with
   |arr n' e'=>
    simp only[Ty.lay,Lay.arr.injEq] at hl
    cases c with
    |el i=>
     simp only[nav] at hn ⊢
     split at hn
     ·rename_i hi
      rw[if_pos (by omega),←Ty.lay_size e',←hl.2,Ty.lay_size]
      exact ih (t:=e) hp hl.2 hn
     ·cases hn
    |f1=>simp[nav] at hn
    |f2=>simp[nav] at hn
   |_=>cases hl
  |sl e=>simp[Ty.pure] at hp
  |_=>cases c<;>simp[nav] at hn
theorem Yf4 {w w':World}:∀ (p:Path) {t:Ty} {o:Ow} {x:t.El} {c:TV} {s s1:Src},t.pure=true→c.lay=t.lay→nav w (.cl o t x) s p=some s1→nav w' c s p=some s1:=by
 intro p
 induction p with
 |nil=>intro t o x c s s1 _ _ h;rw[Yf] at h ⊢;exact h
 |cons a p ih=>
  intro t o x c s s1 hp hl hn
  cases c with
  |cl o' t' x'=>exact Ylj _ hp hl.symm hn
  |pr u v=>
   cases t with
   |pair t1 t2=>
    simp only[TV.lay,Ty.lay,Lay.pair.injEq] at hl;simp only[Ty.pure,Bool.and_eq_true] at hp
    cases a with
    |f1=>simp only[nav] at hn ⊢;exact ih hp.1 hl.1 hn
    |f2=>
     simp only[nav] at hn ⊢
     rw[show u.size=t1.size by rw[←TV.lay_size,hl.1,Ty.lay_size]];exact ih hp.2 hl.2 hn
    |el i=>simp[nav] at hn
   |_=>cases hl
  |dead n=>
   cases t<;>cases a<;>first | (simp[nav] at hn;done) | (simp[Ty.pure] at hp;done) | skip
   all_goals (rcases Ymz n with e | e<;>rw[e] at hl<;>cases hl)
  |_=>
   cases t<;>cases a<;>first | (simp[nav] at hn;done) | (simp[Ty.pure] at hp;done) | cases hl
theorem Ym0:∀ (p:Path) {t:Ty} {o o':Ow} {x:t.El} {e:Ty} {xs:List e.El},t.pure=true→(TV.cl o t x).get p=some (.cl o' (.sl e) xs)→False:=by
 intro p
 induction p with
 |nil=>intro t o o' x e xs hp h;rw[TV.get_nil] at h;cases h;simp[Ty.pure] at hp
 |cons a p ih=>
  intro t o o' x e xs hp h
  cases t with
  |pair t1 t2=>
   simp only[Ty.pure,Bool.and_eq_true] at hp
   cases a with
   |f1=>exact ih hp.1 h
   |f2=>exact ih hp.2 h
   |el i=>cases h
  |arr n t1=>
   cases a with
   |el i=>exact ih (t:=t1) hp h
   |_=>cases h
  |sl t1=>simp[Ty.pure] at hp
  |_=>cases a<;>cases h
theorem setCells_size (b:Nat):∀ (vs:List Value) (o:Nat) (w:World),(w.setCells b o vs).heap.size=w.heap.size
 |[],_,_=>rfl
 |v::r,o,w=>by rw[World.setCells,setCells_size b r];simp[World.setCell]
theorem Ya3 (b:Nat) {c:Nat} (h:c≠b):∀ (vs:List Value) (o:Nat) (w:World),Same w (w.setCells b o vs) c
 |[],_,_=>rfl
 |v::r,o,w=>by
  rw[World.setCells];refine Same.trans ?_ (Ya3 b h r (o+1) _);unfold Same World.setCell;simp only[Array.getElem?_modify];rw[if_neg (fun e=>h e.symm)]
theorem Ynp (w:World) (b o:Nat) (vs:List Value) (c:Nat):Kp w (w.setCells b o vs) (.mem b o) vs.length c:=by
 simp only[Kp]
 split
 ·rename_i e
  subst e;exact⟨fun i hi=>World.cell?_setCells_out c vs o w ⟨c,i,none⟩ (fun _ _=>hi),fun i=>World.frozen?_setCells c vs o w _,fun i hi=>World.isSome_setCells c vs o w _ hi⟩
 ·rename_i e;exact Ya3 b e vs o w
end Mf
namespace Mf
open Go
set_option linter.unusedVariables false
set_option linter.unusedSimpArgs false
def Yeh (w:World):Src→Nat→Prop
 |.mem b off,n=>Room w b off n
 |.reg _ _,_=>True
theorem Yeh.sub {w:World} {s:Src} {n k m:Nat} (h:Yeh w s n) (hk:k+m≤n):Yeh w (s.sh k) m:=by
 cases s with
 |reg cs o=>trivial
 |mem b off=>intro i hi;have:=h (k+i) (by omega);simpa [Src.sh,Nat.add_assoc] using this
theorem Ylu {w:World} {M:Ya}:∀ (p:Path) {Lf:TV→Value→Prop} {tv:TV} {s:Src} {F:Ya} {s':Src} {old n tv':TV},Yc w M Lf tv s F→nav w tv s p=some s'→tv.get p=some old→tv.set p n=some tv'→
  Yeh w s tv.size→Yeh w s' old.size:=by
 intro p
 induction p with
 |nil=>intro Lf tv s F s' old n tv' _ hn hg _ hr;rw[Yf] at hn;rw[TV.get_nil] at hg;cases hn;cases hg;exact hr
 |cons a p ih=>
  intro Lf tv s F s' old n tv' hrep hn hg hs hr
  cases tv with
  |pr x y=>
   obtain⟨F1,F2,h1,h2,_⟩:=hrep
   cases a with
   |f1=>
    simp only[nav] at hn;simp only[TV.get] at hg;simp only[TV.set] at hs
    split at hs
    ·rename_i x' hx;exact ih h1 hn hg hx (by have:=hr.sub (k:=0) (m:=x.size) (by simp[TV.size]);rwa [Src.Yda] at this)
    ·cases hs
   |f2=>
    simp only[nav] at hn;simp only[TV.get] at hg;simp only[TV.set] at hs
    split at hs
    ·rename_i x' hx;exact ih h2 hn hg hx (hr.sub (by simp[TV.size]))
    ·cases hs
   |el i=>cases hn
  |cl o t z=>
   cases t with
   |pair t1 t2=>
    obtain⟨F1,F2,h1,h2,_⟩:=hrep
    cases a with
    |f1=>
     simp only[nav] at hn;simp only[TV.get] at hg;simp only[TV.set] at hs
     split at hs
     ·rename_i x' hx;exact ih (Lf:=Lf) (tv:=.cl o t1 z.1) h1 hn hg hx (by have:=hr.sub (k:=0) (m:=t1.size) (by simp[TV.size,Ty.size]);rwa [Src.Yda] at this)
     ·cases hs
    |f2=>
     simp only[nav] at hn;simp only[TV.get] at hg;simp only[TV.set] at hs
     split at hs
     ·rename_i x' hx;exact ih (Lf:=Lf) (tv:=.cl o t2 z.2) h2 hn hg hx (hr.sub (by simp[TV.size,Ty.size]))
     ·cases hs
    |el i=>cases hn
   |sl e=>
    cases a with
    |el i=>
     simp only[nav] at hn
     split at hn
     ·rename_i hi
      split at hn
      ·rename_i b off l c hc
       have hgd:z.getD i e.zero=z[i]'hi:=Yn _ _ _ hi;obtain⟨A,c',q1,q2,q3⟩:=id (hrep:Rep w M (.sl e) o z s F);rw[hc] at q1;cases q1
       have own:∀ o:Ow,(c≠0→∃ b' off',∃ Fs:Nat→Ya,(some ⟨b,off,none⟩:Option Addr)=some ⟨b',off',none⟩∧F b'∧Room w b' off' (c*e.size)∧
         (∀ i (h:i<z.length),Rep w M e o.elem (z[i]'h) (.mem b' (off'+i*e.size)) (Fs i)∧Ye (Fs i) F∧¬ Fs i b')∧(∀ i j,i<j→j<z.length→Dis (Fs i) (Fs j)))→
         ∃ F',Rep w M e o.elem (z[i]'hi) (.mem b (off+i*e.size)) F'∧Yeh w (.mem b (off+i*e.size)) e.size:=by
        intro o q3
        obtain⟨b',off',Fs,r1,_,r3,r4,_⟩:=q3 (by omega)
        cases r1;refine⟨_,(r4 i hi).1,fun j hj=>?_⟩
        have hle:=Yay (n:=c) (sz:=e.size) (i:=i) (by omega)
        have:=r3 (i*e.size+j) (by omega)
        rwa [←Nat.add_assoc] at this
       have fin:o≠.sh→(∃ F',Rep w M e o.elem (z[i]'hi) (.mem b (off+i*e.size)) F'∧Yeh w (.mem b (off+i*e.size)) e.size)→Yeh w s' old.size:=by
        rintro ho ⟨F',g1,g2⟩;obtain⟨_,tve,hs',_⟩:=Yi3 hs;have hg':(TV.cl o.elem e (z.getD i e.zero)).get p=some old:=hg;rw[hgd] at hn hs' hg';exact ih (Lf:=Lf) (tv:=.cl o.elem e (z[i]'hi)) g1 hn hg' hs' g2
       cases o with
       |sh=>cases hs
       |top=>exact fin (by simp) (own .top q3)
       |deep=>exact fin (by simp) (own .deep q3)
      ·cases hn
     ·cases hn
    |f1=>cases hn
    |f2=>cases hn
   |arr m e=>
    cases a with
    |el i=>
     obtain⟨hlen,Fs,h2,_⟩:=hrep;simp only[nav] at hn
     split at hn
     ·rename_i hi
      have hi':i<z.length:=by omega
      have hgd:z.getD i e.zero=z[i]'hi':=Yn _ _ _ hi';simp only[TV.set] at hs
      split at hs
      ·rename_i tve h1
       have hg':(TV.cl o e (z.getD i e.zero)).get p=some old:=hg;rw[hgd] at hn h1 hg'
       exact ih (Lf:=Lf) (tv:=.cl o e (z[i]'hi')) (h2 i hi').1 hn hg' h1 (hr.sub (by simp only[TV.size,Ty.size];exact Yay hi))
      ·cases hs
     ·cases hn
    |f1=>cases hn
    |f2=>cases hn
   |_=>cases a<;>cases hn
  |rw o e xs i v=>
   cases a with
   |f1=>cases hn
   |f2=>cases hn
   |el j=>
    obtain⟨_,rfl,tve,h1,_⟩:=Yjq hs;obtain⟨_,hsz,_,b,off,c,h4,h5,Fs,_,h7,h8,_,h10⟩:=hrep;obtain⟨hj,hn⟩:=Ye8 h4 hn;rw[if_pos rfl] at hn;rw[Ycp,if_pos rfl] at hg;refine ih h10 hn hg h1 ?_;rw[hsz];intro k hk
    have hle:=Yay (n:=c) (sz:=e.size) (i:=j) (by omega)
    have:=h7 (j*e.size+k) (by omega)
    rwa [←Nat.add_assoc] at this
  |_=>cases a<;>cases hn
end Mf
namespace Mf
open Go
set_option linter.unusedVariables false
set_option linter.unusedSimpArgs false
variable {Z:W0} {S:St} {C:Cx} {w w':World} {K:Yk} {G:Ya} {C1:Cx} {D:Dd} {a:Act}
variable {P:Program} {tb:Tb} {g:Gd} {o:Oper} {hn:Hint}
theorem Yb0 (g:Nat):∀ (vs:List Value) (o:Nat) (w:World),(w.setCells g o vs).tape=w.tape
 |[],_,_=>rfl
 |v::r,o,w=>by rw[World.setCells,Yb0 g r];rfl
theorem Yq7:∀ (p:Path) {tv u:TV},tv.Ym7 p=some (true,u)→tv.get p=some u:=by
 intro p
 induction p with
 |nil=>
  intro tv u h;rw[TV.get_nil]
  have:some (true,tv)=some (true,u):=by cases tv<;>exact h
  cases this;rfl
 |cons a p ih=>
  intro tv u h
  cases tv with
  |pr x y=>cases a<;>first | exact ih h | cases h
  |rw o e xs i v=>
   cases a with
   |el j=>
    simp only[TV.Ym7] at h
    split at h
    ·rename_i c u' h1
     cases c with
     |false=>simp at h
     |true=>
      simp only[Bool.and_true,Option.some.injEq,Prod.mk.injEq] at h;obtain⟨h2,rfl⟩:=h;rw[Ycp,if_pos (Nat.eq_of_beq_eq_true h2)];exact ih h1
    ·cases h
   |_=>cases h
  |_=>cases a<;>cases h
theorem Yrl:∀ (p:Path) {tv n tv':TV},tv.Yhx p n=some (true,tv')→tv.set p n=some tv':=by
 intro p
 induction p with
 |nil=>
  intro tv n tv' h;rw[TV.set_nil]
  have:some (true,n)=some (true,tv'):=by cases tv<;>exact h
  cases this;rfl
 |cons a p ih=>
  intro tv n tv' h
  cases tv with
  |pr x y=>
   cases a with
   |f1=>
    simp only[TV.Yhx] at h
    split at h
    ·rename_i c a' h1;cases h;simp only[TV.set,ih h1]
    ·cases h
   |f2=>
    simp only[TV.Yhx] at h
    split at h
    ·rename_i c a' h1;cases h;simp only[TV.set,ih h1]
    ·cases h
   |_=>cases h
  |rw o e xs i v=>
   cases a with
   |el j=>
    have key:o≠.sh→(match v.Yhx p n with
      |some (c,tv)=>match Ybw o e xs i tv with | some tv'=>some (Nat.beq j i&&c,tv') | none=>none
      |none=>none)=some (true,tv')→(match Nat.decEq j i with
      |isTrue _=>match v.set p n with
       |some tv=>Ybw o e xs i tv
       |none=>none
      |isFalse _=>none)=some tv':=by
     intro _ h
     split at h
     ·rename_i c tv h1
      split at h
      ·rename_i tv2 h2
       simp only[Option.some.injEq,Prod.mk.injEq,Bool.and_eq_true] at h;obtain⟨⟨h3,rfl⟩,rfl⟩:=h;rw[Yh5 (Nat.eq_of_beq_eq_true h3)];simp only[ih h1];exact h2
      ·cases h
     ·cases h
    cases o with
    |sh=>cases h
    |top=>exact key (by simp) h
    |deep=>exact key (by simp) h
   |_=>cases o<;>cases h
  |_=>cases a<;>cases h
theorem Yq1:∀ (p:Path) {tv n tv' u:TV} {c c':Bool},tv.Yhx p n=some (c',tv')→tv.Ym7 p=some (c,u)→c'=c:=by
 intro p
 induction p with
 |nil=>
  intro tv n tv' u c c' h g
  have h:some (true,n)=some (c',tv'):=by cases tv<;>exact h
  have g:some (true,tv)=some (c,u):=by cases tv<;>exact g
  cases h;cases g;rfl
 |cons a p ih=>
  intro tv n tv' u c c' h g
  cases tv with
  |pr x y=>
   cases a with
   |f1=>
    simp only[TV.Yhx] at h
    split at h
    ·rename_i c a' h1;cases h;exact ih h1 g
    ·cases h
   |f2=>
    simp only[TV.Yhx] at h
    split at h
    ·rename_i c a' h1;cases h;exact ih h1 g
    ·cases h
   |_=>cases h
  |rw o e xs i v=>
   cases a with
   |el j=>
    simp only[TV.Ym7] at g
    split at g
    ·rename_i c0 u0 g1
     cases g
     have key:(match v.Yhx p n with
      |some (c,tv)=>match Ybw o e xs i tv with | some tv'=>some (Nat.beq j i&&c,tv') | none=>none
      |none=>none)=some (c',tv')→c'=(Nat.beq j i&&c0):=by
      intro h
      split at h
      ·rename_i c tv h1
       split at h
       ·cases h;rw[ih h1 g1]
       ·cases h
      ·cases h
     cases o with
     |sh=>cases h
     |top=>exact key h
     |deep=>exact key h
    ·cases g
   |_=>cases o<;>cases h
  |_=>cases a<;>cases h
theorem Yql (I:Inv Z S C a w) (T:Yy Z S C w K G C1 D) {r b off:Nat} {R:Root} {q:Path} {c old tv:TV} {cs:List Value} {F:Ya} {p:Patch}
  (hlv:c.live=true) (hKr:K.roots S r=some R) (hn:nav w R.tv (C.L r) q=some (.mem b off)) (hget:R.tv.get q=some old) (hset:R.tv.set q c=some tv) (hlay:old.lay=c.lay)
  (hc:Yc w (Mt Z C1 (K.roots S) G) (Yi w (Mt Z C S.root noB) C.L S.root) c (.reg cs 0) F) (hF:Ye F G) (hcs:cs.length=c.size) (hone:∀ v∈cs,v.oneCell'=true)
  (hp:p=⟨[],(r,some ⟨R.k,tv⟩)::K.rt,Yif r q K.ks old⟩) :
  ∃ C',Inv Z (S.ap p) C' (a.put none undef) (w.setCells b off cs):=by
 have hρ:p.roots S=(K.roots S).set r (some ⟨R.k,tv⟩):=by
  subst hp
  funext i
  unfold Patch.roots Yk.roots Yb.set
  by_cases e:i=r
  ·subst e;simp only[Yl,if_pos]
  ·simp only[Yu e,if_neg e];cases lk i K.rt<;>rfl
 have hn1:nav w R.tv (C1.L r) q=some (.mem b off):=by rw[T.L];exact hn
 obtain⟨Fo,Fr,f1,f2,f3,f4,f5,f6,f7⟩:=T.str.put hKr hn1 hget hset hlay.symm
 have hsz:old.size=cs.length:=by rw[hcs];exact TV.Yak hlay
 have hroom:Room w b off cs.length:=by
  rw[←hsz]
  have hr0:Yeh w (C1.L r) R.tv.size:=by
   cases hk:R.k with
   |reg=>obtain⟨x,e⟩:=T.str.reg r R hKr hk;rw[e];trivial
   |mem=>obtain⟨b',off',e,_,_,h,_⟩:=T.str.mem r R hKr hk;rw[e];exact h
  exact Ylu q (T.str.rep r R hKr) hn1 hget hset hr0
 have hb0:Tot C1 r R b:=by
  rcases f5 with ⟨k,e',_⟩ | ⟨b1,o1,e',hf⟩
  ·obtain⟨o,e1,_⟩:=Src.Yar e'.symm
   refine .inr ⟨?_,o,e1⟩
   cases hk:R.k with
   |reg=>obtain⟨x,e⟩:=T.str.reg r R hKr hk;rw[e1] at e;cases e
   |mem=>rfl
  ·cases e';exact .inl (f2 _ hf)
 have hFb:¬ F b:=fun h=>T.str.gdis r R hKr b hb0 (hF b h)
 have hwr:Wr w (w.setCells b off cs) (.mem b off) old.size:=⟨setCells_size b cs off w,fun x=>by rw[hsz];exact Ynp w b off cs x⟩
 have hc':Yc (w.setCells b off cs) (Mt Z C1 (K.roots S) G) (Yi w (Mt Z C S.root noB) C.L S.root) c (.mem b off) F:=by
  have h1:Yc (w.setCells b off cs) (Mt Z C1 (K.roots S) G) (Yi w (Mt Z C S.root noB) C.L S.root) c (.reg cs 0) F:=
   hc.go ⟨by rw[setCells_size];exact Nat.le_refl _,fun x hx=>Ya3 b (fun e=>hFb (e▸hx)) cs off w,fun x hx _=>⟨Ya3 b (fun e=>hx (by rw[e];exact .inl ⟨r,R,hKr,hb0⟩)) cs off w,hx⟩⟩ (fun _ _=>rfl) (fun _ _ x=>x)
  refine h1.mv (fun i hi=>?_);simp only[Src.cell,Nat.zero_add]
  rw[World.cell?_setCells_in b cs off w (fun j hj=>(hroom j hj).1) i (by omega),List.getElem?_eq_getElem (by omega)]
 have fin:∀ (D2:Dd),(∀ i x,D2.l i x→(ddK p.ks).l i x)→(∀ i x,D2.s i x→(ddK p.ks).s i x)→
   (∀ i x,D.l i x→(ddK p.ks).l i x)→(∀ i x,D.s i x→(ddK p.ks).s i x)→
   (∀ t b1 off1,¬ D2.l r (q++t)→nav w old (.mem b off) t=some (.mem b1 off1)→nav (w.setCells b off cs) c (.mem b off) t=some (.mem b1 off1))→
   (∀ t s1,¬ D2.s r (q++t)→nav w old (.mem b off) t=some s1→∀ o e,∀ xs:List e.El,old.gr t=some (.cl o (.sl e) xs)→
     nav (w.setCells b off cs) c (.mem b off) t=some s1∧s1.cell (w.setCells b off cs) 0=s1.cell w 0∧∃ o',∃ xs':List e.El,c.gr t=some (.cl o' (.sl e) xs')∧xs'.length=xs.length)→
   ∃ C',Inv Z (S.ap p) C' (a.put none undef) (w.setCells b off cs):=by
  intro D2 k1 k2 k3 k4 h1 h2;obtain⟨W,Wg⟩:=f7 (w.setCells b off cs) F noB D2 hwr hc' (fun x h=>.inl (hF x h)) (fun _ h=>h.elim) (World.os_setCells w b off cs) (Yb0 b cs off w) (World.output_setCells w b off cs) h1 h2
  refine⟨C1.Ydf r fun x=>Fr x∨F x,Inv.ap (Q:=fun _ _=>False) (dst:=none) (u:=undef) I (by rw[hρ];exact W.lf (fun _ _ h=>.inl h)) (by rw[hρ];exact T.gs.trans Wg) (fun _ _ h=>h.elim) ?_ ?_ (fun _ _ _ _ _ e=>by cases e) (fun _ e=>by cases e) ?_⟩
  ·rintro i x _ _ (h | h)
   ·exact k3 i x h
   ·exact k1 i x h
  ·rintro i x _ _ (h | h)
   ·exact k4 i x h
   ·exact k2 i x h
  ·intro i v h;rw[hp] at h;cases h
 have marks:p.ks=(r,some q)::K.ks→∃ C',Inv Z (S.ap p) C' (a.put none undef) (w.setCells b off cs):=by
  intro hks;refine fin ⟨fun i x=>i=r∧∃ t,x=q++t∧Path.flat t=false,fun i x=>i=r∧∃ t,x=q++t⟩ ?_ ?_ ?_ ?_ ?_ (fun t s1 hd=>absurd ⟨rfl,t,rfl⟩ hd)
  ·rintro i x ⟨rfl,t,rfl,ht⟩;rw[hks];exact⟨_,List.mem_cons_self,rfl,by show Path.far q (q++t)=true;rw[Path.Yh3,ht];rfl⟩
  ·rintro i x ⟨rfl,t,rfl⟩;rw[hks];exact⟨_,List.mem_cons_self,rfl,Path.Yh0 q t⟩
  ·intro i x h;rw[hks];exact Yb3.1 i x (T.cl i x h)
  ·intro i x h;rw[hks];exact Yb3.2 i x (T.cs i x h)
  ·intro t b1 off1 hd hn
   have ht:Path.flat t=true:=by
    cases hh:Path.flat t with
    |true=>rfl
    |false=>exact absurd ⟨rfl,t,rfl,hh⟩ hd
   exact Yk4 t ht hlay hn
 cases old with
 |cl oo t x=>
  cases ht:t.pure with
  |false=>exact marks (by rw[hp];simp only[Yif,ht])
  |true=>
   have hks:p.ks=K.ks:=by rw[hp];simp only[Yif,ht]
   refine fin Dd.none (fun _ _ h=>h.elim) (fun _ _ h=>h.elim) (fun i x h=>by rw[hks];exact T.cl i x h) (fun i x h=>by rw[hks];exact T.cs i x h) ?_ ?_
   ·intro t' b1 off1 _ hn;exact Yf4 t' ht hlay.symm hn
   ·intro t' s1 _ hn o' e xs hg;rw[Yg8] at hg;exact(Ym0 t' ht hg).elim
 |_=>exact marks (by rw[hp];rfl)
theorem TV.Ytl (v:TV):v.own.lay=v.lay:=by cases v<;>rfl
theorem TV.Ysf (v:TV):v.own.live=v.live:=by cases v<;>rfl
theorem TV.Yso (v:TV):v.own.size=v.size:=by cases v<;>rfl
theorem Ytv {M:Ya} {Lf:TV→Value→Prop} {v:TV} {s:Src} {F:Ya} (h:Yc w M Lf v s F):Yc w M Lf v.own s F:=by
 cases v with
 |cl o t x=>
  show Yc w M Lf (.cl (Yju t o) t x) s F;unfold Yju
  cases hp:t.pure with
  |true=>exact(Rep.pure hp (h:Rep w M t o x s F) (fun _ _=>rfl)).sub (fun _ x=>x.elim)
  |false=>exact h
 |_=>exact h
theorem Ysa (ht:Yag P tb) (I:Inv Z S C a w) {np:Nat} {t:TypeId} {ad x:Operand} (ho:o.op=.store t ad x) {b:Option Bool} {p:Patch} (hg:Yax a g)
  (h:(doR tb hn np g o).run S=some (.step b p)) (hb:b≠some false):Done P o a w fun u w'=>∃ C',Inv Z (S.ap p) C' (a.put o.dst u) w':=by
 simp only[doR,ho] at h;replace h:=RD.bind_some h;obtain⟨va,h1,h⟩:=h;replace h:=RD.bind_some h;obtain⟨vx,h2,h⟩:=h;have ha:=Yg I hg h1;have hx:=Yg I hg h2
 cases va with
 |loc r q=>
  simp only at h;replace h:=RD.bind_some h;obtain⟨i,h3,h⟩:=h;replace h:=RD.bind_some h;obtain⟨⟨c,K⟩,h4,h⟩:=h;obtain⟨_,⟨j,hj,hjs,_⟩⟩:=ht t i (Yp h3);simp only at h
  split at h
  ·rename_i hl _ hlive hdst
   obtain⟨hr,hsz⟩:=hx.rep (fun l e=>by subst e;exact Ydw _ _ _ _ _ h4)
   obtain⟨C2,D2,F,G',T,g1,g2,g3,g4,rc,m,sc⟩:=Yck _ np vx _ (Yy.start I) (fun _ h=>h) hr h4;obtain⟨R0,b0,off,k1,k2,k3⟩:=(ha:Yd _ _ _ _ _ _).leaf rfl
   ·replace rc:=Ytv rc
    replace hl:=(TV.Ytl c).trans hl;replace hlive:=(TV.Ysf c).trans hlive;replace sc:=(TV.Yso c).trans sc;obtain⟨c,hcc⟩:∃ c',c'=c.own:=⟨_,rfl⟩;rw[←hcc] at h rc hl hlive sc;have hcells:=(rc.cells (fun v u h=>h.one.1)).resolve_right (fun hn=>hn hlive)
    have hcl:(a.eval x).cells.toList.length=c.size:=by rw[sc,←hsz];simp
    have hone:∀ v∈(a.eval x).cells.toList,v.oneCell'=true:=by
     intro v hv;obtain⟨k,hk,rfl⟩:=List.mem_iff_getElem.1 hv
     obtain⟨v',e1,e2⟩:=hcells k (by omega)
     simp only[Src.cell,Nat.zero_add] at e1;rw[List.getElem?_eq_getElem hk] at e1;cases e1;exact e2
    have hroot:∃ R1,K.roots S r=some R1∧nav w R1.tv (C.L r) q=some (.mem b0 off)∧(Yt3 r q c K R1).run S=some (.step b p):=by
     split at h
     ·rename_i R1 hK
      split at h
      ·rename_i hlv
       refine⟨R1,by unfold Yk.roots;rw[hK],?_,h⟩
       have hal:¬ D2.l r q:=fun hd=>by
        rcases(Ya1 K.ks (.loc r q)) with ⟨_,hp⟩ | e
        ·exact hp (T.cl r q hd)
        ·rw[e] at hlv;cases hlv
       obtain⟨R',x1,x2⟩:=T.gs.rl r q R0 b0 off hal k1 k2
       have hR':K.roots S r=some R1:=by unfold Yk.roots;rw[hK]
       rw[hR'] at x1;cases x1;rw[T.L] at x2;exact x2
      ·cases h
     ·cases h
     ·rename_i hK
      simp only[RD.run,k1] at h
      exact⟨R0,by unfold Yk.roots;rw[hK];exact k1,k2,h⟩
    obtain⟨R1,hKr,hn1,h⟩:=hroot
    have hput:∃ old tv,R1.tv.get q=some old∧old.lay=c.lay∧R1.tv.set q c=some tv∧p=⟨[],(r,some ⟨R1.k,tv⟩)::K.rt,Yif r q K.ks old⟩:=by
     unfold Yt3 at h
     split at h
     ·split at h
      ·rename_i _ bb old c' tv hfg hfs
       split at h
       ·rename_i hlay _
        cases h
        have hbt:bb=true:=by cases bb with
         |true=>rfl
         |false=>exact absurd rfl hb
        subst hbt;rw[Yq1 q hfs hfg] at hfs;exact⟨old,tv,Yq7 q hfg,hlay,Yrl q hfs,rfl⟩
       ·cases h
      ·cases h
     ·unfold put at h
      split at h
      ·rename_i old hget
       have inn:(Ypt r q c K R1 old).run S=some (.step b p)→∃ old tv,R1.tv.get q=some old∧old.lay=c.lay∧R1.tv.set q c=some tv∧p=⟨[],(r,some ⟨R1.k,tv⟩)::K.rt,Yif r q K.ks old⟩:=by
        intro h;unfold Ypt at h
        split at h
        ·rename_i hlay _
         split at h
         ·rename_i tv hset;cases h;exact⟨old,tv,hget,hlay,hset,rfl⟩
         ·cases h
        ·cases h
       split at h
       ·split at h
        ·cases h
        ·exact inn h
       ·exact inn h
      ·cases h
    obtain⟨old,tv,p1,p2,p3,p4⟩:=hput
    have hroom:Room w b0 off (a.eval x).cells.toList.length:=by
     have hn2:nav w R1.tv (C2.L r) q=some (.mem b0 off):=by rw[T.L];exact hn1
     have hr0:Yeh w (C2.L r) R1.tv.size:=by
      cases hk:R1.k with
      |reg=>obtain⟨x,e⟩:=T.str.reg r R1 hKr hk;rw[e];trivial
      |mem=>obtain⟨b',off',e,_,_,h,_⟩:=T.str.mem r R1 hKr hk;rw[e];exact h
     rw[hcl,←TV.Yak p2];exact Ylu q (T.str.rep r R1 hKr) hn2 p1 p3 hr0
    have hrun:(Instr.storeAt t (.pointer (some ⟨b0,off,none⟩)) (a.eval x)).run P w=.ok () (w.setCells b0 off (a.eval x).cells.toList):=by
     have hs:=run_storeCells_cells (P:=P) b0 off (a.eval x).cells.toList 0 w (fun j hj=>by simpa using (hroom j hj).1) (fun j hj=>by simpa using (hroom j hj).2) hone
     have hsize:(a.eval x).cells.size=j.size:=by
      have:c.size=j.size:=by rw[←TV.lay_size,hl,Ty.lay_size,hjs]
      rw[←this,←hcl];simp
     simp[Instr.storeAt,Instr.sureAddr,storeVar,Y1 hj,hsize]
     simpa using hs
    refine .inl ⟨undef,_,.inr ⟨rfl,by simp only[execOp,ho,k3,Sem.run_bind,hrun,Result.andThen_ok];rfl⟩,?_⟩
    rw[hdst];exact Yql I T hlive hKr hn1 p1 p3 p2 rc g2 hcl hone p4
  ·cases h
 |_=>cases h
end Mf
namespace Mf
open Go
set_option linter.unusedVariables false
set_option linter.unusedSimpArgs false
variable {Z:W0} {S:St} {C:Cx} {w w':World} {K:Yk} {G:Ya} {C1:Cx} {D:Dd} {a:Act}
variable {P:Program} {tb:Tb} {g:Gd} {o:Oper} {hn:Hint}
theorem Inv.slot? (I:Inv Z S C a w) {v:TV} {u:Value} (hgd:Yw S o.dst) (hd:∀ d,o.dst=some d→d<Z.nt)
  (hv:(∃ n,v=.dead n)∨VOk w (Mt Z C S.root noB) C.L S.root v u) :
  Inv Z (S.ap ⟨match o.dst with | some d=>[(d,v)] | none=>[],[],[]⟩) C (a.put o.dst u) w:=by
 cases hdst:o.dst with
 |none=>exact I.Yox
 |some d=>
  refine I.slot (by rw[←hdst];exact hgd) (hd d hdst) ?_
  rcases hv with ⟨n,rfl⟩ | hv
  ·trivial
  ·exact hv.tm _
theorem Ypa (ht:Yag P tb) (I:Inv Z S C a w) (hg:Yax a g) (hgd:Yw S o.dst) (hd:∀ d,o.dst=some d→d<Z.nt) {b:Option Bool} {p:Patch}
  (h:(Yhj tb none g o).run S=some (.step b p)) (hb:b≠some false):Done P o a w fun u w'=>∃ C',Inv Z (S.ap p) C' (a.put o.dst u) w':=by
 simp only[Yhj] at h;replace h:=RD.bind_some h;obtain⟨⟨b',v⟩,h1,h⟩:=h;cases h;obtain⟨u,hu,hv⟩:=Yi1 Z S C a w ht I hg _ v h1 hb;exact .inl ⟨u,w,.inl hu,C,I.slot? hgd hd hv⟩
end Mf
namespace Mf
open Go
set_option linter.unusedVariables false
set_option linter.unusedSimpArgs false
variable {Z:W0} {S:St} {C:Cx} {w w':World} {K:Yk} {G:Ya} {C1:Cx} {D:Dd} {a:Act}
variable {P:Program} {tb:Tb} {g:Gd} {o:Oper} {hn:Hint}
theorem Yy.drop (I:Inv Z S C a w) {r:Nat} {R:Root} (hR:S.root r=some R) :
  Yy Z S C w ⟨[(r,none)],[(r,none)]⟩ (C.F r) C ⟨fun i _=>i=r,fun i _=>i=r⟩∧Ye (Mt Z C ((⟨[(r,none)],[(r,none)]⟩:Yk).roots S) (C.F r)) (Mt Z C S.root noB):=by
 have hk':(⟨[(r,none)],[(r,none)]⟩:Yk).roots S=Yb.set S.root r none:=by
  funext i
  unfold Yk.roots Yb.set
  by_cases e:i=r
  ·subst e;rw[Yl,if_pos rfl]
  ·rw[Yu e,if_neg e];rfl
 obtain⟨W,hW⟩:=I.str.weak (ρ':=Yb.set S.root r none) (G':=C.F r) (fun i R' h=>by
   by_cases e:i=r
   ·subst e;rw[Yb.Yo] at h;cases h
   ·rwa [Yb.Ym _ _ e] at h)
  (fun b hb=>.inr ⟨r,R,hR,Yb.Yo _ _ _,hb⟩)
 have Wg:=I.str.Ycg hW ⟨fun i _=>i=r,fun i _=>i=r⟩
  (fun i R' q h1 h2=>by rw[Yb.Ym _ _ h2];exact h1) (fun i R' q h1 h2=>by rw[Yb.Ym _ _ h2];exact h1)
 refine⟨⟨by rw[hk'];exact W,by rw[hk'];exact Wg,rfl,?_,?_,?_,?_⟩,by rw[hk'];exact hW⟩
 ·intro i R' h
  rw[hk'] at h
  by_cases e:i=r
  ·subst e;rw[Yb.Yo] at h;cases h
  ·rw[Yb.Ym _ _ e] at h;exact⟨R',h,rfl,rfl⟩
 ·rintro i q rfl;exact⟨_,List.mem_cons_self,rfl,rfl⟩
 ·rintro i q rfl;exact⟨_,List.mem_cons_self,rfl,rfl⟩
 ·intro i R' q o' e' xs' h hg
  rw[hk'] at h
  by_cases e:i=r
  ·subst e;rw[Yb.Yo] at h;cases h
  ·rw[Yb.Ym _ _ e] at h;exact⟨R',o',h,hg⟩
theorem Ytw (I:Inv Z S C a w) {d:Nat} (ho:o.op=.assign (.const (.pointer none))) (hd:o.dst=some d) (hgd:Yw S (some d)) (hdn:d<Z.nt) {b:Option Bool} {p:Patch}
  (h:(.step none ⟨[(d,.dead 1)],[],[]⟩:Yc1)=.step b p):Done P o a w fun u w'=>∃ C',Inv Z (S.ap p) C' (a.put o.dst u) w':=by
 cases h
 refine .inl ⟨_,w,.inl (by simp[execOp,ho];rfl),C,?_⟩
 rw[hd];exact I.slot hgd hdn trivial
theorem Yqg (I:Inv Z S C a w) (hg:Yax a g) {np d:Nat} {x:Operand} (ho:o.op=.assign x) (hd:o.dst=some d) (hnp:∀ i,np≤i→Z.P i=none) (hgd:Yw S (some d)) (hdn:d<Z.nt) {b:Option Bool} {p:Patch} {v:TV}
  (h1:(opv g x).run S=some v) (h:(Yga np d v).run S=some (.step b p)):Done P o a w fun u w'=>∃ C',Inv Z (S.ap p) C' (a.put o.dst u) w':=by
 have hv:=Yg I hg h1
 have hrun:(execOp a.eval o).run P w=.ok (.value (a.eval x)) w:=by simp[execOp,ho]
 have plain:p=⟨[(d,v)],[],[]⟩→Done P o a w fun u w'=>∃ C',Inv Z (S.ap p) C' (a.put o.dst u) w':=by
  rintro rfl;refine .inl ⟨_,w,.inl hrun,C,?_⟩;rw[hd];exact I.slot hgd hdn (hv.tm _)
 have move:∀ (r:Nat) (R:Root) (oo:Ow) (e:Ty) (xs ys:List e.El),S.root r=some R→R.k=.reg→R.tv=.cl oo (.sl e) xs→(∃ A n c,a.eval x=.slice A n c)→
   (∀ M (s:Src) (F:Ya),Rep w M (.sl e) oo xs s F→C.L r=s→Rep w M (.sl e) oo ys (.reg [a.eval x] 0) F)→
   ((Yam np d (.seg d []) ⟨.reg,.cl oo (.sl e) ys⟩ ⟨[(r,none)],[(r,none)]⟩).bind fun p=>.ret (.step none p)).run S=some (Yc1.step b p)→
   Done P o a w fun u w'=>∃ C',Inv Z (S.ap p) C' (a.put o.dst u) w':=by
  intro r R oo e xs ys hR hk htv ⟨A,n,c,hu⟩ hcut h;replace h:=RD.bind_some h;obtain⟨p',h2,h⟩:=h;cases h;obtain⟨T,hT⟩:=Yy.drop I hR;refine .inl ⟨_,w,.inl hrun,?_⟩;rw[hd];have hrep:=I.str.rep r R hR;rw[htv] at hrep;refine Yer I T (Fn:=C.F r) h2 hnp hgd hdn (Yb8.refl w _) hu (fun M hM=>?_) (fun _ h=>h);refine hcut M _ _ ?_ rfl
  exact Yc.go (tv:=.cl oo (.sl e) xs) hrep ⟨Nat.le_refl _,fun _ _=>rfl,fun b h1 h2=>⟨rfl,fun h=>(hM b h).elim (fun h=>h1 (hT b h)) (fun h=>by omega)⟩⟩ (fun _ _=>rfl) (fun _ _ x=>x)
 unfold Yga at h
 split at h
 ·rename_i r
  split at h
  ·cases h;exact plain rfl
  ·simp only[RD.run] at h
   split at h
   ·rename_i R hR
    split at h
    ·rename_i hk
     obtain⟨R',s,oo,e,xs,e1,e2,e3,e4,A,n,c,hu⟩:=(hv:Yd _ _ _ _ _ _).leaf rfl;rw[hR] at e1;cases e1;rw[Ycq] at e3
     have htv:R.tv=.cl oo (.sl e) xs:=by
      have h3:=Option.some.inj e3
      cases hv:R.tv with
      |rw o' e' xs' i v'=>have:R.tv.Ymj=false:=by assumption
                          rw[hv] at this;cases this
      |_=>rw[hv] at h3;exact h3
     rw[Yf] at e2;cases e2
     have hk:R.k=.reg:=by assumption
     have hRR:R=⟨.reg,.cl oo (.sl e) xs⟩:=by cases R;simp only at hk htv;subst hk htv;rfl
     refine move r R oo e xs xs hR hk htv ⟨A,n,c,hu⟩ (fun M s F hr hL=>?_) (by rw[←hRR];exact h)
     subst hL;refine hr.mv (fun i hi=>?_)
     have:i=0:=by simp[Ty.size] at hi;exact hi
     subst this;rw[e4];rfl
    ·cases h;exact plain rfl
   ·cases h
 ·rename_i r lo n
  split at h
  ·cases h;exact plain rfl
  ·simp only[RD.run] at h
   split at h
   ·rename_i R hR
    have cut:∀ oo e (xs:List e.El),R.k=.reg→R.tv=.cl oo (.sl e) xs→(Yga.nar np d r lo n oo e xs).run S=some (.step b p)→Done P o a w fun u w'=>∃ C',Inv Z (S.ap p) C' (a.put o.dst u) w':=by
     intro oo e xs hk htv h;obtain⟨R',s,o2,e',xs',A,len,c,A',c',q1,q2,q3,q4,q5,q6,q7,q8,q9⟩:=(hv:Yd _ _ _ _ _ _).leaf rfl;rw[hR] at q1;cases q1;rw[Ycq,htv] at q3;cases q3;rw[Yf] at q2;cases q2;refine move r R oo e xs _ hR hk htv ⟨A',n,c',q5⟩ (fun M s F hr hL=>?_) h;subst hL
     exact Rep.cut hr q4 (by rw[q5];rfl) q6 q7 q8 q9
    split at h
    ·rename_i hk htv;exact cut _ _ _ hk htv h
    ·rename_i hk htv;exact cut _ _ _ hk htv h
    ·cases h;exact plain rfl
   ·cases h
 ·cases h;exact plain rfl
end Mf
namespace Mf
open Go
set_option linter.unusedVariables false
set_option linter.unusedSimpArgs false
variable {Z:W0} {S:St} {C:Cx} {w w':World} {K:Yk} {G:Ya} {C1:Cx} {D:Dd} {a:Act}
variable {P:Program} {tb:Tb} {g:Gd} {o:Oper} {hn:Hint}
structure Ya8 (w w':World) (cs:Array Value):Prop where
 heap:∃ e fr,w'.heap=w.heap.push (.cells cs e fr)∧(∀ i,i<cs.size→(decide (fr.1≤i)&&decide (i<fr.2))=false)
 os:w'.os=w.os
 tape:w'.tape=w.tape
 output:w'.output=w.output
variable {cs:Array Value}
theorem Ya8.cell (h:Ya8 w w' cs) (i:Nat):w'.cell? ⟨w.heap.size,i,none⟩=cs[i]?:=by
 obtain⟨e,fr,h1,_⟩:=h.heap;unfold World.cell?;rw[h1,Array.getElem?_push_size];rfl
theorem Ya8.Ytk (h:Ya8 w w' cs) {i:Nat} (hi:i<cs.size):w'.frozen? ⟨w.heap.size,i,none⟩=false:=by
 obtain⟨e,⟨l,u⟩,h1,h2⟩:=h.heap;unfold World.frozen?;rw[h1,Array.getElem?_push_size];exact h2 i hi
theorem Ya8.same (h:Ya8 w w' cs) {b:Nat} (hb:b<w.heap.size):Same w w' b:=by
 obtain⟨e,fr,h1,_⟩:=h.heap;unfold Same;rw[h1,Array.getElem?_push];rw[if_neg (Nat.ne_of_lt hb)]
theorem Ya8.size (h:Ya8 w w' cs):w'.heap.size=w.heap.size+1:=by
 obtain⟨e,fr,h1,_⟩:=h.heap;rw[h1];simp
theorem Ya8.hand (h:Ya8 w w' cs) (G:Ya):Yb8 w w' G (fun b=>G b∨b=w.heap.size) where
 sz:=by rw[h.size];omega
 same:=fun b hb _=>h.same hb
 g:=fun b hb=>hb.imp id (fun e=>by subst e;exact⟨Nat.le_refl _,by rw[h.size];omega⟩)
 os:=h.os
 tape:=h.tape
 output:=h.output
theorem Ya8.room (h:Ya8 w w' cs) {n:Nat} (hn:n≤cs.size):Room w' w.heap.size 0 n:=by
 intro i hi
 rw[Nat.zero_add,h.cell,h.Ytk (by omega)]
 exact⟨by simp;omega,rfl⟩
end Mf
namespace Mf
open Go
set_option linter.unusedVariables false
set_option linter.unusedSimpArgs false
variable {Z:W0} {S:St} {C:Cx} {w w':World} {K:Yk} {G:Ya} {C1:Cx} {D:Dd} {a:Act}
variable {P:Program} {tb:Tb} {g:Gd} {o:Oper} {hn:Hint}
theorem Ya8.row {cs:Array Value} (h:Ya8 w w' cs) {M:Ya} {e:Ty} {xs:List e.El} {len cap:Nat} (hlen:xs.length=len) (hc:len≤cap) (hs:cap*e.size≤cs.size)
  {oo:Ow} (ho:oo≠.sh) {F:Ya} {Fs:Nat→Ya} (hF:F w.heap.size) (hFs:∀ i,i<len→Ye (Fs i) F∧¬ Fs i w.heap.size) (hd:∀ i j,i<j→j<len→Dis (Fs i) (Fs j))
  (hr:∀ i (h:i<xs.length),Rep w' M e oo.elem (xs[i]'h) (.mem w.heap.size (0+i*e.size)) (Fs i)) :
  Rep w' M (.sl e) oo xs (.reg [.slice (some ⟨w.heap.size,0,none⟩) len cap] 0) F:=by
 subst hlen;refine⟨_,cap,rfl,hc,?_⟩
 have own:cap≠0→∃ b off,∃ Fs:Nat→Ya,(some ⟨w.heap.size,0,none⟩:Option Addr)=some ⟨b,off,none⟩∧F b∧Room w' b off (cap*e.size)∧
   (∀ i (h:i<xs.length),Rep w' M e oo.elem (xs[i]'h) (.mem b (off+i*e.size)) (Fs i)∧Ye (Fs i) F∧¬ Fs i b)∧(∀ i j,i<j→j<xs.length→Dis (Fs i) (Fs j)):=
  fun _=>⟨w.heap.size,0,Fs,rfl,hF,h.room hs,fun i hi=>⟨hr i hi,hFs i hi⟩,hd⟩
 cases oo with
 |sh=>exact absurd rfl ho
 |top=>exact own
 |deep=>exact own
theorem Ym8 {P:Program} {d:TD} {t e:Ty} {dd:TypeDesc} (h:DOk P d t dd) (ht:t=.sl e):∃ ee,dd=.slice ee∧∃ te j,t=.sl te∧P.info? ee=some j∧j.size=te.size∧(∀ k,te=.int k→P.underlying ee=some (.int k))∧
  (∃ z,j.zero=some z∧z.cells.toList=Yx te)∧j.bytes≤4096:=by
 cases d with
 |sl ee=>obtain⟨q0,te,j,q1,q2,q3,q4,q5,q6⟩:=h;exact⟨ee,q0,te,j,q1,q2,q3,q5,q4,q6⟩
 |int k=>have:=h.2;rw[ht] at this;cases this
 |bool=>have:=h.2;rw[ht] at this;cases this
 |str=>have:=h.2;rw[ht] at this;cases this
 |arr n e=>obtain⟨_,te,j,q1,_⟩:=h;rw[ht] at q1;cases q1
 |st offs=>obtain⟨_,_,q1,_⟩:=h;rw[ht] at q1;cases q1
 |_=>exact h.elim
theorem Ysw (ht:Yag P tb) (I:Inv Z S C a w) (hg:Yax a g) {np d:Nat} {src dst:TypeId} {x:Operand} (ho:o.op=.convert src dst x) (hd:o.dst=some d) (hnp:∀ i,np≤i→Z.P i=none) (hgd:Yw S o.dst) (hdn:d<Z.nt) {b:Option Bool} {p:Patch}
  (h:(doR tb hn np g o).run S=some (.step b p)) (hb:b≠some false):Done P o a w fun u w'=>∃ C',Inv Z (S.ap p) C' (a.put o.dst u) w':=by
 simp only[doR,ho,hd] at h;replace h:=RD.bind_some h;obtain⟨v,h1,h⟩:=h;replace h:=RD.bind_some h;obtain⟨sd,h2,h⟩:=h;replace h:=RD.bind_some h;obtain⟨td,h3,h⟩:=h
 split at h
 ·rename_i os z _ _
  have hsd:sd.d=.str:=by assumption
  have hty:td.ty=.sl (.int .u8):=by assumption
  replace h:=RD.bind_some h;obtain⟨p',h4,h⟩:=h;cases h;obtain⟨⟨ds,hds,hsk,_⟩,_⟩:=ht src sd (Yp h2);obtain⟨⟨dd,hdd,hdk,_⟩,_⟩:=ht dst td (Yp h3);rw[hsd] at hsk;obtain⟨rfl,_⟩:=hsk;obtain⟨ee,rfl,te,j,q1,q2,q3,q4,q5⟩:=Ym8 hdk hty;rw[hty] at q1;cases q1;have he:=q4 .u8 rfl;obtain⟨y,e1,e2⟩:=((Yg I hg h1):Yd _ _ _ _ _ _).str;have hrun:=run_bytes_of_string (P:=P) w src dst ee y hds hdd he;generalize hcap:grownCap w y.size 0 ee=cap at hrun
  have hge:y.size≤cap:=by rw[←hcap];exact Nat.le_add_right _ _
  have hrow:(bytesRow y cap).size=cap:=by unfold bytesRow;simp;omega
  have hpush:Ya8 w (w.drew.alloc (.cells (bytesRow y cap) ee ((bytesRow y cap).size,(bytesRow y cap).size+1))) (bytesRow y cap):=
   ⟨⟨ee,_,rfl,fun i hi=>by simp;omega⟩,rfl,rfl,rfl⟩
  refine .inl ⟨_,_,.inl (by simp only[execOp,ho,e1,Sem.run_bind,hrun,Result.andThen_ok];rfl),?_⟩
  have hlen:(z.map fun b=>(b.toNat:Int)).length=y.size:=by rw[←e2];simp
  rw[hd]
  refine Yer I (Yy.start I) (Fn:=fun b=>b=w.heap.size) h4 hnp (by rw[←hd];exact hgd) hdn (hpush.hand noB) rfl (fun M hM=>?_) (fun b h=>.inr h)
  refine hpush.row hlen hge (by rw[hrow];simp[Ty.size]) (by simp) rfl (Fs:=fun _=>noB) (fun _ _=>⟨fun _ h=>h.elim,fun h=>h⟩) (fun _ _ _ _ _ h=>h.elim) (fun i hi=>?_)
  have hi':i<y.data.size:=by rw[hlen] at hi;simpa using hi
  show(Src.mem w.heap.size (0+i*1)).cell _ 0=_;simp only[Src.cell,Nat.zero_add,Nat.mul_one,Nat.add_zero];rw[hpush.cell,bytesRow_at y cap i hi'];subst e2;simp
 ·exact Ypa ht I hg hgd (fun d' e=>by rw[hd] at e;cases e;exact hdn) h hb
end Mf
