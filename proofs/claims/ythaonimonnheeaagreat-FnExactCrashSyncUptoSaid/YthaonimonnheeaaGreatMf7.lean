import Derived.Test.YthaonimonnheeaaGreatMf6
import Derived.Below
import Derived.Calls
import Derived.ChangeSame
import Derived.ChangeShapes
import Derived.DataReads
import Derived.Deep.AppendSrc
import Derived.Deep.Draws
import Derived.Deep.MidRow
import Derived.Deep.Upon
import Derived.KernelRfl
import Derived.Laws.AppendOwn
import Derived.Laws.BytesString
import Derived.Laws.Entries
import Derived.Laws.IdiomCopy
import Derived.Laws.IdiomStrings
import Derived.Laws.Strings
import Derived.Laws.StructEq
import Derived.Laws.Tables
import Derived.Lay
import Derived.Lib.SliceRun
import Derived.Orders
import Derived.Sort.Grow
import Derived.Sort.Row
import GoSem.Core.Region
import GoSem.Core.View
set_option linter.unusedVariables false
set_option linter.unusedSimpArgs false
namespace Mf
open Go
set_option linter.unusedVariables false
set_option linter.unusedSimpArgs false
variable {Z:W0} {P:Program} {tb:Tb} {hn:Hint}
def Ycy:Lay→TV
 |.at=>.dead 1
 |.un=>.cl .sh .unit ()
 |.pair a b=>.pr (Ycy a) (Ycy b)
 |.arr n e=>.dead (n*e.size)
 |.dead n=>.dead n
theorem Ykm {w:World} {M:Ya} {Lf:TV→Value→Prop}:∀ (l:Lay) {s:Src} {F:Ya},Yc w M Lf (Ycy l) s F:=by
 intro l
 induction l with
 |pair a b iha ihb=>intro s F;exact⟨noB,noB,iha,ihb,fun _ h=>h.elim,fun _ h=>h.elim,fun _ h=>h.elim⟩
 |_=>intro s F;exact trivial
theorem Yhu:∀ l:Lay,(Ycy l).Ycu=true:=by
 intro l
 induction l with
 |pair a b iha ihb=>simp only[Ycy,TV.Ycu,iha,ihb];rfl
 |_=>rfl
def Ynm:TV→Bool
 |.op _=>false
 |_=>true
theorem Ygu.shut {w:World} {M M':Ya} {L L':Nat→Src} {ρ ρ':Yb} (hm:Ye M' M) {c:TV} {u:Value} {F:Ya} (hs:c.shut=true) (h:Ygu w M L ρ c u F):Ygu w M' L' ρ' c u F:=by
 have k:∀ {c:TV} {s:Src} {F:Ya},c.shut=true→Yc w M (Yi w M L ρ) c s F→Yc w M' (Yi w M' L' ρ') c s F:=fun hs h=>Yc.shut hm (fun v u hv hl=>Yi.shut hm hv hl) hs h
 cases c with
 |op v=>obtain⟨b,off,F',h1,h2,h3,h4,h5,h6⟩:=h;exact⟨b,off,F',h1,h2,h3,h4,h5,k hs h6⟩
 |_=>exact⟨k hs h.1,h.2⟩
theorem Ydq.shut {w:World} {M M':Ya} {L L':Nat→Src} {ρ ρ':Yb} (hm:Ye M' M):∀ {cs:List TV} {us:List Value} {F:Ya},cs.all TV.shut=true→Ydq w M L ρ cs us F→Ydq w M' L' ρ' cs us F
 |[],[],F,_,h=>trivial
 |c::cs,u::us,F,hs,h=>by
  simp only[List.all_cons,Bool.and_eq_true] at hs;obtain⟨F1,F2,h1,h2,h3⟩:=h
  exact⟨F1,F2,h1.shut hm hs.1,Ydq.shut hm hs.2 h2,h3⟩
 |[],_::_,_,_,h=>h.elim
 |_::_,[],_,_,h=>h.elim
theorem Yko.shut {w:World} {M M':Ya} {L L':Nat→Src} {ρ ρ':Yb} (hm:Ye M' M) {cs:List TV} {v:Value} {F:Ya} (hs:cs.all TV.shut=true) (h:Yko w M L ρ cs v F):Yko w M' L' ρ' cs v F:=by
 match cs,hs,h with
 |[],_,h=>exact h
 |[c],hs,h=>
  simp only[List.all_cons,Bool.and_eq_true] at hs
  exact Ygu.shut (M:=M) hm hs.1 h
 |c::d::cs,hs,h=>
  obtain⟨vs,h1,h2⟩:=h;exact⟨vs,h1,Ydq.shut hm hs h2⟩
def wkR (ρ:Yb):Yb:=fun i=>match ρ i with
 |some ⟨.reg,tv⟩=>some ⟨.reg,Ycy tv.lay⟩
 |_=>none
theorem Ybs {ρ:Yb} {i:Nat} {R:Root} (h:wkR ρ i=some R):∃ tv,ρ i=some ⟨.reg,tv⟩∧R=⟨.reg,Ycy tv.lay⟩:=by
 unfold wkR at h
 split at h
 ·rename_i tv e;cases h;exact⟨tv,e,rfl⟩
 ·cases h
theorem Ya4.wk {ρ:Yb}:∀ {ms:List Md} {i:Nat} {os:List TV},os.all Ynm=true→Ya4 ρ i ms os→Ya4 (wkR ρ) i ms (os.map fun v=>Ycy v.lay):=by
 intro ms
 induction ms with
 |nil=>intro i os _ h;cases os with
  |nil=>trivial
  |cons o os=>exact h.elim
 |cons m ms ih=>
  intro i os hs h
  cases m with
  |mu=>
   cases os with
   |nil=>exact h.elim
   |cons o os=>
    simp only[List.all_cons,Bool.and_eq_true] at hs;obtain⟨⟨R,h1,h2⟩,h3⟩:=h;refine⟨?_,ih hs.2 h3⟩;obtain⟨k,tv⟩:=R
    cases k with
    |mem=>rw[h2] at hs;cases hs.1
    |reg=>
     have e:o=tv:=h2;subst e;refine⟨⟨.reg,Ycy o.lay⟩,?_,rfl⟩
     unfold wkR;rw[h1]
  |sh=>exact ih hs (by cases os<;>exact h)
  |mv=>exact ih hs (by cases os<;>exact h)
theorem Ylm {C:Cx} {i:Nat} {R:Root} {tv:TV} (e:R=⟨.reg,Ycy tv.lay⟩):∀ b,Tot C i R b→Tot C i ⟨.reg,tv⟩ b:=by
 subst e;rintro b (h | ⟨h,_⟩)
 ·exact .inl h
 ·cases h
theorem Yvv {C:Cx} {ρ:Yb} {G:Ya}:Ye (Mt Z C (wkR ρ) G) (Mt Z C ρ G):=by
 rintro b (⟨i,R,h1,h2⟩ | h)
 ·obtain⟨tv,e1,e2⟩:=Ybs h1
  exact .inl ⟨i,_,e1,Ylm e2 b h2⟩
 ·exact .inr h
theorem Str.wk {Lf Lf':TV→Value→Prop} {C:Cx} {G:Ya} {ρ:Yb} {w:World} (hS:Str Z Lf C G ρ w):Str Z Lf' C G (wkR ρ) w:={
 rep:=fun i R h=>by obtain⟨tv,e1,rfl⟩:=Ybs h;exact Ykm _
 reg:=fun i R h _=>by obtain⟨tv,e1,rfl⟩:=Ybs h;exact hS.reg i _ e1 rfl
 mem:=fun i R h hk=>by obtain⟨tv,e1,rfl⟩:=Ybs h;cases hk
 bnd:=fun i R b h=>by obtain⟨tv,e1,_⟩:=Ybs h;exact hS.bnd i _ b e1
 gbnd:=hS.gbnd
 dis:=fun i j R R' hij h h'=>by
  obtain⟨tv,e1,e2⟩:=Ybs h;obtain⟨tv',e1',e2'⟩:=Ybs h';exact fun b hb hb'=>hS.dis i j _ _ hij e1 e1' b (Ylm e2 b hb) (Ylm e2' b hb')
 gdis:=fun i R h=>by
  obtain⟨tv,e1,e2⟩:=Ybs h;exact fun b hb hb'=>hS.gdis i _ e1 b (Ylm e2 b hb) hb'
 plc:=fun i R h=>by obtain⟨tv,e1,rfl⟩:=Ybs h;have q:=hS.plc i _ e1;exact q
 sz:=hS.sz
 old:=hS.old
 kp:=hS.kp
 kf:=hS.kf
 xb:=hS.xb
 kb:=hS.kb
 os:=hS.os
 tape:=hS.tape
 output:=hS.output }
def Yrx (tb:Tb) (hn:Hint) (ts:List TypeId) (rs:List ResultVar) (ms:List Md):RD Out:=
 (Yg5 tb hn ms.length ts rs .none).bind fun(vs,K)=>(Ydd K 0 ms).bind fun os=>match vs.all TV.shut&&os.all Ynm with
  |true=>.ret ⟨vs,os.map fun v=>Ycy v.lay⟩
  |false=>.fail
def Yrp (tb:Tb) (hn:Hint) (fn:Func) (ms:List Md) (e:Ex) (S:St):Option Out:=match e with
 |.ex _=>none
 |_=>(Yrx tb hn fn.resultTypes.toList fn.results.toList ms).run S
theorem Yjp {S:St} {C:Cx} {a:Act} {w:World} (ht:Yag P tb) {fn:Func} {ms:List Md} {out:Out} (I:Inv Z S C a w) (hnp:∀ i,ms.length≤i→Z.P i=none) (h:(Yrx tb hn fn.resultTypes.toList fn.results.toList ms).run S=some out) :
  ∃ v,(results fn a.tmps).run P w=.ok v w∧Yg9 Z ms out v w:=by
 unfold Yrx at h;replace h:=RD.bind_some h;obtain⟨⟨cs,K⟩,h1,h⟩:=h;replace h:=RD.bind_some h;obtain⟨os,h2,h⟩:=h
 split at h
 ·rename_i hs
  cases h;simp only[Bool.and_eq_true] at hs;obtain⟨C2,D2,F,G,us,T,g1,f1,d1,hus,hw,hm⟩:=Yci ht I hnp _ _ (Yy.start I) (fun _ h=>h) h1;refine⟨_,Yee hus,?_⟩
  let ρ:Yb:=fun r=>match ms[r]? with | some .mu=>K.roots S r | _=>none
  have hρ:∀ r R,ρ r=some R→K.roots S r=some R∧ms[r]? = some .mu:=by
   intro r R h;simp only[ρ] at h
   split at h
   ·rename_i hm;exact⟨h,hm⟩
   ·cases h
  have hout:Ya4 ρ 0 ms os:=Ybc ms 0 h2 (fun j hj=>by simp only[ρ,Nat.zero_add,hj])
  obtain⟨W,hW⟩:=T.str.weak (ρ':=ρ) (G':=G) (fun r R h=>(hρ r R h).1) (fun b h=>.inl h);refine⟨C2,G,wkR ρ,F,W.wk,Ya4.wk hs.2 hout,f1,Yko.shut (M:=Mt Z C2 ρ G) (L:=C2.L) (ρ:=ρ) Yvv hs.1 ?_,hs.1,?_⟩
  ·have hw2:Ydq w (Mt Z C2 ρ G) C2.L ρ cs us F:=by
    have h3:=Ybu.leaf (Lf':=Yi w (Mt Z C2 (K.roots S) G) C2.L (K.roots S)) (fun v u hv hl=>Yi.shut hm hv hl) hs.1 hw;exact Ybu.shut hW hs.1 h3
   have hlen:=hw.length
   match cs,us,hw2,hlen with
   |[],[],_,_=>rfl
   |[c],[u],hw2,_=>
    obtain⟨F1,F2,q1,_,q3,_⟩:=hw2;show Ygu w _ _ _ c u F
    cases c with
    |op tv=>obtain⟨b,off,F',p1,p2,p3,p4,p5,p6⟩:=q1;exact⟨b,off,F',p1,q3 b p2,p3,fun x hx=>q3 x (p4 x hx),p5,p6⟩
    |_=>exact⟨Yc.sub q1.1 q3,q1.2⟩
   |c1::c2::cs,u1::u2::us,hw2,_=>exact⟨_,by rw[dif_neg (by simp)],hw2⟩
  ·rw[List.all_map]
   exact List.all_eq_true.2 fun x _=>Yhu _
 ·cases h
theorem Ysq (ht:Yag P tb) {f:FuncId} {fn:Func} {c:Code} (hf:P.funcs[f]? = some fn) (hb:fn.body=some c) (hname:(fn.name == "runtime.NumGoroutine")=false)
  {E:St→∀ R:Type,(Ex→St→Option R)→Option R} {cs:List TV} (hE:Ya7 P fn.ntmps cs.length c E) {ms:List Md} (hms:cs.length≤ms.length) (hnt:cs.length≤fn.ntmps)
  (hgd:Ybd (Yh cs)) {out:Out} (h:E (Yh cs) Out (Yrp tb hn fn ms)=some out):Yb5 P f ms cs out where
 there:=⟨fn,hf,hname,by rw[hb];rfl⟩
 calls:=fun Z C us hl hnt' hP1 hP2 I=>by
  obtain⟨e,S',h1,h2,h3⟩:=hE _ _ _ _ hgd h;refine calls_of_wp hf hb ?_
  refine h3 (Z.slots fn.ntmps) C _ _ _ rfl (fun i hi=>hP1 i (by omega)) (I.frame hl (by omega)) (fun C' a' w' I'=>?_)
  rcases e.Yos with rfl | rfl | ⟨i,rfl⟩
  ·obtain⟨v,q1,q2⟩:=Yjp (P:=P) ht I' (fun i hi=>hP1 i (by omega)) h1
   exact⟨I'.df,v,q1,v,rfl,q2.Yc8⟩
  ·obtain⟨v,q1,q2⟩:=Yjp (P:=P) ht I' (fun i hi=>hP1 i (by omega)) h1
   exact⟨I'.df,v,q1,v,rfl,q2.Yc8⟩
  ·cases h1
theorem Yum (ht:Yag P tb) {f:FuncId} {fn:Func} {c:Code} (hf:P.funcs[f]? = some fn) (hb:fn.body=some c) (hname:(fn.name == "runtime.NumGoroutine")=false)
  {E:St→∀ R:Type,(Ex→St→Option R)→Option R} {pts:List PT} (hE:Ya7 P fn.ntmps pts.length c E) {ms:List Md} (hms:Nat.ble pts.length ms.length=true) (hnt:Nat.ble pts.length fn.ntmps=true)
  {ρ:Type} {F:PT.Els pts→Option ρ} {out:ρ→Out} (h:∀ x,E (Yh (PT.mks pts x)) Out (Yrp tb hn fn ms)=(F x).map out):Yb2 P f (Ybk ms pts F out):=by
 intro cs R k r he;simp only[Ybk] at he
 split at he
 ·rename_i x hx
  cases hF:F x with
  |none=>rw[hF] at he;cases he
  |some t=>
   rw[hF] at he;refine⟨out t,he,?_⟩;have e:=PT.Ybl hx;subst e;have h1:=h x;rw[hF] at h1;have hl:=PT.Yd4 (l:=pts) (x:=x)
   exact Ysq ht hf hb hname (by rw[hl];exact hE) (by rw[hl];exact Nat.le_of_ble_eq_true hms) (by rw[hl];exact Nat.le_of_ble_eq_true hnt) Yep h1
 ·cases he
theorem Yxj (ht:Yag P tb) (hm:P.follows .mixedOrders=true) (fn:Func) (hn:Hint) (h:Hi) {f:FuncId} {pts:List PT} {ms:List Md} {ρ:Type} {F:PT.Els pts→Option ρ} {out:ρ→Out} {G:Gam} (hG:GOk P G)
  {L:Lam} {l:List (Nat×Code)} (hfr:Yb1 P fn.ntmps pts.length L l)
  (hE:∀ x,ev tb hn fn.ntmps pts.length G L (Yaf fn) h (Yh (PT.mks pts x)) (Yrp tb hn fn ms)=(F x).map out)
  (h1:P.funcs[f]? = some fn:=by kernel_rfl) (h2:fn.body.isSome=true:=by kernel_rfl) (h3:(fn.name == "runtime.NumGoroutine")=false:=by kernel_rfl)
  (h4:frs h (Yaf fn)=l:=by kernel_rfl) (h5:Nat.ble pts.length ms.length=true:=by kernel_rfl) (h6:Nat.ble pts.length fn.ntmps=true:=by kernel_rfl):Yb2 P f (Ybk ms pts F out):=
 Yum ht h1 (Ygs h2) h3 (Yct ht hG hm _ h (Yly h4 hfr)) h5 h6 hE
end Mf
namespace Mf
open Go
set_option linter.unusedVariables false
set_option linter.unusedSimpArgs false
variable {Z:W0} {P:Program} {tb:Tb} {hn:Hint}
def W0.free (Z:W0):W0:={Z with P:=fun _=>none }
theorem Str.free {Lf:TV→Value→Prop} {C:Cx} {G:Ya} {ρ:Yb} {w:World} (I:Str Z Lf C G ρ w) (h:∀ r R,ρ r=some R→R.k=.reg):Str Z.free Lf C G ρ w:=
 ⟨I.rep,I.reg,I.mem,I.bnd,I.gbnd,I.dis,I.gdis,fun r R hr=>⟨(fun _ e=>by cases e),(fun e=>by rw[h r R hr] at e;cases e)⟩,I.sz,I.old,I.kp,I.kf,I.xb,I.kb,I.os,I.tape,I.output⟩
def Yc2:List Md→List TV→Option (List TV)
 |[],[]=>some []
 |.mu::ms,c::cs=>match Y8 c,Ynm c,Yc2 ms cs with
  |some _,true,some os=>some (Ycy c.lay::os)
  |_,_,_=>none
 |.sh::ms,c::cs=>match Ynm c with | true=>Yc2 ms cs | false=>none
 |_,_=>none
def Ypk (tb:Tb) (hn:Hint) (ts:List TypeId) (rs:List ResultVar) (ms:List Md) (cs:List TV):RD Out:=
 (Yg5 tb hn 0 ts rs .none).bind fun(vs,K)=>match vs.all TV.shut,Yc2 ms cs with
  |true,some os=>.ret ⟨vs,os⟩
  |_,_=>.fail
def Yrz (tb:Tb) (hn:Hint) (fn:Func) (ms:List Md) (cs:List TV) (e:Ex) (S:St):Option Out:=match e with
 |.ex _=>none
 |_=>(Ypk tb hn fn.resultTypes.toList fn.results.toList ms cs).run S
theorem Yjn:∀ {ms:List Md} {cs os:List TV},Yc2 ms cs=some os→∀ c∈cs,Ynm c=true
 |[],[],_,_=>fun c h=>by cases h
 |.mu::ms,c::cs,os,h=>by
  simp only[Yc2] at h
  split at h
  ·rename_i h1 h2 h3
   intro x hx;rcases List.mem_cons.1 hx with rfl | hx
   ·exact h2
   ·exact Yjn h3 x hx
  ·cases h
 |.sh::ms,c::cs,os,h=>by
  simp only[Yc2] at h
  split at h
  ·rename_i h1
   intro x hx;rcases List.mem_cons.1 hx with rfl | hx
   ·exact h1
   ·exact Yjn h x hx
  ·cases h
 |[],_::_,_,h=>by simp[Yc2] at h
 |.mv::_,_::_,_,h=>by simp[Yc2] at h
 |_::_,[],_,h=>by simp[Yc2] at h
def Yhw (ms:List Md) (cs:List TV):Yb:=fun i=>match ms[i]?,cs[i]? with
 |some .mu,some c=>some ⟨.reg,Ycy c.lay⟩
 |_,_=>none
theorem Yg2:∀ {ms:List Md} {cs os:List TV} (ρ:Yb) (i:Nat),Yc2 ms cs=some os→(∀ j,ρ (i+j)=Yhw ms cs j)→Ya4 ρ i ms os∧os.all TV.Ycu=true
 |[],[],os,ρ,i,h,_=>by cases h;exact⟨trivial,rfl⟩
 |.mu::ms,c::cs,os,ρ,i,h,hr=>by
  simp only[Yc2] at h
  split at h
  ·rename_i h1 h2 h3
   cases h
   obtain⟨g1,g2⟩:=Yg2 ρ (i+1) h3 fun j=>by rw[show i+1+j=i+(j+1) by omega,hr (j+1)];rfl
   refine⟨⟨⟨_,(show ρ i=some ⟨.reg,Ycy c.lay⟩ from(hr 0)),rfl⟩,g1⟩,?_⟩;rw[List.all_cons,Yhu,g2];rfl
  ·cases h
 |.sh::ms,c::cs,os,ρ,i,h,hr=>by
  simp only[Yc2] at h
  split at h
  ·rename_i h1
   obtain⟨g1,g2⟩:=Yg2 ρ (i+1) h fun j=>by rw[show i+1+j=i+(j+1) by omega,hr (j+1)];rfl
   exact⟨by cases os<;>exact g1,g2⟩
  ·cases h
 |[],_::_,_,_,_,h,_=>by simp[Yc2] at h
 |.mv::_,_::_,_,_,_,h,_=>by simp[Yc2] at h
 |_::_,[],_,_,_,h,_=>by simp[Yc2] at h
theorem Ybi:∀ {ms:List Md} {cs os:List TV},Yc2 ms cs=some os→∀ i R,Yhw ms cs i=some R→∃ c R0,cs[i]? = some c∧Y8 c=some R0∧R=⟨.reg,Ycy c.lay⟩
 |[],[],os,h,i,R,hr=>by simp[Yhw] at hr
 |.mu::ms,c::cs,os,h,i,R,hr=>by
  simp only[Yc2] at h
  split at h
  ·rename_i h1 h2 h3
   cases i with
   |zero=>cases hr;exact⟨c,_,rfl,h1,rfl⟩
   |succ i=>exact Ybi h3 i R hr
  ·cases h
 |.sh::ms,c::cs,os,h,i,R,hr=>by
  simp only[Yc2] at h
  split at h
  ·rename_i h1
   cases i with
   |zero=>simp[Yhw] at hr
   |succ i=>exact Ybi h i R hr
  ·cases h
 |[],_::_,_,h,_,_,_=>by simp[Yc2] at h
 |.mv::_,_::_,_,h,_,_,_=>by simp[Yc2] at h
 |_::_,[],_,h,_,_,_=>by simp[Yc2] at h
theorem Yih {S:St} {C C0:Cx} {a:Act} {w:World} (ht:Yag P tb) {fn:Func} {ms:List Md} {cs:List TV} {out:Out} (I:Inv Z.free S C a w)
  (h0:∀ i R,Yhw ms cs i=some R→(∃ bs,C0.L i=.reg bs 0)∧Z.P i=some (C0.L i))
  (h:(Ypk tb hn fn.resultTypes.toList fn.results.toList ms cs).run S=some out) :
  ∃ v,(results fn a.tmps).run P w=.ok v w∧Yg9 Z ms out v w:=by
 unfold Ypk at h;replace h:=RD.bind_some h;obtain⟨⟨vs,K⟩,h1,h⟩:=h;simp only[] at h
 split at h
 ·rename_i os hs he
  cases h;obtain⟨C2,D2,F,G,us,T,g1,f1,d1,hus,hw,hm⟩:=Yci ht I (fun i _=>rfl) _ _ (Yy.start I) (fun _ h=>h) h1;refine⟨_,Yee hus,?_⟩
  obtain⟨W,hW⟩:=T.str.weak (ρ':=fun _=>none) (G':=G) (fun r R h=>by cases h) (fun b h=>.inl h)
  let C3:Cx:=⟨C0.L,fun _=>noB⟩
  have hM:Ye (Mt Z C3 (Yhw ms cs) G) (Mt Z.free C2 (K.roots S) G):=by
   rintro b (⟨i,R,e1,e2⟩ | h | h)
   ·obtain⟨c,R0,_,_,rfl⟩:=Ybi he i R e1
    rcases e2 with e2 | ⟨e2,_⟩
    ·exact e2.elim
    ·cases e2
   ·exact .inr (.inl h)
   ·exact .inr (.inr h)
  have hT:∀ i R,Yhw ms cs i=some R→∀ b,¬ Tot C3 i R b:=by
   intro i R e b hb;obtain⟨c,R0,_,_,rfl⟩:=Ybi he i R e;rcases hb with hb | ⟨hb,_⟩
   ·exact hb.elim
   ·cases hb
  have hout:=Yg2 (Yhw ms cs) 0 he fun j=>by rw[Nat.zero_add]
  refine⟨C3,G,Yhw ms cs,F,?_,hout.1,f1,?_,hs,hout.2⟩
  ·exact {
    rep:=fun i R h=>by obtain⟨c,R0,_,_,rfl⟩:=Ybi he i R h;exact Ykm _
    reg:=fun i R h _=>(h0 i R h).1
    mem:=fun i R h hk=>by obtain⟨c,R0,_,_,rfl⟩:=Ybi he i R h;cases hk
    bnd:=fun i R b h hb=>hb.elim
    gbnd:=W.gbnd
    dis:=fun i j R R' _ e1 e2 b hb=>absurd hb (hT i R e1 b)
    gdis:=fun i R e b hb=>absurd hb (hT i R e b)
    plc:=fun i R h=>by
     obtain⟨c,R0,_,_,e⟩:=Ybi he i R h
     refine⟨fun s' hs'=>?_,fun hk=>by rw[e] at hk;cases hk⟩
     rw[(h0 i R h).2] at hs';exact Option.some.inj hs'
    sz:=W.sz
    old:=W.old
    kp:=W.kp
    kf:=W.kf
    xb:=W.xb
    kb:=W.kb
    os:=W.os
    tape:=W.tape
    output:=W.output }
  ·have hw2:Ydq w (Mt Z C3 (Yhw ms cs) G) C3.L (Yhw ms cs) vs us F:=by
    have h3:=Ybu.leaf (Lf':=Yi w (Mt Z.free C2 (K.roots S) G) C2.L (K.roots S)) (fun v u hv hl=>Yi.shut hm hv hl) hs hw;exact Ybu.shut hM hs h3
   have hlen:=hw.length
   match vs,us,hw2,hlen with
   |[],[],_,_=>rfl
   |[c],[u],hw2,_=>
    obtain⟨F1,F2,q1,_,q3,_⟩:=hw2;show Ygu w _ _ _ c u F
    cases c with
    |op tv=>obtain⟨b,off,F',p1,p2,p3,p4,p5,p6⟩:=q1;exact⟨b,off,F',p1,q3 b p2,p3,fun x hx=>q3 x (p4 x hx),p5,p6⟩
    |_=>exact⟨Yc.sub q1.1 q3,q1.2⟩
   |c1::c2::cs,u1::u2::us,hw2,_=>exact⟨_,by rw[dif_neg (by simp)],hw2⟩
 ·cases h
theorem Ysp (ht:Yag P tb) {f:FuncId} {fn:Func} {c:Code} (hf:P.funcs[f]? = some fn) (hb:fn.body=some c) (hname:(fn.name == "runtime.NumGoroutine")=false)
  {E:St→∀ R:Type,(Ex→St→Option R)→Option R} {cs:List TV} (hE:Ya7 P fn.ntmps 0 c E) {ms:List Md} (hnt:cs.length≤fn.ntmps)
  (hgd:Ybd (Yh cs)) {out:Out} (h:E (Yh cs) Out (Yrz tb hn fn ms cs)=some out):Yb5 P f ms cs out where
 there:=⟨fn,hf,hname,by rw[hb];rfl⟩
 calls:=fun Z C us hl hnt' hP1 hP2 I=>by
  obtain⟨e,S',h1,h2,h3⟩:=hE _ _ _ _ hgd h
  have hos:∃ os,Yc2 ms cs=some os:=by
   unfold Yrz Ypk at h1
   cases e with
   |ex _=>cases h1
   |_=>
    obtain⟨⟨vs,K⟩,_,h1⟩:=RD.bind_some h1;simp only[] at h1
    split at h1
    ·rename_i q1 q2;exact⟨_,q2⟩
    ·cases h1
  obtain⟨os,hos⟩:=hos;have hno:=Yjn hos
  have hreg:∀ r R,(Yh cs).root r=some R→R.k=.reg:=by
   intro r R hr;rw[Yaa] at hr
   cases hc:cs[r]? with
   |none=>rw[hc] at hr;cases hr
   |some c=>
    rw[hc] at hr
    have:=Yab hr (fun v e=>by subst e;have:=hno _ (List.mem_of_getElem? hc);cases this)
    rw[this]
  have h0:∀ i R,Yhw ms cs i=some R→(∃ bs,C.L i=.reg bs 0)∧Z.P i=some (C.L i):=by
   intro i R hr;obtain⟨c,R0,e1,e2,_⟩:=Ybi hos i R hr
   have hR:(Yh cs).root i=some R0:=by rw[Yaa,e1];exact e2
   refine⟨I.str.reg i R0 hR (hreg i R0 hR),hP2 i ?_⟩;rw[hl];exact(List.getElem?_eq_some_iff.1 e1).1
  have I1:=I.frame hl (show us.size≤fn.ntmps by omega)
  refine calls_of_wp hf hb ?_;refine h3 (Z.slots fn.ntmps).free C _ _ _ rfl (fun i hi=>rfl) ⟨I1.str.free hreg,I1.tm,I1.df,I1.ts⟩ (fun C' a' w' I'=>?_);rcases e.Yos with rfl | rfl | ⟨i,rfl⟩
  ·obtain⟨v,q1,q2⟩:=Yih (Z:=Z.slots fn.ntmps) (P:=P) ht I' h0 h1
   exact⟨I'.df,v,q1,v,rfl,q2.Yc8⟩
  ·obtain⟨v,q1,q2⟩:=Yih (Z:=Z.slots fn.ntmps) (P:=P) ht I' h0 h1
   exact⟨I'.df,v,q1,v,rfl,q2.Yc8⟩
  ·cases h1
theorem Yb2.bot {f:FuncId} {ms:List Md} {pts:List PT} {ρ:Type} {out:ρ→Out}:Yb2 P f (Ybk ms pts (fun _=>none) out):=by
 intro cs R k r he;simp only[Ybk] at he
 split at he<;>cases he
theorem Yxf (ht:Yag P tb) (hm:P.follows .mixedOrders=true) (fn:Func) (hn:Hint) (h:Hi) {f:FuncId} {pts:List PT} {ms:List Md} {ρ:Type} {F:PT.Els pts→Option ρ} {out:ρ→Out} {G:Gam} (hG:GOk P G)
  {L:Lam} {l:List (Nat×Code)} (hfr:Yb1 P fn.ntmps 0 L l)
  (hE:∀ x,ev tb hn fn.ntmps 0 G L (Yaf fn) h (Yh (PT.mks pts x)) (Yrz tb hn fn ms (PT.mks pts x))=(F x).map out)
  (h1:P.funcs[f]? = some fn:=by kernel_rfl) (h2:fn.body.isSome=true:=by kernel_rfl) (h3:(fn.name == "runtime.NumGoroutine")=false:=by kernel_rfl)
  (h4:frs h (Yaf fn)=l:=by kernel_rfl) (h6:Nat.ble pts.length fn.ntmps=true:=by kernel_rfl):Yb2 P f (Ybk ms pts F out):=by
 intro cs R k r he;simp only[Ybk] at he
 split at he
 ·rename_i x hx
  cases hF:F x with
  |none=>rw[hF] at he;cases he
  |some t=>
   rw[hF] at he;refine⟨out t,he,?_⟩;have e:=PT.Ybl hx;subst e;have q:=hE x;rw[hF] at q;have hl:=PT.Yd4 (l:=pts) (x:=x)
   exact Ysp ht h1 (Ygs h2) h3 (Yct ht hG hm _ h (Yly h4 hfr)) (by rw[hl];exact Nat.le_of_ble_eq_true h6) Yep q
 ·cases he
end Mf
namespace Mf
open Go
set_option linter.unusedVariables false
variable {P:Program} {tb:Tb}
noncomputable def Yja (sp:SP) {σ ρ:Type} (B:sp.El→σ→Option (σ⊕ρ)) (s0:sp.El→σ) (out:sp.El→Yqn ρ):St→∀ R:Type,(Ex→St→Option R)→Option R:=
 Yt7 sp (fun x=>Y9 (B x) (s0 x)) out
section
variable {nt np:Nat} {body:Code} {sp:SP} {σ ρ:Type} {B:sp.El→σ→Option (σ⊕ρ)} {s0:sp.El→σ} {out:sp.El→Yqn ρ}
theorem Yt2 (ht:Yag P tb) (hm:P.follows .mixedOrders=true) (hn:Hint) (h:Hi) {G:Gam} (hG:GOk P G) {L:Lam} {l:List (Nat×Code)} (hfr:Yb1 P nt np L l) (X:List (Nat×KL)) (Rl:KL) (put:sp.El→σ→sp.El)
  (hE:∀ x s,ev tb hn nt np G L body h (sp.mk' (put x s)) (kLp (sp.tm.map Prod.fst,sp.rt.map Prod.fst) X Rl)=(B x s).map fun o=>sel o (fun s'=>.inl (sp.mk' (put x s'))) (fun y=>.inr (Ybq (out x) y)))
  (h1:∀ x,sp.mk' (put x (s0 x))=sp.mk' x:=by intro x;rfl)
  (h3:∀ (x:sp.El) (t:ρ) (R:Type) (k:Ex→St→Option R),out x t R k=k (Ybq (out x) t).1 (Ybq (out x) t).2:=by intro x t R k;first | rfl | (rcases t with t | t<;>first | rfl | (rcases t with t | t<;>first | rfl | (rcases t with t | t<;>first | rfl | (rcases t with t | t<;>rfl)))))
  (h4:sp.closed=true:=by kernel_rfl) (h5:frs h body=l:=by kernel_rfl):Ya7 P nt np (.loop body) (Yja sp B s0 out):=
 Yvu ht hm hn h hG hfr _ _ X Rl B (fun x s=>sp.mk' (put x s)) s0 hE h1 (fun _=>rfl) h3 h4 h5
theorem Yxs (ht:Yag P tb) (hm:P.follows .mixedOrders=true) (hn:Hint) (h:Hi) {G:Gam} (hG:GOk P G) {L:Lam} {l:List (Nat×Code)} (hfr:Yb1 P nt np L l) (X:List (Nat×KL)) (put:sp.El→σ→sp.El)
  (hE:∀ x s,ev tb hn nt np G L body h (sp.mk' (put x s)) (kLp (sp.tm.map Prod.fst,sp.rt.map Prod.fst) X ([],[]))=(B x s).map fun o=>sel o (fun s'=>.inl (sp.mk' (put x s'))) (fun y=>.inr (Ybq (out x) y)))
  (h1:∀ x,sp.mk' (put x (s0 x))=sp.mk' x:=by intro x;rfl)
  (h3:∀ (x:sp.El) (t:ρ) (R:Type) (k:Ex→St→Option R),out x t R k=k (Ybq (out x) t).1 (Ybq (out x) t).2:=by intro x t R k;first | rfl | (rcases t with t | t<;>first | rfl | (rcases t with t | t<;>first | rfl | (rcases t with t | t<;>first | rfl | (rcases t with t | t<;>rfl)))))
  (h4:sp.closed=true:=by kernel_rfl) (h5:frs h body=l:=by kernel_rfl):Ya7 P nt np (.loop body) (Yja sp B s0 out):=
 Yt2 ht hm hn h hG hfr X ([],[]) put hE h1 h3 h4 h5
theorem Yxp (ht:Yag P tb) (hm:P.follows .mixedOrders=true) (hn:Hint) (h:Hi) {L:Lam} {l:List (Nat×Code)} (hfr:Yb1 P nt np L l) (X:List (Nat×KL)) (put:sp.El→σ→sp.El)
  (hE:∀ x s,ev tb hn nt np (mkG []) L body h (sp.mk' (put x s)) (kLp (sp.tm.map Prod.fst,sp.rt.map Prod.fst) X ([],[]))=(B x s).map fun o=>sel o (fun s'=>.inl (sp.mk' (put x s'))) (fun y=>.inr (Ybq (out x) y)))
  (h1:∀ x,sp.mk' (put x (s0 x))=sp.mk' x:=by intro x;rfl)
  (h3:∀ (x:sp.El) (t:ρ) (R:Type) (k:Ex→St→Option R),out x t R k=k (Ybq (out x) t).1 (Ybq (out x) t).2:=by intro x t R k;first | rfl | (rcases t with t | t<;>first | rfl | (rcases t with t | t<;>first | rfl | (rcases t with t | t<;>first | rfl | (rcases t with t | t<;>rfl)))))
  (h4:sp.closed=true:=by kernel_rfl) (h5:frs h body=l:=by kernel_rfl):Ya7 P nt np (.loop body) (Yja sp B s0 out):=
 Yt2 ht hm hn h .nil hfr X ([],[]) put hE h1 h3 h4 h5
theorem Yxo (ht:Yag P tb) (hm:P.follows .mixedOrders=true) (hn:Hint) {G:Gam} (hG:GOk P G) (X:List (Nat×KL)) (put:sp.El→σ→sp.El)
  (hE:∀ x s,ev tb hn nt np G (mkL []) body .no (sp.mk' (put x s)) (kLp (sp.tm.map Prod.fst,sp.rt.map Prod.fst) X ([],[]))=(B x s).map fun o=>sel o (fun s'=>.inl (sp.mk' (put x s'))) (fun y=>.inr (Ybq (out x) y)))
  (h1:∀ x,sp.mk' (put x (s0 x))=sp.mk' x:=by intro x;rfl)
  (h3:∀ (x:sp.El) (t:ρ) (R:Type) (k:Ex→St→Option R),out x t R k=k (Ybq (out x) t).1 (Ybq (out x) t).2:=by intro x t R k;first | rfl | (rcases t with t | t<;>first | rfl | (rcases t with t | t<;>first | rfl | (rcases t with t | t<;>first | rfl | (rcases t with t | t<;>rfl)))))
  (h4:sp.closed=true:=by kernel_rfl):Ya7 P nt np (.loop body) (Yja sp B s0 out):=
 Yt2 ht hm hn .no hG (L:=mkL []) (l:=[]) hT X ([],[]) put hE h1 h3 h4
theorem Yxd (ht:Yag P tb) (hm:P.follows .mixedOrders=true) (hn:Hint) (X:List (Nat×KL)) (put:sp.El→σ→sp.El)
  (hE:∀ x s,ev tb hn nt np (mkG []) (mkL []) body .no (sp.mk' (put x s)) (kLp (sp.tm.map Prod.fst,sp.rt.map Prod.fst) X ([],[]))=(B x s).map fun o=>sel o (fun s'=>.inl (sp.mk' (put x s'))) (fun y=>.inr (Ybq (out x) y)))
  (h1:∀ x,sp.mk' (put x (s0 x))=sp.mk' x:=by intro x;rfl)
  (h3:∀ (x:sp.El) (t:ρ) (R:Type) (k:Ex→St→Option R),out x t R k=k (Ybq (out x) t).1 (Ybq (out x) t).2:=by intro x t R k;first | rfl | (rcases t with t | t<;>first | rfl | (rcases t with t | t<;>first | rfl | (rcases t with t | t<;>first | rfl | (rcases t with t | t<;>rfl)))))
  (h4:sp.closed=true:=by kernel_rfl):Ya7 P nt np (.loop body) (Yja sp B s0 out):=
 Yt2 ht hm hn .no .nil (L:=mkL []) (l:=[]) hT X ([],[]) put hE h1 h3 h4
end
end Mf
namespace Mf
open Go
set_option linter.unusedVariables false
def vEq:Value→Value→Bool
 |.bool a,.bool b=>match a,b with | true,true | false,false=>true | _,_=>false
 |.int k n,.int l m=>decide (k=l)&&decide (n=m)
 |.string a,.string b=>match a.data.toList,b.data.toList with | [],[]=>true | _,_=>false
 |.slice none n c,.slice none m d=>Nat.beq n m&&Nat.beq c d
 |_,_=>false
theorem Yuo:∀ {a b:Value},vEq a b=true→a=b:=by
 intro a b h;unfold vEq at h
 split at h
 ·split at h<;>first | rfl | cases h
 ·simp only[Bool.and_eq_true,decide_eq_true_eq] at h;rw[h.1,h.2]
 ·rename_i a b
  split at h
  ·rename_i h1 h2
   obtain⟨⟨l⟩⟩:=a;obtain⟨⟨m⟩⟩:=b;simp only at h1 h2;rw[h1,h2]
  ·cases h
 ·simp only[Bool.and_eq_true,Nat.beq_eq] at h;rw[h.1,h.2]
 ·cases h
def Ysz:List Value→List Value→Bool
 |[],[]=>true
 |a::l,b::m=>vEq a b&&Ysz l m
 |_,_=>false
theorem Yo8:∀ {a b:List Value},Ysz a b=true→a=b
 |[],[],h=>rfl
 |a::l,b::m,h=>by
  simp only[Ysz,Bool.and_eq_true] at h
  rw[Yuo h.1,Yo8 h.2]
 |[],_::_,h=>by cases h
 |_::_,[],h=>by cases h
def zB (z:Option Value) (t:Ty):Bool:=match z with | some v=>Ysz v.cells.toList (Yx t) | none=>false
theorem Yue {z:Option Value} {t:Ty} (h:zB z t=true):∃ v,z=some v∧v.cells.toList=Yx t:=by
 cases z with
 |none=>cases h
 |some v=>exact⟨v,rfl,Yo8 h⟩
def Yq9 (t:Ty) (d:TypeDesc):Bool:=match t.isAgg,d.isRow with | true,true | false,false=>true | _,_=>false
theorem Yl4 {t:Ty} {d:TypeDesc} (h:Yq9 t d=true):t.isAgg=true↔d.isRow=true:=by
 unfold Yq9 at h
 cases h1:t.isAgg<;>cases h2:d.isRow<;>simp_all
def Yla:List Nat→List Nat→Bool
 |[],[]=>true
 |a::l,b::m=>Nat.beq a b&&Yla l m
 |_,_=>false
theorem Ykp:∀ {a b:List Nat},Yla a b=true→a=b
 |[],[],h=>rfl
 |a::l,b::m,h=>by
  simp only[Yla,Bool.and_eq_true,Nat.beq_eq] at h
  rw[h.1,Ykp h.2]
 |[],_::_,h=>by cases h
 |_::_,[],h=>by cases h
def fieldsB (P:Program) (t:Ty):Nat→List Field→Bool
 |_,[]=>true
 |i,f::l=>(match P.info? f.type,P.underlying f.type with
  |some j,some de=>!Nat.beq j.size 0&&(Nat.beq j.size (Y7 t i).size&&Yq9 (Y7 t i) de)
  |_,_=>false)&&fieldsB P t (i+1) l
theorem Yia {P:Program} {t:Ty}:∀ {l:List Field} {i:Nat},fieldsB P t i l=true→∀ (k:Nat) f,l[k]? = some f→
  ∃ j de,P.info? f.type=some j∧j.size≠0∧j.size=(Y7 t (i+k)).size∧P.underlying f.type=some de∧((Y7 t (i+k)).isAgg=true↔de.isRow=true)
 |[],i,h,k,f,hk=>by cases hk
 |x::l,i,h,k,f,hk=>by
  simp only[fieldsB,Bool.and_eq_true] at h
  cases k with
  |zero=>
   cases hk;have h1:=h.1
   split at h1
   ·rename_i j de hj hde
    simp only[Bool.and_eq_true,Bool.not_eq_true',Nat.beq_eq] at h1;refine⟨j,de,hj,?_,h1.2.1,hde,Yl4 h1.2.2⟩;intro e;have:=h1.1;rw[e] at this;cases this
   ·cases h1
  |succ k=>
   have:=Yia h.2 k f (by simpa using hk)
   rw[show i+1+k=i+(k+1) by omega] at this
   exact this
def dB (P:Program) (td:TD) (t:Ty) (d:TypeDesc):Bool:=match td,d,t with
 |.int k,.int l,.int m=>decide (k=l)&&decide (m=k)
 |.bool,.bool,.bool=>true
 |.str,.string,.str=>true
 |.sl e,.slice f,.sl te=>Nat.beq e f&&match P.info? e with
  |some i=>Nat.beq i.size te.size&&(zB i.zero te&&(Nat.ble i.bytes 4096&&match te with
   |.int k=>match P.underlying e with | some (.int l)=>decide (k=l) | _=>false
   |_=>true))
  |none=>false
 |.arr n e,.array m f,.arr n' te=>Nat.beq n m&&(Nat.beq e f&&(Nat.beq n' n&&match P.info? e,P.underlying e with
  |some i,some de=>Nat.beq i.size te.size&&Yq9 te de
  |_,_=>false))
 |.st offs,.struct fs,t=>t.isAgg&&(Yla (fs.toList.map (·.offset)) offs&&fieldsB P t 0 fs.toList)
 |_,_,_=>false
theorem Yv0 {P:Program} {td:TD} {t:Ty} {d:TypeDesc} (h:dB P td t d=true):DOk P td t d:=by
 unfold dB at h
 split at h
 ·simp only[Bool.and_eq_true,decide_eq_true_eq] at h
  obtain⟨rfl,rfl⟩:=h;exact⟨rfl,rfl⟩
 ·exact⟨rfl,rfl⟩
 ·exact⟨rfl,rfl⟩
 ·rename_i e f te
  simp only[Bool.and_eq_true,Nat.beq_eq] at h;obtain⟨rfl,h⟩:=h
  split at h
  ·rename_i i hi
   simp only[Bool.and_eq_true,Nat.beq_eq] at h;obtain⟨h1,h2,h3,h4⟩:=h;refine⟨rfl,te,i,rfl,hi,h1,Yue h2,fun k hk=>?_,Nat.le_of_ble_eq_true h3⟩;subst hk;simp only at h4
   split at h4
   ·rename_i l hl;rw[decide_eq_true_eq] at h4;rw[hl,h4]
   ·cases h4
  ·cases h
 ·rename_i n e m f n' te
  simp only[Bool.and_eq_true,Nat.beq_eq] at h;obtain⟨rfl,rfl,rfl,h⟩:=h
  split at h
  ·rename_i i de hi hde
   simp only[Bool.and_eq_true,Nat.beq_eq] at h;exact⟨rfl,te,i,rfl,hi,h.1,de,hde,Yl4 h.2⟩
  ·cases h
 ·simp only[Bool.and_eq_true] at h
  obtain⟨h1,h2,h3⟩:=h;refine⟨_,rfl,h1,?_,fun i f hf=>?_⟩
  ·rw[Array.toList_map];exact Ykp h2
  ·have:=Yia h3 i f (by simpa using hf)
   rw[Nat.zero_add] at this;exact this
 ·cases h
def Yvz (P:Program) (t:TypeId) (i:Ydn):Bool:=match P.underlying t,P.info? t with
 |some d,some j=>dB P i.d i.ty d&&(Yq9 i.ty d&&(Nat.beq j.size i.ty.size&&zB j.zero i.ty))
 |_,_=>false
def tbB (P:Program):Tb→Bool
 |[]=>true
 |(t,i)::l=>(Yvz P t i&&EqB P t i)&&tbB P l
theorem Yld {P:Program}:∀ {tb:Tb},tbB P tb=true→∀ t i,lk t tb=some i→TOk P t i∧EqB P t i=true
 |[],h,t,i,hl=>by cases hl
 |(u,j)::l,h,t,i,hl=>by
  simp only[tbB,Bool.and_eq_true] at h;simp only[lk] at hl
  split at hl
  ·rename_i e
   rw[Nat.beq_eq] at e;subst e;cases hl;refine⟨?_,h.1.2⟩;have h1:=h.1.1;unfold Yvz at h1
   split at h1
   ·rename_i d k hd hk
    simp only[Bool.and_eq_true,Nat.beq_eq] at h1;exact⟨⟨d,hd,Yv0 h1.1,Yl4 h1.2.1⟩,⟨k,hk,h1.2.2.1,Yue h1.2.2.2⟩⟩
   ·cases h1
  ·exact Yld h.2 t i hl
theorem Yxi {P:Program} {tb:Tb} (h:tbB P tb=true):Yag P tb:=⟨fun t i hl=>(Yld h t i hl).1,fun t i hl=>(Yld h t i hl).2⟩
end Mf
namespace Mf
open Go
set_option linter.unusedVariables false
set_option linter.unusedSimpArgs false
def Fit:(t:Ty)→t.El→Prop
 |.int k,x=>k.min≤x∧x≤k.max
 |.bool,_ | .str,_ | .unit,_=>True
 |.pair a b,x=>Fit a x.1∧Fit b x.2
 |.sl e,xs=>∀ x∈xs,Fit e x
 |.arr n e,xs=>xs.length=n∧∀ x∈xs,Fit e x
def wt:(t:Ty)→t.El→Nat
 |.int _,_ | .bool,_=>1
 |.str,(x:List UInt8)=>x.length+1
 |.unit,_=>0
 |.pair a b,x=>wt a x.1+wt b x.2
 |.sl e,(xs:List e.El)=>(xs.map (wt e)).sum+1
 |.arr _ e,(xs:List e.El)=>(xs.map (wt e)).sum
def Yca {H:Type} (f:DataW H→Nat):List (DataW H)→Nat
 |[]=>0
 |d::r=>f d+Yca f r
structure Yu5 {H:Type} (f:DataW H→Nat):Prop where
 one:∀ d,1≤f d
 str:∀ b,f (.lit (.string b))=b.length+1
 sl:∀ a b,Yca f a+1≤f (.slice a b)
 agg:∀ a,Yca f a≤f (.agg a)
def stB (tb:Tb):Ty→Nat→List Field→Bool
 |.unit,_,[]=>true
 |.pair a b,off,f::l=>(match lk f.type tb with | some j=>decide (j.ty=a) | none=>false)&&(Nat.beq f.offset off&&stB tb b (off+a.size) l)
 |_,_,_=>false
def clB (P:Program) (tb:Tb) (t:TypeId) (i:Ydn):Bool:=match i.d,i.ty with
 |.sl e,.sl te=>(match lk e tb with | some j=>decide (j.ty=te) | none=>false)&&Nat.blt 0 te.size
 |.st _,ty=>match P.underlying t with | some (.struct fs)=>stB tb ty 0 fs.toList | _=>false
 |.int _,_ | .bool,_ | .str,_=>true
 |_,_=>false
def Yc5 (P:Program) (tb:Tb):Tb→Bool
 |[]=>true
 |(t,i)::l=>clB P tb t i&&Yc5 P tb l
theorem Yfp {P:Program} {tb:Tb}:∀ {l:Tb},Yc5 P tb l=true→∀ t i,lk t l=some i→clB P tb t i=true
 |[],h,t,i,hl=>by cases hl
 |(u,j)::l,h,t,i,hl=>by
  simp only[Yc5,Bool.and_eq_true] at h;simp only[lk] at hl
  split at hl
  ·rename_i e;rw[Nat.beq_eq] at e;subst e;cases hl;exact h.1
  ·exact Yfp h.2 t i hl
theorem Yqd {α:Type} {n:Nat} {Q:Nat→α→Prop} (h:∀ i,i<n→∃ y,Q i y):∃ xs:List α,xs.length=n∧∀ i (hi:i<xs.length),Q i (xs[i]'hi):=by
 induction n with
 |zero=>exact⟨[],rfl,fun i hi=>by simp at hi⟩
 |succ n ih=>
  obtain⟨xs,h1,h2⟩:=ih (fun i hi=>h i (by omega))
  obtain⟨y,hy⟩:=h n (by omega)
  refine⟨xs++[y],by simp[h1],fun i hi=>?_⟩
  by_cases e:i<xs.length
  ·rw[List.getElem_append_left e];exact h2 i e
  ·have:i=n:=by simp at hi;omega
   subst this
   rw[List.getElem_append_right (by omega)]
   simpa [h1] using hy
theorem Yrn {α β:Type} {f:α→Nat} {g:β→Nat}:∀ {xs:List α} {ys:List β},xs.length=ys.length→(∀ (i:Nat) x y,xs[i]? = some x→ys[i]? = some y→f x≤g y)→(xs.map f).sum≤(ys.map g).sum
 |[],[],_,_=>Nat.le_refl _
 |x::xs,y::ys,hl,h=>by
  simp only[List.map_cons,List.sum_cons];have h1:=h 0 x y rfl rfl
  have h2:=Yrn (f:=f) (g:=g) (xs:=xs) (ys:=ys) (by simpa using hl) (fun i a b ha hb=>h (i+1) a b (by simpa using ha) (by simpa using hb))
  omega
 |[],_::_,hl,_=>by cases hl
 |_::_,[],hl,_=>by cases hl
theorem Yj6 {H:Type} (f:DataW H→Nat) {α:Type} (g:α→DataW H):∀ xs:List α,(xs.map fun x=>f (g x)).sum=Yca f (xs.map g)
 |[]=>rfl
 |x::xs=>by simp only[List.map_cons,List.sum_cons,Yca,Yj6 f g xs]
variable {H:Type} {enc:TypeId×Value→H} {P:Program} {tb:Tb} {w:World} {spare:Nat→Bool} {held:Bool} {f:DataW H→Nat}
theorem Ydb {t:TypeId} {i:Ydn} (h:TOk P t i):P.cellsOf t=i.ty.size:=by
 obtain⟨j,hj,hs,_⟩:=h.i;simp[Program.cellsOf,hj,hs]
def Reads (w:World) (f:DataW H→Nat) (t:Ty) (s:Src) (d:DataW H):Prop:=∃ x:t.El,Rep w noB t .sh x s noB∧Fit t x∧wt t x≤f d
theorem Ynd (hb:Yag P tb) {fuel:Nat} {cs:List Value} {s:Src} (hs:∀ (k:Nat) v,cs[k]? = some v→s.cell w k=some v)
  (ih:∀ t i cs d ps,lk t tb=some i→DataW.trod enc P w 0 spare held fuel t cs=some (d,ps)→∀ s,(∀ (k:Nat) v,cs[k]? = some v→s.cell w k=some v)→cs.length=i.ty.size→Reads w f i.ty s d) :
  ∀ (l:List Field) (t:Ty) (off:Nat) (xs:List (DataW H×List MemPlace)),stB tb t off l=true→off+t.size≤cs.length→
   l.mapM (fun g=>DataW.trod enc P w 0 spare held fuel g.type ((cs.drop g.offset).take (P.cellsOf g.type)))=some xs→∃ x:t.El,Rep w noB t .sh x (s.sh off) noB∧Fit t x∧wt t x≤Yca f (xs.map (·.1))
 |[],t,off,xs,hst,hl,hx=>by
  cases t<;>simp only[stB] at hst<;>first | cases hst | skip
  exact⟨(),trivial,trivial,Nat.zero_le _⟩
 |g::l,t,off,xs,hst,hl,hx=>by
  cases t with
  |pair a b=>
   simp only[stB,Bool.and_eq_true,Nat.beq_eq] at hst;obtain⟨h1,h2,h3⟩:=hst
   split at h1
   ·rename_i j hj
    rw[decide_eq_true_eq] at h1;rw[List.mapM_cons] at hx
    cases hd:DataW.trod enc P w 0 spare held fuel g.type ((cs.drop g.offset).take (P.cellsOf g.type)) with
    |none=>rw[hd] at hx;cases hx
    |some y=>
     rw[hd] at hx
     cases hr:l.mapM (fun g=>DataW.trod enc P w 0 spare held fuel g.type ((cs.drop g.offset).take (P.cellsOf g.type))) with
     |none=>rw[hr] at hx;cases hx
     |some ys=>
      rw[hr] at hx;cases hx
      have hsz:P.cellsOf g.type=a.size:=by rw[Ydb (hb _ _ hj),h1]
      simp only[Ty.size] at hl;rw[hsz,h2] at hd;subst h1
      obtain⟨x1,p1,p2,p3⟩:=ih g.type j _ y.1 y.2 hj hd (s.sh off) (fun k v hk=>by
       rw[List.getElem?_take] at hk
       split at hk
       ·rw[List.getElem?_drop] at hk
        rw[Src.Yj];exact hs _ v hk
       ·cases hk) (by simp;omega)
      obtain⟨x2,q1,q2,q3⟩:=Ynd hb hs ih l b (off+j.ty.size) ys h3 (by omega) hr
      refine⟨(x1,x2),⟨noB,noB,p1,by rw[Src.Ygg];exact q1,fun _ h=>h,fun _ h=>h,fun _ h _=>h⟩,⟨p2,q2⟩,?_⟩
      simp only[wt,List.map_cons,Yca];omega
   ·cases h1
  |_=>simp only[stB] at hst;cases hst
theorem Yjk (hb:Yag P tb) (hc:Yc5 P tb tb=true) (hf:Yu5 f):∀ (fuel:Nat) (t:TypeId) (i:Ydn) (cs:List Value) (d:DataW H) (ps:List MemPlace),lk t tb=some i→
  DataW.trod enc P w 0 spare held fuel t cs=some (d,ps)→∀ s,(∀ (k:Nat) v,cs[k]? = some v→s.cell w k=some v)→cs.length=i.ty.size→Reads w f i.ty s d
 |0,t,i,cs,d,ps,hl,h=>by simp[DataW.trod] at h
 |fuel+1,t,i,cs,d,ps,hl,h=>by
  intro s hs hlen;have ih:=Yjk hb hc hf fuel;have hcl:=Yfp hc t i hl;have htok:=hb t i hl;obtain⟨⟨u,hu,hd,_⟩,_⟩:=hb t i hl;obtain⟨td,ty,by_⟩:=i;simp only at hd hcl hlen ⊢
  have one:∀ {t:Ty},t.size=1→cs.length=t.size→∃ v,cs=[v]:=fun e1 e2=>List.length_eq_one_iff.1 (by omega)
  cases td with
  |int k=>
   obtain⟨rfl,rfl⟩:=hd;obtain⟨v,rfl⟩:=one rfl hlen
   cases v<;>simp only[DataW.trod,hu] at h<;>try cases h
   rename_i k' n
   split at h
   ·rename_i hw
    cases h;obtain⟨rfl,hw⟩:=hw;refine⟨n,hs 0 _ rfl,?_,hf.one _⟩
    simpa [Lit.wf,Fit] using hw
   ·cases h
  |bool=>
   obtain⟨rfl,rfl⟩:=hd;obtain⟨v,rfl⟩:=one rfl hlen
   cases v<;>simp only[DataW.trod,hu] at h<;>try cases h
   exact⟨_,hs 0 _ rfl,trivial,hf.one _⟩
  |str=>
   obtain⟨rfl,rfl⟩:=hd;obtain⟨v,rfl⟩:=one rfl hlen
   cases v<;>simp only[DataW.trod,hu] at h<;>try cases h
   rename_i z
   split at h
   ·cases h
    exact⟨z.data.toList,⟨z,hs 0 _ rfl,rfl⟩,trivial,by rw[hf.str];exact Nat.le_refl _⟩
   ·cases h
  |sl e=>
   obtain⟨rfl,te,ie,rfl,_⟩:=hd;simp only[clB,Bool.and_eq_true,Nat.blt_eq] at hcl;obtain⟨hcl,hpos⟩:=hcl
   split at hcl
   ·rename_i j hj
    rw[decide_eq_true_eq] at hcl;subst hcl;have hsz:P.cellsOf e=j.ty.size:=Ydb (hb _ _ hj);obtain⟨v,rfl⟩:=one rfl hlen
    have form:(∃ a n c,v=.slice (some a) n c)∨(v=.slice none 0 0∧d=.nil):=by
     cases v<;>simp only[DataW.trod,hu] at h<;>try cases h
     rename_i A n c
     cases A with
     |none=>
      cases n<;>cases c<;>simp only[] at h<;>first | (cases h;exact .inr ⟨rfl,rfl⟩) | cases h
     |some a=>exact .inl ⟨_,_,_,rfl⟩
    rcases form with ⟨a,len,cap,rfl⟩ | ⟨rfl,rfl⟩
    rotate_left
    ·exact⟨[],⟨none,0,hs 0 _ rfl,Nat.le_refl _,fun hh=>absurd rfl hh⟩,(fun x hx=>by cases hx),hf.one _⟩
    ·simp only[DataW.trod,hu] at h
     split at h
     ·rename_i hcond
      cases he:(List.range len).mapM (fun i=>(w.cells? 0 (a.add (i*P.cellsOf e)) (P.cellsOf e)).bind (DataW.trod enc P w 0 spare held fuel e)) with
      |none=>rw[he] at h;cases h
      |some elems=>
       rw[he] at h;simp only[Option.bind_some] at h
       have hel:elems.length=len:=by rw[mapM_some_length he,List.length_range]
       have at_:∀ i,i<len→∃ l y,w.cells? 0 (a.add (i*P.cellsOf e)) (P.cellsOf e)=some l∧elems[i]? = some y∧DataW.trod enc P w 0 spare held fuel e l=some (y.1,y.2):=by
        intro i hi
        have h1:=mapM_some_get he i i (by simp[hi])
        have h2:elems[i]? = some elems[i]:=List.getElem?_eq_getElem (by omega)
        rw[h2] at h1
        cases hcc:w.cells? 0 (a.add (i*P.cellsOf e)) (P.cellsOf e) with
        |none=>rw[hcc] at h1;cases h1
        |some l=>rw[hcc] at h1;exact⟨l,_,rfl,h2,h1⟩
       have cellsAt:∀ i,i<len→∀ l,w.cells? 0 (a.add (i*P.cellsOf e)) (P.cellsOf e)=some l→l.length=j.ty.size∧∀ k v,l[k]? = some v→w.cell? ((a.add (i*P.cellsOf e)).add k)=some v:=by
        intro i hi l hcc;simp only[World.cells?,Nat.zero_le,if_true] at hcc;have h1:=mapM_some_length hcc;rw[List.length_range,hsz] at h1;refine⟨h1,fun k v hk=>?_⟩;have hk':k<l.length:=(List.getElem?_eq_some_iff.1 hk).1
        have:=mapM_some_get hcc k k (by rw[List.getElem?_range (by rw[hsz,←h1];exact hk')])
        rw[this,hk]
       have spot:0<len→a=⟨a.block,a.off,none⟩∧a.block<w.heap.size:=by
        intro hpos';obtain⟨l,y,h1,_,_⟩:=at_ 0 hpos';obtain⟨h2,h3⟩:=cellsAt 0 hpos' l h1
        have h4:=h3 0 l[0] (List.getElem?_eq_getElem (by omega))
        have e0:(a.add (0*P.cellsOf e)).add 0=a:=by simp[Addr.add]
        rw[e0] at h4;unfold World.cell? at h4
        split at h4
        ·rename_i c _ _ hh
         have hb':a.block<w.heap.size:=(Array.getElem?_eq_some_iff.1 hh).1
         split at h4
         ·cases h4
         ·rename_i hsp
          obtain⟨ab,ao,as⟩:=a
          cases as with
          |none=>exact⟨rfl,hb'⟩
          |some q=>exact absurd rfl hsp
        ·cases h4
       obtain⟨xs,hxl,hx⟩:=Yqd (n:=len) (Q:=fun i (x:j.ty.El)=>Rep w noB j.ty .sh x (.mem a.block (a.off+i*j.ty.size)) noB∧Fit j.ty x∧∀ y,elems[i]? = some y→wt j.ty x≤f y.1) (fun i hi=>by
        obtain⟨l,y,h1,h2,h3⟩:=at_ i hi;obtain⟨h4,h5⟩:=cellsAt i hi l h1
        obtain⟨hsp,_⟩:=spot (by omega)
        obtain⟨x,p1,p2,p3⟩:=ih e j l y.1 y.2 hj h3 (.mem a.block (a.off+i*j.ty.size)) (fun k v hk=>by
         have:=h5 k v hk;rw[hsp,hsz] at this;simp only[Src.cell];rw[←this]
         congr 1
         by_cases e1:i*j.ty.size=0
         ·by_cases e2:k=0
          ·simp[Addr.add,e1,e2]
          ·simp[Addr.add,e1,e2]
         ·by_cases e2:k=0
          ·simp only[Addr.add,e1,e2,if_false,if_true];simp
          ·simp only[Addr.add,e1,e2,if_false];try simp[Nat.add_assoc]) h4
        exact⟨x,p1,p2,fun y' hy'=>by rw[h2] at hy';cases hy';exact p3⟩)
       have hrd:Rep w noB (.sl j.ty) .sh xs s noB∧Fit (.sl j.ty) xs:=by
        refine⟨⟨some a,cap,by rw[hxl];exact hs 0 _ rfl,by rw[hxl];exact hcond.2.1,fun hne=>?_⟩,fun x hm=>?_⟩
        ·have hpos':0<len:=by rw[←hxl];exact List.length_pos_iff.2 hne
         obtain⟨hsp,hlt⟩:=spot hpos';exact⟨a.block,a.off,congrArg some hsp,fun hh=>hh,hlt,fun i hi=>(hx i hi).1⟩
        ·obtain⟨i,hi,rfl⟩:=List.getElem_of_mem hm
         exact(hx i hi).2.1
       have hsum:(xs.map (wt j.ty)).sum≤Yca f (elems.map (·.1)):=by
        rw[←Yj6 f (fun y:DataW H×List MemPlace=>y.1) elems]
        refine Yrn (by omega) (fun i x y h1 h2=>?_)
        obtain⟨hi,rfl⟩:=List.getElem?_eq_some_iff.1 h1;exact(hx i hi).2.2 y h2
       cases hr:(if spare a.block then(List.range (cap-len)).mapM fun k=>(w.cells? 0 (a.add ((len+k)*P.cellsOf e)) (P.cellsOf e)).bind (DataW.trod enc P w 0 spare held fuel e) else some []) with
       |none=>rw[hr] at h;cases h
       |some rest=>
        rw[hr] at h;cases h;refine⟨xs,hrd.1,hrd.2,?_⟩
        have:=hf.sl (elems.map (·.1)) (rest.map (·.1))
        simp only[wt];omega
     ·cases h
   ·cases hcl
  |arr n e=>simp only[clB] at hcl;cases hcl
  |st offs=>
   obtain⟨fs,rfl,_⟩:=hd;simp only[clB,hu] at hcl;simp only[DataW.trod,hu] at h
   split at h
   ·rename_i hcs
    cases hm:fs.toList.mapM (fun g=>DataW.trod enc P w 0 spare held fuel g.type ((cs.drop g.offset).take (P.cellsOf g.type))) with
    |none=>rw[hm] at h;cases h
    |some xs=>
     rw[hm] at h;cases h
     obtain⟨x,p1,p2,p3⟩:=Ynd hb hs ih fs.toList ty 0 xs hcl (by omega) hm
     rw[Src.Yda] at p1;exact⟨x,p1,p2,Nat.le_trans p3 (hf.agg _)⟩
   ·cases h
  |ptr e=>exact hd.elim
  |other=>exact hd.elim
end Mf
namespace Mf
open Go
set_option linter.unusedVariables false
set_option linter.unusedSimpArgs false
variable {H:Type} {enc:TypeId×Value→H} {P:Program} {tb:Tb} {w w':World} {held held':Bool} {sp':Nat→Bool}
theorem Yfw {α β:Type} {f g:α→Option β}:∀ {l:List α} {r:List β},l.mapM f=some r→(∀ x y,x∈l→y∈r→f x=some y→g x=some y)→l.mapM g=some r
 |[],r,h,hg=>by simpa using h
 |x::l,r,h,hg=>by
  rw[List.mapM_cons] at h ⊢
  cases hx:f x with
  |none=>rw[hx] at h;cases h
  |some y=>
   rw[hx] at h
   cases hl:l.mapM f with
   |none=>rw[hl] at h;cases h
   |some ys=>
    rw[hl] at h;cases h;rw[hg x y List.mem_cons_self List.mem_cons_self hx,Yfw hl (fun a b ha hb=>hg a b (List.mem_cons_of_mem _ ha) (List.mem_cons_of_mem _ hb))];rfl
theorem Yrw (hw:∀ b,b<w.heap.size→w'.heap[b]? = w.heap[b]?) {a:Addr} {v:Value} (h:w.cell? a=some v):w'.cell? a=some v:=by
 unfold World.cell? at h ⊢
 split at h
 ·rename_i c _ _ hh
  have hb:a.block<w.heap.size:=(Array.getElem?_eq_some_iff.1 hh).1;rw[hw _ hb,hh];exact h
 ·cases h
theorem Yp0 (hw:∀ b,b<w.heap.size→w'.heap[b]? = w.heap[b]?) {a:Addr} {n:Nat} {l:List Value} (h:w.cells? 0 a n=some l):w'.cells? 0 a n=some l:=by
 simp only[World.cells?,Nat.zero_le,if_true] at h ⊢;exact Yfw h (fun x y _ _ he=>Yrw hw he)
theorem Ykr (hb:Yag P tb) (hc:Yc5 P tb tb=true) (hw:∀ b,b<w.heap.size→w'.heap[b]? = w.heap[b]?):∀ (fuel:Nat) (t:TypeId) (i:Ydn) (cs:List Value) (d:DataW H) (ps:List MemPlace),lk t tb=some i→
  DataW.trod enc P w 0 (fun _=>true) held fuel t cs=some (d,ps)→(∀ p∈ps,sp' p.block=true)→DataW.trod enc P w' 0 sp' held' fuel t cs=some (d,ps)
 |0,t,i,cs,d,ps,hl,h,hp=>by simp[DataW.trod] at h
 |fuel+1,t,i,cs,d,ps,hl,h,hp=>by
  have ih:=Ykr hb hc hw fuel;have hcl:=Yfp hc t i hl;obtain⟨⟨u,hu,hd,_⟩,_⟩:=hb t i hl;obtain⟨td,ty,by_⟩:=i;simp only at hd hcl
  cases td with
  |int k=>
   obtain⟨rfl,rfl⟩:=hd;rcases cs with _ | ⟨v,_ | ⟨v2,cs⟩⟩
   ·simp only[DataW.trod,hu] at h;cases h
   ·cases v<;>simp only[DataW.trod,hu] at h ⊢<;>first | exact h | cases h
   ·simp only[DataW.trod,hu] at h;cases h
  |bool=>
   obtain⟨rfl,rfl⟩:=hd;rcases cs with _ | ⟨v,_ | ⟨v2,cs⟩⟩
   ·simp only[DataW.trod,hu] at h;cases h
   ·cases v<;>simp only[DataW.trod,hu] at h ⊢<;>first | exact h | cases h
   ·simp only[DataW.trod,hu] at h;cases h
  |str=>
   obtain⟨rfl,rfl⟩:=hd;rcases cs with _ | ⟨v,_ | ⟨v2,cs⟩⟩
   ·simp only[DataW.trod,hu] at h;cases h
   ·cases v<;>simp only[DataW.trod,hu] at h ⊢<;>first | exact h | cases h
   ·simp only[DataW.trod,hu] at h;cases h
  |sl e=>
   obtain⟨rfl,te,ie,rfl,_⟩:=hd;simp only[clB,Bool.and_eq_true,Nat.blt_eq] at hcl;obtain⟨hcl,hpos⟩:=hcl
   split at hcl
   ·rename_i j hj
    rw[decide_eq_true_eq] at hcl;subst hcl;have hsz:P.cellsOf e=j.ty.size:=Ydb (hb _ _ hj)
    have form:(∃ a n c,cs=[.slice (some a) n c])∨cs=[.slice none 0 0]:=by
     rcases cs with _ | ⟨v,_ | ⟨v2,cs⟩⟩
     ·simp only[DataW.trod,hu] at h;cases h
     ·cases v<;>simp only[DataW.trod,hu] at h<;>try cases h
      rename_i A n c
      cases A with
      |none=>cases n<;>cases c<;>simp only[] at h<;>first | exact .inr rfl | cases h
      |some a=>exact .inl ⟨_,_,_,rfl⟩
     ·simp only[DataW.trod,hu] at h;cases h
    rcases form with ⟨a,len,cap,rfl⟩ | rfl
    ·simp only[DataW.trod,hu] at h ⊢
     split at h
     ·rename_i hcond
      rw[if_pos hcond]
      cases he:(List.range len).mapM (fun i=>(w.cells? 0 (a.add (i*P.cellsOf e)) (P.cellsOf e)).bind (DataW.trod enc P w 0 (fun _=>true) held fuel e)) with
      |none=>rw[he] at h;cases h
      |some elems=>
       rw[he] at h;simp only[Option.bind_some,if_true] at h
       cases hr:(List.range (cap-len)).mapM (fun k=>(w.cells? 0 (a.add ((len+k)*P.cellsOf e)) (P.cellsOf e)).bind (DataW.trod enc P w 0 (fun _=>true) held fuel e)) with
       |none=>rw[hr] at h;cases h
       |some rest=>
        rw[hr] at h;simp only[Option.map_some,Option.some.injEq,Prod.mk.injEq] at h;obtain⟨rfl,rfl⟩:=h
        have step:∀ (y:DataW H×List MemPlace) (n:Nat),y∈elems++rest→(w.cells? 0 (a.add (n*P.cellsOf e)) (P.cellsOf e)).bind (DataW.trod enc P w 0 (fun _=>true) held fuel e)=some y→
          (w'.cells? 0 (a.add (n*P.cellsOf e)) (P.cellsOf e)).bind (DataW.trod enc P w' 0 sp' held' fuel e)=some y:=by
         intro y n hy h1
         cases hcc:w.cells? 0 (a.add (n*P.cellsOf e)) (P.cellsOf e) with
         |none=>rw[hcc] at h1;cases h1
         |some l=>
          rw[hcc] at h1;rw[Yp0 hw hcc];exact ih e j l y.1 y.2 hj h1 (fun p hp'=>hp p (List.mem_append_right _ (List.mem_flatMap.2 ⟨y,hy,hp'⟩)))
        have e1:(List.range len).mapM (fun i=>(w'.cells? 0 (a.add (i*P.cellsOf e)) (P.cellsOf e)).bind (DataW.trod enc P w' 0 sp' held' fuel e))=some elems:=
         Yfw he (fun x y _ hy h1=>step y x (List.mem_append_left _ hy) h1)
        have e2:(List.range (cap-len)).mapM (fun k=>(w'.cells? 0 (a.add ((len+k)*P.cellsOf e)) (P.cellsOf e)).bind (DataW.trod enc P w' 0 sp' held' fuel e))=some rest:=
         Yfw hr (fun x y _ hy h1=>step y (len+x) (List.mem_append_right _ hy) h1)
        rw[e1];simp only[Option.bind_some]
        have e3:(if sp' a.block then(List.range (cap-len)).mapM fun k=>(w'.cells? 0 (a.add ((len+k)*P.cellsOf e)) (P.cellsOf e)).bind (DataW.trod enc P w' 0 sp' held' fuel e) else some [])=some rest:=by
         by_cases hz:cap-len=0
         ·have hrest:rest=[]:=by
           rw[hz] at hr
           simpa using hr.symm
          subst hrest
          split
          ·exact e2
          ·rfl
         ·have hlen:elems.length+rest.length=cap:=by
           rw[mapM_some_length he,mapM_some_length hr,List.length_range,List.length_range];omega
          have:sp' a.block=true:=by
           have hcap:0<cap*j.ty.size:=Nat.mul_pos (by omega) hpos
           refine hp (.cell a.block a.off) (List.mem_append_left _ ?_);rw[hlen,hsz];simp only[MemPlace.row,List.mem_map,List.mem_range]
           exact⟨0,hcap,by simp⟩
          rw[if_pos this];exact e2
        rw[e3];rfl
     ·cases h
    ·simp only[DataW.trod,hu] at h ⊢
     exact h
   ·cases hcl
  |arr n e=>simp only[clB] at hcl;cases hcl
  |st offs=>
   obtain⟨fs,rfl,_⟩:=hd;simp only[clB,hu] at hcl;simp only[DataW.trod,hu] at h ⊢
   split at h
   ·rename_i hcs
    rw[if_pos hcs]
    cases hm:fs.toList.mapM (fun g=>DataW.trod enc P w 0 (fun _=>true) held fuel g.type ((cs.drop g.offset).take (P.cellsOf g.type))) with
    |none=>rw[hm] at h;cases h
    |some xs=>
     rw[hm] at h;simp only[Option.map_some,Option.some.injEq,Prod.mk.injEq] at h;obtain⟨rfl,rfl⟩:=h
     have tys:∀ (l:List Field) (ty:Ty) (off:Nat),stB tb ty off l=true→∀ g∈l,∃ j,lk g.type tb=some j:=by
      intro l
      induction l with
      |nil=>intro ty off _ g hg;cases hg
      |cons g0 l ihl=>
       intro ty off hst g hg
       cases ty with
       |pair a b=>
        simp only[stB,Bool.and_eq_true] at hst;obtain⟨h1,_,h3⟩:=hst;rcases List.mem_cons.1 hg with rfl | hg
        ·split at h1
         ·rename_i j hj;exact⟨j,hj⟩
         ·cases h1
        ·exact ihl b _ h3 g hg
       |_=>simp only[stB] at hst;cases hst
     have:fs.toList.mapM (fun g=>DataW.trod enc P w' 0 sp' held' fuel g.type ((cs.drop g.offset).take (P.cellsOf g.type)))=some xs:=
      Yfw hm (fun g y hg hy h1=>by
       obtain⟨j,hj⟩:=tys _ _ _ hcl g hg
       exact ih g.type j _ y.1 y.2 hj h1 (fun p hp'=>hp p (List.mem_flatMap.2 ⟨y,hy,hp'⟩)))
     rw[this];rfl
   ·cases h
  |ptr e=>exact hd.elim
  |other=>exact hd.elim
end Mf
namespace Mf
open Go Go.ChangeShapes
set_option linter.unusedVariables false
set_option linter.unusedSimpArgs false
variable {H:Type} {enc:TypeId×Value→H} {P:Program} {tb:Tb} {w w':World}
theorem Yoh {r:Reach} {base:Nat} {t:TypeId} {v:Value} {i:Ydn} (hd:TOk P t i) (h:Value.okWide P w r base t v):i.ty.isAgg=true↔∃ cs,v=.agg cs:=by
 obtain⟨⟨d,hu,hD,ha⟩,_⟩:=hd;rw[ha];unfold Value.okWide at h;rw[hu] at h;obtain⟨td,ty,by_⟩:=i;simp only at hD
 have leaf:d.isRow=false→Cell.okWide P w r base t v→(d=.bool∨d=.string∨(∃ k,d=.int k)∨∃ e,d=.slice e)→(d.isRow=true↔∃ cs,v=.agg cs):=by
  intro h1 h2 h3;rw[h1]
  refine⟨(fun e=>by cases e),fun⟨cs,e⟩=>?_⟩
  subst e
  rcases h3 with rfl | rfl | ⟨k,rfl⟩ | ⟨e,rfl⟩<;>simp[Cell.okWide,Cell.ok,hu] at h2
 cases td with
 |int k=>obtain⟨rfl,rfl⟩:=hD;exact leaf rfl h (.inr (.inr (.inl ⟨k,rfl⟩)))
 |bool=>obtain⟨rfl,rfl⟩:=hD;exact leaf rfl h (.inl rfl)
 |str=>obtain⟨rfl,rfl⟩:=hD;exact leaf rfl h (.inr (.inl rfl))
 |sl e=>obtain⟨rfl,_⟩:=hD;exact leaf rfl h (.inr (.inr (.inr ⟨e,rfl⟩)))
 |arr n e=>
  obtain⟨rfl,_⟩:=hD;obtain⟨cs,rfl,_⟩:=h
  exact⟨fun _=>⟨cs,rfl⟩,fun _=>rfl⟩
 |st offs=>
  obtain⟨fs,rfl,_⟩:=hD;obtain⟨cs,rfl,_⟩:=h
  exact⟨fun _=>⟨cs,rfl⟩,fun _=>rfl⟩
 |ptr e=>exact hD.elim
 |other=>exact hD.elim
def Yqb (tb:Tb):List TypeId→List Ty→Bool
 |[],[]=>true
 |t::ts,u::us=>(match lk t tb with | some i=>decide (i.ty=u) | none=>false)&&Yqb tb ts us
 |_,_=>false
abbrev shs (tys:List Ty):List PT:=tys.map fun t=>.cl .sh t
def Yop:(tys:List Ty)→PT.Els (shs tys)→Prop
 |[],_=>True
 |t::l,x=>Fit t x.1∧Yop l x.2
def Ypb:(tys:List Ty)→PT.Els (shs tys)→Nat
 |[],_=>0
 |t::l,x=>wt t x.1+Ypb l x.2
def Yfd (w:World):(tys:List Ty)→PT.Els (shs tys)→List Value→Prop
 |[],_,vs=>vs=[]
 |t::l,x,v::vs=>(Rep w noB t .sh x.1 (.reg v.cells.toList 0) noB∧v.cells.size=t.size∧(t.isAgg=true↔∃ cs,v=.agg cs))∧Yfd w l x.2 vs
 |_::_,_,[]=>False
theorem Yoz (hb:Yag P tb) {t:TypeId} {i:Ydn} (hl:lk t tb=some i) {held:Bool} {fuel:Nat} {sp:Nat→Bool} {v:Value} {d:DataW H} {ps:List MemPlace} (hagg:i.ty.isAgg=true↔∃ cs,v=.agg cs)
  (h:DataW.trod enc P w 0 sp held fuel t v.cells.toList=some (d,ps)):v.cells.size=i.ty.size:=by
 cases hh:i.ty.isAgg with
 |false=>
  have:¬ ∃ cs,v=.agg cs:=fun e=>by rw[hagg.2 e] at hh;cases hh
  rw[Yb6 this]
  cases ht:i.ty<;>rw[ht] at hh<;>first | rfl | cases hh
 |true=>
  obtain⟨⟨u,hu,hD,ha⟩,_⟩:=hb t i hl;have hcell:=Ydb (hb t i hl)
  cases fuel with
  |zero=>simp[DataW.trod] at h
  |succ n=>
   obtain⟨td,ty,by_⟩:=i;simp only at hD hh ha hcell ⊢
   cases td with
   |int k=>obtain⟨_,rfl⟩:=hD;cases hh
   |bool=>obtain⟨_,rfl⟩:=hD;cases hh
   |str=>obtain⟨_,rfl⟩:=hD;cases hh
   |sl e=>obtain⟨_,te,ie,rfl,_⟩:=hD;cases hh
   |arr n e=>
    obtain⟨rfl,_⟩:=hD;simp only[DataW.trod,hu] at h
    split at h
    ·rename_i hc;rw[←hcell,←hc];simp
    ·cases h
   |st offs=>
    obtain⟨fs,rfl,_⟩:=hD;simp only[DataW.trod,hu] at h
    split at h
    ·rename_i hc;rw[←hcell,←hc];simp
    ·cases h
   |ptr e=>exact hD.elim
   |other=>exact hD.elim
theorem Ykj (hb:Yag P tb) (hc:Yc5 P tb tb=true) {bk:DataW H→Nat} (hf:Yu5 bk) {held:Bool} {sp:Nat→Bool} {base:Nat}:∀ (ts:List TypeId) (tys:List Ty) (vs:List Value) (ds:List (DataW H)) (ps:List MemPlace),
  Yqb tb ts tys=true→(∀ (j:Nat) t v,ts[j]? = some t→vs[j]? = some v→Value.okWide P w .any base t v)→DataW.TrodAll enc P w 0 sp held ts vs ds ps→
  ∃ x:PT.Els (shs tys),Yfd w tys x vs∧Yop tys x∧Ypb tys x≤Yca bk ds
 |[],[],vs,ds,ps,ht,hv,h=>by
  obtain⟨rfl,rfl,rfl⟩:=trodAll_nil h
  exact⟨(),rfl,trivial,Nat.zero_le _⟩
 |t::ts,ty::tys,vs,ds,ps,ht,hv,h=>by
  obtain⟨v,vs1,d,ds1,a,b,rfl,rfl,rfl,h1,h2⟩:=trodAll_cons h;simp only[Yqb,Bool.and_eq_true] at ht;obtain⟨ht1,ht2⟩:=ht
  split at ht1
  ·rename_i i hi
   rw[decide_eq_true_eq] at ht1;subst ht1
   obtain⟨x2,p1,p2,p3⟩:=Ykj hb hc hf ts tys vs1 ds1 b ht2 (fun j t v e1 e2=>hv (j+1) t v (by simpa using e1) (by simpa using e2)) h2
   obtain⟨fuel,h1⟩:=h1;have hagg:=Yoh (hb t i hi) (hv 0 t v rfl rfl);have hsz:=Yoz hb hi hagg h1
   obtain⟨x1,q1,q2,q3⟩:=Yjk hb hc hf fuel t i _ d a hi h1 (.reg v.cells.toList 0) (fun k u hk=>by simp only[Src.cell,Nat.zero_add];exact hk) (by simp[hsz])
   refine⟨(x1,x2),⟨⟨q1,hsz,hagg⟩,p1⟩,⟨q2,p2⟩,?_⟩;simp only[Ypb,Yca];omega
  ·cases ht1
 |[],_::_,vs,ds,ps,ht,hv,h=>by cases ht
 |_::_,[],vs,ds,ps,ht,hv,h=>by cases ht
theorem Ygh (hb:Yag P tb) (hc:Yc5 P tb tb=true) (hw:∀ b,b<w.heap.size→w'.heap[b]? = w.heap[b]?) {held held':Bool} {sp':Nat→Bool}:∀ (ts:List TypeId) (tys:List Ty) (vs:List Value) (ds:List (DataW H)) (ps:List MemPlace),
  Yqb tb ts tys=true→DataW.TrodAll enc P w 0 (fun _=>true) held ts vs ds ps→(∀ p∈ps,sp' p.block=true)→DataW.TrodAll enc P w' 0 sp' held' ts vs ds ps
 |[],[],vs,ds,ps,ht,h,hp=>by
  obtain⟨rfl,rfl,rfl⟩:=trodAll_nil h
  exact trodAll_mk0
 |t::ts,ty::tys,vs,ds,ps,ht,h,hp=>by
  obtain⟨v,vs1,d,ds1,a,b,rfl,rfl,rfl,h1,h2⟩:=trodAll_cons h;simp only[Yqb,Bool.and_eq_true] at ht;obtain⟨ht1,ht2⟩:=ht
  split at ht1
  ·rename_i i hi
   obtain⟨fuel,h1⟩:=h1;exact⟨a,b,⟨fuel,Ykr hb hc hw fuel t i _ d a hi h1 (fun p hp'=>hp p (List.mem_append_left _ hp'))⟩,Ygh hb hc hw ts tys vs1 ds1 b ht2 h2 (fun p hp'=>hp p (List.mem_append_right _ hp')),rfl⟩
  ·cases ht1
 |[],_::_,vs,ds,ps,ht,h,hp=>by cases ht
 |_::_,[],vs,ds,ps,ht,h,hp=>by cases ht
theorem Yfd.length {tys:List Ty}:∀ {x:PT.Els (shs tys)} {vs:List Value},Yfd w tys x vs→vs.length=(PT.mks (shs tys) x).length:=by
 induction tys with
 |nil=>intro x vs h;rw[show vs=[] from h];rfl
 |cons t l ih=>
  intro x vs h
  cases vs with
  |nil=>exact h.elim
  |cons v vs=>exact congrArg (·+1) (ih h.2)
theorem Yfd.get {tys:List Ty}:∀ {x:PT.Els (shs tys)} {vs:List Value} (i:Nat) {c:TV},Yfd w tys x vs→(PT.mks (shs tys) x)[i]? = some c→
  ∃ t y v,c=.cl .sh t y∧vs[i]? = some v∧Rep w noB t .sh y (.reg v.cells.toList 0) noB∧v.cells.size=t.size∧(t.isAgg=true↔∃ cs,v=.agg cs):=by
 induction tys with
 |nil=>intro x vs i c h hc;cases hc
 |cons t l ih=>
  intro x vs i c h hc
  cases vs with
  |nil=>exact h.elim
  |cons v vs=>
   cases i with
   |zero=>cases hc;exact⟨t,x.1,v,rfl,rfl,h.1.1,h.1.2.1,h.1.2.2⟩
   |succ i=>
    obtain⟨t',y,u,h1,h2,h3⟩:=ih i h.2 (c:=c) hc
    exact⟨t',y,u,h1,by simpa using h2,h3⟩
theorem Ys2 {tys:List Ty}:∀ (x:PT.Els (shs tys)),PT.rds (shs tys) (PT.mks (shs tys) x)=some x:=by
 induction tys with
 |nil=>intro x;rfl
 |cons t l ih=>
  intro x
  have e1:(PT.cl .sh t).rd (.cl .sh t x.1)=some x.1:=by
   simp only[PT.rd];rw[show decEq Ow.sh Ow.sh=isTrue rfl from Subsingleton.elim _ _,show decEq t t=isTrue rfl from Subsingleton.elim _ _]
  have h2:=ih x.2;change PT.rds (PT.cl .sh t::shs l) (TV.cl .sh t x.1::PT.mks (shs l) x.2)=some x;simp only[PT.rds];rw[e1,h2];rfl
theorem Yq4 (r:Nat) (p:Path) (t:Ty) (x:t.El):Yan r p .sh t x=.cl .sh t x:=by
 cases t<;>simp only[Yan]<;>first | rfl | (split<;>rfl)
theorem Yqp {f:FuncId} {ms:List Md} {tys:List Ty} {x:PT.Els (shs tys)} {us:Array Value} {o:Ow} {b:Bool} (hC:Yb5 P f ms (PT.mks (shs tys) x) ⟨[.cl o .bool b],[]⟩) (ha:Yfd w tys x us.toList) :
  Calls P f us w fun e w'=>e=.returned (.bool b)∧(∀ i,i<w.heap.size→w'.heap[i]? = w.heap[i]?)∧w'.os=w.os∧w'.output=w.output∧w.heap.size≤w'.heap.size:=by
 have hlen:us.size=(PT.mks (shs tys) x).length:=by rw[←ha.length];simp
 let Z:W0:=⟨w,noB,fun _ _=>False,noB,fun i=>if i<us.size then some (.reg (us.getD i undef).cells.toList 0) else none,us.size⟩
 let C:Cx:=⟨fun i=>.reg (us.getD i undef).cells.toList 0,fun _=>noB⟩
 have hroot:∀ r,(Yh (PT.mks (shs tys) x)).root r=none:=by
  intro r;unfold St.root Yh;simp only[Ykh];rw[if_pos (Nat.zero_le r)]
  cases hc:(PT.mks (shs tys) x)[r-0]? with
  |none=>rfl
  |some c=>
   obtain⟨t,y,v,rfl,_⟩:=ha.get _ hc
   have:Y8 (.cl .sh t y)=none:=by
    show(match t.pure,Ow.sh with | true,_=>none | false,.sh=>none | false,o=>some (Root.mk .reg (.cl o t y)))=none
    cases t.pure<;>rfl
   simp[this]
 have hM:∀ b,¬ Mt Z C (Yh (PT.mks (shs tys) x)).root noB b:=by
  rintro b (⟨r,R,h,_⟩ | h | h)
  ·rw[hroot] at h;cases h
  ·exact h
  ·exact h
 have I:Inv Z (Yh (PT.mks (shs tys) x)) C ⟨us,[]⟩ w:=by
  refine⟨⟨?_,?_,?_,?_,fun _ h=>h.elim,?_,?_,?_,Nat.le_refl _,fun _ _ _=>rfl,fun _ _ _=>rfl,fun _ _ _ _=>rfl,fun _ h=>h.elim,fun _ _ h=>h.elim,rfl,rfl,rfl⟩,fun i v hv=>?_,rfl,rfl⟩
  ·intro r R h;rw[hroot] at h;cases h
  ·intro r R h;rw[hroot] at h;cases h
  ·intro r R h;rw[hroot] at h;cases h
  ·intro r R b h;rw[hroot] at h;cases h
  ·intro r r' R R' _ h;rw[hroot] at h;cases h
  ·intro r R h;rw[hroot] at h;cases h
  ·intro r R h;rw[hroot] at h;cases h
  ·have h1:=Yew (PT.mks (shs tys) x) 0 i
   rw[show lk i (Ydh 0 (PT.mks (shs tys) x))=some v from hv,if_pos (Nat.zero_le i)] at h1
   cases hc:(PT.mks (shs tys) x)[i-0]? with
   |none=>rw[hc] at h1;cases h1
   |some c=>
    rw[hc] at h1;obtain⟨t,y,u,rfl,hu,hr,hs,hg⟩:=ha.get _ hc;simp only[Option.map_some,Option.some.injEq,TV.mir,Yq4] at h1;subst h1;rw[Nat.sub_zero] at hu
    have hu':us.getD i undef=u:=by
     rw[Array.getD_eq_getD_getElem?,←Array.getElem?_toList,hu];rfl
    show Yd _ _ _ _ _ _;rw[show(Act.mk us []).tmps=us from rfl,hu'];refine⟨?_,hs,hg⟩;have:=Yc.mono (Lf:=Yi w (Mt Z C (Yh (PT.mks (shs tys) x)).root noB) C.L (Yh (PT.mks (shs tys) x)).root) (tv:=.cl .sh t y) hr (M':=Mt Z C (Yh (PT.mks (shs tys) x)).root noB) (fun b h=>(hM b h).elim);exact this
 refine(hC.calls Z C us hlen rfl (fun i hi=>if_neg (by omega)) (fun i hi=>if_pos hi) I).mono fun e w' he=>?_
 obtain⟨v,rfl,C',G,ρ,Fr,hS,_,_,hres,_⟩:=he
 have hv:v=.bool b:=by
  obtain⟨h1,h2,h3⟩:Yc _ _ _ (TV.cl o .bool b) (.reg v.cells.toList 0) Fr∧v.cells.size=1∧((TV.cl o .bool b).isAgg=true↔∃ cs,v=.agg cs):=hres
  have hna:¬ ∃ cs,v=.agg cs:=fun e=>by have:=h3.2 e;cases this
  have h4:v.cells.toList[0+0]? = some (.bool b):=h1;rw[Yb6 hna] at h4
  simpa using h4
 subst hv;exact⟨rfl,fun i hi=>hS.old i hi (fun h=>h),hS.os,hS.output,hS.sz⟩
theorem Yme (bk:DataW H→Nat):∀ a b:List (DataW H),Yca bk (a++b)=Yca bk a+Yca bk b
 |[],b=>by simp[Yca]
 |x::a,b=>by simp only[List.cons_append,Yca,Yme bk a b];omega
theorem Ym5 {may:MemPlace→Prop} (h:∀ i,i<w.heap.size→w'.heap[i]? = w.heap[i]?) (h1:w'.os=w.os) (h2:w'.output=w.output):w.keptBut w' may:=by
 have hr:=World.keptBut_refl w may;refine⟨h1,h2,fun i hi=>?_⟩;rw[h i hi];exact hr.2.2 i hi
theorem Ytb (hb:Yag P tb) (hc:Yc5 P tb tb=true) {bk:DataW H→Nat} (hf:Yu5 bk) {f:FuncId} {fn:Func} {tys:List Ty} (hty:Yqb tb fn.params.toList tys=true)
  {ms:List Md} {F:PT.Els (shs tys)→Option Bool} {o:Ow} (hok:Yb2 P f (Ybk ms (shs tys) F (fun b=>⟨[.cl o .bool b],[]⟩))) {N:Nat} {s:ChangeSpec} (hvars:s.vars=[]) {W:World} {base:Nat} {args:Array Value} {ds gs:List (DataW H)} {before:List MemPlace}
  (hval:∀ (j:Nat) t v,fn.params[j]? = some t→args[j]? = some v→Value.okWide P W .any base t v) (hW:DataW.Whole enc P fn.params.toList s.vars false W args.toList ds gs before)
  (hk:Yca bk (ds++gs)≤N) (law:∀ x,Yop tys x→Ypb tys x≤N→F x=some true)
  (hs:s.fn H (ds++gs)={results:=[.lit (.bool true)],args:=ds }) {tr:TypeId} (hres:fn.resultTypes=#[tr]) (hbool:P.underlying tr=some .bool) :
  Calls P f args W fun e W'=>∃ v,e=.returned v∧s.post enc P fn false true false false W args v W':=by
 have hW0:=hW;obtain⟨p,q,hA,hV,rfl,hfz,hnd⟩:=hW
 obtain⟨rfl,rfl⟩:gs=[]∧q=[]:=by rw[hvars] at hV;exact trodVars_none hV
 obtain⟨x,h1,h2,h3⟩:=Ykj hb hc hf fn.params.toList tys args.toList ds p hty (fun j t v e1 e2=>hval j t v (by simpa using e1) (by simpa using e2)) hA
 rw[List.append_nil] at hk;have hF:=law x h2 (Nat.le_trans h3 hk)
 obtain⟨out,e1,hC⟩:=hok (PT.mks (shs tys) x) Out some ⟨[.cl o .bool true],[]⟩ (by simp only[Ybk,Ys2,hF];rfl)
 cases e1;refine(Yqp hC h1).mono fun e W' he=>?_;obtain⟨rfl,hold,hos,hout,hsz⟩:=he
 refine⟨_,rfl,ds,[],p++[],[],p,[],hW0,?_,?_,?_,Ym5 hold hos hout,fun h=>by cases h⟩
 ·rw[hs,hres]
  exact trodAll_mk1 ⟨1,by simp[DataW.trod,hbool,Value.resultList,Value.cells]⟩
 ·rw[hs]
  refine Ygh hb hc hold fn.params.toList tys args.toList ds p hty hA (fun y hy=>?_)
  have:=hW0.lt y (by simpa using hy)
  simpa using this
 ·rw[hvars,hs];rfl
end Mf
namespace Mf
open Go
theorem Ykc {σ ρ:Type} {f:σ→Option (σ⊕ρ)}:∀ {n:Nat} {s:σ} {r:ρ},iter f n s=some r→iter f (n+1) s=some r
 |0,s,r,h=>by cases h
 |n+1,s,r,h=>by
  rw[iter] at h ⊢
  cases hf:f s with
  |none=>rw[hf] at h;cases h
  |some o=>
   rw[hf] at h
   cases o with
   |inl s'=>exact Ykc (n:=n) h
   |inr r'=>exact h
theorem Ypx {σ ρ:Type} {f:σ→Option (σ⊕ρ)} {n m:Nat} {s:σ} {r:ρ} (h:iter f n s=some r) (hnm:n≤m):iter f m s=some r:=by
 induction hnm with
 |refl=>exact h
 |step _ ih=>exact Ykc ih
theorem Yjm {σ ρ:Type} {f:σ→Option (σ⊕ρ)} {s:σ} {r:ρ} {n:Nat} (h:iter f n s=some r):Y9 f s=some r:=by
 unfold Y9;have hh:∃ r n,iter f n s=some r:=⟨r,n,h⟩;rw[dif_pos hh];obtain⟨m,hm⟩:=hh.choose_spec;have h1:=Ypx h (Nat.le_max_left n m);have h2:=Ypx hm (Nat.le_max_right n m);rw[h1] at h2;exact h2.symm
theorem Y5 {σ ρ:Type} {f:σ→Option (σ⊕ρ)} {s:σ} {r:ρ} (h:f s=some (.inr r)):Y9 f s=some r:=
 Yjm (n:=1) (by rw[iter,h];rfl)
theorem Yaq {σ ρ:Type} {f:σ→Option (σ⊕ρ)} {s s':σ} (h:f s=some (.inl s')):Y9 f s=Y9 f s':=by
 by_cases hh:∃ r n,iter f n s'=some r
 ·obtain⟨r,n,hn⟩:=hh
  rw[Yjm hn]
  exact Yjm (n:=n+1) (by rw[iter,h];exact hn)
 ·have h1:¬ ∃ r n,iter f n s=some r:=by
   rintro⟨r,n,hn⟩
   cases n with
   |zero=>cases hn
   |succ n=>rw[iter,h] at hn;exact hh ⟨r,n,hn⟩
  unfold Y9;rw[dif_neg hh,dif_neg h1]
theorem Ytg {σ ρ:Type} {f:σ→Option (σ⊕ρ)} (S:Nat→σ) {n:Nat} {r:ρ} (hstep:∀ i,i<n→f (S i)=some (.inl (S (i+1)))) (hend:f (S n)=some (.inr r)) :
  ∀ (k i:Nat),i+k=n→Y9 f (S i)=some r
 |0,i,h=>by
  have:i=n:=by omega
  subst this
  exact Y5 hend
 |k+1,i,h=>by
  rw[Yaq (hstep i (by omega))]
  exact Ytg S hstep hend k (i+1) (by omega)
theorem Yq5 {x:Int} (h1 : -9223372036854775808≤x) (h2:x≤9223372036854775807):w64 x=x:=by
 simp[w64,IntKind.wrap,IntKind.bits,IntKind.signed];omega
theorem Yu7 {i:Int} {n:Nat} (h1:0≤i) (h2:i<n):inB i n=true:=by
 simp[inB,h1,h2]
theorem Yxm {i n:Nat} (h:i<n):decide ((i:Int)<(n:Int))=true:=by simp;omega
theorem Yxe {i n:Nat} (h:n≤i):decide ((i:Int)<(n:Int))=false:=by simp;omega
theorem Yvo {i:Nat} (h:i<4294967296):w64 ((i:Int)+1)=((i+1:Nat):Int):=by rw[Yq5 (by omega) (by omega)];rfl
end Mf
namespace Mf
open Go
theorem Ytf {σ ρ:Type} {f:σ→Option (σ⊕ρ)} (I:σ→Prop) (m:σ→Nat) (G:σ→ρ)
  (h:∀ s,I s→(∃ s',f s=some (.inl s')∧I s'∧m s'<m s∧G s'=G s)∨f s=some (.inr (G s))):∀ (n:Nat) (s:σ),m s≤n→I s→Y9 f s=some (G s)
 |0,s,hm,hi=>by
  rcases h s hi with ⟨s',_,_,h3,_⟩ | h1
  ·omega
  ·exact Y5 h1
 |n+1,s,hm,hi=>by
  rcases h s hi with ⟨s',h1,h2,h3,h4⟩ | h1
  ·rw[Yaq h1,Ytf I m G h n s' (by omega) h2,h4]
  ·exact Y5 h1
def Yba {α τ ρ:Type} (step:Nat→α→τ→τ⊕ρ) (e:τ→ρ):Nat→List α→τ→ρ
 |_,[],t=>e t
 |i,x::l,t=>sel (step i x t) (fun t'=>Yba step e (i+1) l t') (fun r=>r)
theorem Yg3 {α σ ρ τ:Type} {f:σ→Option (σ⊕ρ)} (l:List α) (mk:Nat→τ→σ) (step:Nat→α→τ→τ⊕ρ) (e:τ→ρ)
  (hs:∀ (i:Nat) (h:i<l.length) (t:τ),f (mk i t)=some (sel (step i l[i] t) (fun t'=>.inl (mk (i+1) t')) (fun r=>.inr r)))
  (he:∀ t,f (mk l.length t)=some (.inr (e t))):∀ (k i:Nat) (t:τ),i+k=l.length→Y9 f (mk i t)=some (Yba step e i (l.drop i) t)
 |0,i,t,hi=>by
  have:i=l.length:=by omega
  subst this
  rw[Y5 (he t)];simp[Yba]
 |k+1,i,t,hi=>by
  have hlt:i<l.length:=by omega
  rw[List.drop_eq_getElem_cons hlt,Yba];have:=hs i hlt t
  cases hst:step i l[i] t with
  |inl t'=>rw[hst] at this;rw[Yaq this,Yg3 l mk step e hs he k (i+1) t' (by omega)];rfl
  |inr r=>rw[hst] at this;rw[Y5 this];rfl
theorem Yfj {α σ ρ τ:Type} {f:σ→Option (σ⊕ρ)} (l:List α) (mk:Nat→τ→σ) (step:Nat→α→τ→τ⊕ρ) (e:τ→ρ)
  (hs:∀ (i:Nat) (h:i<l.length) (t:τ),f (mk i t)=some (sel (step i l[i] t) (fun t'=>.inl (mk (i+1) t')) (fun r=>.inr r)))
  (he:∀ t,f (mk l.length t)=some (.inr (e t))) (t:τ) {s:σ} (hs0:s=mk 0 t):Y9 f s=some (Yba step e 0 l t):=by
 rw[hs0,Yg3 l mk step e hs he l.length 0 t (by omega)];rfl
theorem Yi8 {α σ ρ τ:Type} {f:σ→Option (σ⊕ρ)} (l:List α) (mk:Nat→τ→σ) (step:Nat→α→τ→τ⊕ρ) (e:τ→ρ) (I:Nat→τ→Prop)
  (hs:∀ (i:Nat) (h:i<l.length) (t:τ),I i t→f (mk i t)=some (sel (step i l[i] t) (fun t'=>.inl (mk (i+1) t')) (fun r=>.inr r)))
  (hI:∀ (i:Nat) (h:i<l.length) (t t':τ),I i t→step i l[i] t=.inl t'→I (i+1) t')
  (he:∀ t,I l.length t→f (mk l.length t)=some (.inr (e t))):∀ (k i:Nat) (t:τ),i+k=l.length→I i t→Y9 f (mk i t)=some (Yba step e i (l.drop i) t)
 |0,i,t,hi,h0=>by
  have:i=l.length:=by omega
  subst this
  rw[Y5 (he t h0)];simp[Yba]
 |k+1,i,t,hi,h0=>by
  have hlt:i<l.length:=by omega
  rw[List.drop_eq_getElem_cons hlt,Yba];have:=hs i hlt t h0
  cases hst:step i l[i] t with
  |inl t'=>rw[hst] at this;rw[Yaq this,Yi8 l mk step e I hs hI he k (i+1) t' (by omega) (hI i hlt t t' h0 hst)];rfl
  |inr r=>rw[hst] at this;rw[Y5 this];rfl
theorem Ym3 {α σ ρ τ:Type} {f:σ→Option (σ⊕ρ)} (l:List α) (mk:Nat→τ→σ) (step:Nat→α→τ→τ⊕ρ) (e:τ→ρ) (I:Nat→τ→Prop)
  (hs:∀ (i:Nat) (h:i<l.length) (t:τ),I i t→f (mk i t)=some (sel (step i l[i] t) (fun t'=>.inl (mk (i+1) t')) (fun r=>.inr r)))
  (hI:∀ (i:Nat) (h:i<l.length) (t t':τ),I i t→step i l[i] t=.inl t'→I (i+1) t')
  (he:∀ t,I l.length t→f (mk l.length t)=some (.inr (e t))) (t:τ) (h0:I 0 t) {s:σ} (hs0:s=mk 0 t):Y9 f s=some (Yba step e 0 l t):=by
 rw[hs0,Yi8 l mk step e I hs hI he l.length 0 t (by omega) h0];rfl
theorem Ykk {α ρ:Type} (p:α→Bool) (r e:ρ):∀ (l:List α) (i:Nat),Yba (τ:=Unit) (fun _ x _=>cond (p x) (.inr r) (.inl ())) (fun _=>e) i l ()=cond (l.any p) r e
 |[],i=>rfl
 |x::l,i=>by
  simp only[Yba,List.any_cons];cases h:p x
  ·simp only[cond_false,sel,Bool.false_or];exact Ykk p r e l (i+1)
  ·rfl
def Yeg {α:Type} (c:α→Int):List α→Int
 |[]=>0
 |x::l=>cond (c x != 0) (c x) (Yeg c l)
theorem Ynj {α ρ:Type} (c:α→Int) (r:Int→ρ) (e:ρ) (he:e=r 0):∀ (l:List α) (i:Nat),Yba (τ:=Unit) (fun _ x _=>cond (c x != 0) (.inr (r (c x))) (.inl ())) (fun _=>e) i l ()=r (Yeg c l)
 |[],i=>he
 |x::l,i=>by
  simp only[Yba,Yeg];cases h:(c x != 0)
  ·simp only[cond_false,sel];exact Ynj c r e he l (i+1)
  ·rfl
theorem Yqy {α β ρ:Type} (g:α→β) (e:List β→ρ):∀ (l:List α) (i:Nat) (t:List β),Yba (fun _ x t=>.inl (t++[g x])) e i l t=e (t++l.map g)
 |[],i,t=>by simp[Yba]
 |x::l,i,t=>by simp only[Yba,sel,Yqy g e l (i+1),List.map_cons,List.append_assoc,List.singleton_append]
theorem Yfm {α τ ρ:Type} (g:τ→α→τ) (e:τ→ρ):∀ (l:List α) (i:Nat) (t:τ),Yba (fun _ x t=>.inl (g t x)) e i l t=e (l.foldl g t)
 |[],i,t=>rfl
 |x::l,i,t=>by simp only[Yba,sel,Yfm g e l (i+1),List.foldl_cons]
theorem Ywa {α β γ:Type} (b:Bool) (x y:α⊕β) (f:α→γ) (g:β→γ):sel (cond b x y) f g=cond b (sel x f g) (sel y f g):=by cases b<;>rfl
theorem Yvh {α:Type} (b:Bool) (x y:α):some (cond b x y)=cond b (some x) (some y):=by cases b<;>rfl
theorem Yvd {α β:Type} (b:Bool) (x y:Option α) (f:α→Option β):(cond b x y).bind f=cond b (x.bind f) (y.bind f):=by cases b<;>rfl
theorem getD_lt {α:Type} {l:List α} {i:Nat} (d:α) (h:i<l.length):l.getD i d=l[i]:=by simp[List.getD,h]
theorem toNat_cast (i:Nat):((i:Int)).toNat=i:=Int.toNat_natCast i
theorem Yxb {i n:Nat} (h:i<n):inB (i:Int) n=true:=Yu7 (by omega) (by omega)
theorem Yw4 {α:Type} (x y:α):cond true x y=x:=rfl
theorem Ywx {α:Type} (x y:α):cond false x y=y:=rfl
theorem Yvm {α:Type} (b:Bool) (x:α):cond b x x=x:=by cases b<;>rfl
theorem Yw2 {α β γ:Type} (a:α) (f:α→γ) (g:β→γ):sel (.inl a) f g=f a:=rfl
theorem Ywu {α β γ:Type} (a:β) (f:α→γ) (g:β→γ):sel (.inr a) f g=g a:=rfl
theorem Yus {α:Type} (l:List α) {f:Int→Option (Int⊕(Int⊕Unit))} (c:α→Int)
  (hs:∀ (i:Nat) (h:i<l.length),f (i:Int)=cond (c l[i] != 0) (some (.inr (.inl (c l[i])))) (some (.inl ((i+1:Nat):Int)))) (he:f (l.length:Int)=some (.inr (.inr ()))) :
  Y9 f 0=some (cond (Yeg c l != 0) (.inl (Yeg c l)) (.inr ())):=by
 have h:=Yfj (τ:=Unit) l (fun i _=>(i:Int)) (fun _ x _=>cond (c x != 0) (.inr (.inl (c x))) (.inl ())) (fun _=>(.inr ():Int⊕Unit)) (fun i hi t=>by rw[hs i hi];cases (c l[i] != 0)<;>rfl) (fun t=>he) () (s:=0) rfl
 rw[h]
 congr 1
 clear h hs he
 have:∀ (l:List α) (i:Nat),Yba (τ:=Unit) (fun _ x _=>cond (c x != 0) (.inr (.inl (c x))) (.inl ())) (fun _=>(.inr ():Int⊕Unit)) i l ()=cond (Yeg c l != 0) (.inl (Yeg c l)) (.inr ()):=by
  intro l
  induction l with
  |nil=>intro i;rfl
  |cons x l ih=>
   intro i;simp only[Yba,Yeg];cases h:(c x != 0)
   ·simp only[cond_false,sel];exact ih (i+1)
   ·simp only[cond_true,sel,h]
 exact this l 0
theorem Ywl {α ρ:Type} (l:List α) {f:Int→Option (Int⊕(ρ⊕Unit))} (p:α→Bool) (r:ρ)
  (hs:∀ (i:Nat) (h:i<l.length),f (i:Int)=cond (p l[i]) (some (.inr (.inl r))) (some (.inl ((i+1:Nat):Int)))) (he:f (l.length:Int)=some (.inr (.inr ()))) :
  Y9 f 0=some (cond (l.any p) (.inl r) (.inr ())):=by
 have h:=Yfj (τ:=Unit) l (fun i _=>(i:Int)) (fun _ x _=>cond (p x) (.inr (.inl r)) (.inl ())) (fun _=>(.inr ():ρ⊕Unit)) (fun i hi t=>by rw[hs i hi];cases (p l[i])<;>rfl) (fun t=>he) () (s:=0) rfl
 rw[h,Ykk]
def Ylg {α:Type} (p:α→Bool):Nat→List α→Option Nat
 |_,[]=>none
 |i,x::l=>cond (p x) (some i) (Ylg p (i+1) l)
theorem Yvx {α:Type} (l:List α) {f:Int→Option (Int⊕(Int⊕Unit))} (p:α→Bool)
  (hs:∀ (i:Nat) (h:i<l.length),f (i:Int)=cond (p l[i]) (some (.inr (.inl (i:Int)))) (some (.inl ((i+1:Nat):Int)))) (he:f (l.length:Int)=some (.inr (.inr ()))) (n:Nat) (hn:n≤l.length) :
  Y9 f (n:Int)=some (match Ylg p n (l.drop n) with | some j=>.inl (j:Int) | none=>.inr ()):=by
 have h:=Yg3 (τ:=Unit) l (fun i _=>(i:Int)) (fun i x _=>cond (p x) (.inr (.inl (i:Int))) (.inl ())) (fun _=>(.inr ():Int⊕Unit)) (fun i hi t=>by rw[hs i hi];cases (p l[i])<;>rfl) (fun t=>he) (l.length-n) n () (by omega)
 rw[h]
 congr 1
 clear h hs he
 have:∀ (l:List α) (i:Nat),Yba (τ:=Unit) (fun i x _=>cond (p x) (.inr (.inl (i:Int))) (.inl ())) (fun _=>(.inr ():Int⊕Unit)) i l ()=(match Ylg p i l with | some j=>.inl (j:Int) | none=>.inr ()):=by
  intro l
  induction l with
  |nil=>intro i;rfl
  |cons x l ih=>
   intro i;simp only[Yba,Ylg];cases h:(p x)
   ·simp only[cond_false,sel];exact ih (i+1)
   ·simp only[cond_true,sel]
 exact this _ _
theorem Yp7 {α:Type} {p:α→Bool}:∀ {l:List α} {i:Nat},Ylg p i l=none↔l.any p=false
 |[],i=>by simp[Ylg]
 |x::l,i=>by
  simp only[Ylg,List.any_cons];cases p x
  ·simp only[cond_false,Bool.false_or];exact Yp7
  ·simp
theorem Yp3 {α:Type} {p:α→Bool}:∀ {l:List α} {i j:Nat},Ylg p i l=some j→i≤j∧∃ h:j-i<l.length,p l[j-i]=true∧∀ k (hk:k<j-i),p (l[k]'(by omega))=false
 |[],i,j,h=>by cases h
 |x::l,i,j,h=>by
  simp only[Ylg] at h
  cases hp:p x with
  |true=>
   rw[hp] at h;cases h
   refine⟨Nat.le_refl _,by simp,by simpa using hp,fun k hk=>by omega⟩
  |false=>
   rw[hp] at h;obtain⟨h1,h2,h3,h4⟩:=Yp3 h
   have e:j-i=(j-(i+1))+1:=by omega
   refine⟨by omega,by simp only[List.length_cons];omega,?_,?_⟩
   ·simp only[e,List.getElem_cons_succ];exact h3
   ·intro k hk
    cases k with
    |zero=>simpa using hp
    |succ k=>simp only[List.getElem_cons_succ];exact h4 k (by omega)
theorem Yve {α τ ρ:Type} (l:List α) {f:Int×τ→Option ((Int×τ)⊕ρ)} (g:τ→α→τ) (e:τ→ρ)
  (hs:∀ (i:Nat) (h:i<l.length) (t:τ),f ((i:Int),t)=some (.inl (((i+1:Nat):Int),g t l[i]))) (he:∀ t,f ((l.length:Int),t)=some (.inr (e t))) (t:τ) :
  Y9 f (0,t)=some (e (l.foldl g t)):=by
 have h:=Yfj (τ:=τ) l (fun i t=>((i:Int),t)) (fun _ x t=>.inl (g t x)) e (fun i hi t=>by rw[hs i hi];rfl) he t (s:=(0,t)) rfl
 rw[h,Yfm]
theorem Yib {α τ ρ:Type} (l:List α) {f:Int×τ→Option ((Int×τ)⊕ρ)} (g:τ→α→τ) (e:τ→ρ) (I:Nat→τ→Prop)
  (hs:∀ (i:Nat) (h:i<l.length) (t:τ),I i t→f ((i:Int),t)=some (.inl (((i+1:Nat):Int),g t l[i]))∧I (i+1) (g t l[i])) (he:∀ t,I l.length t→f ((l.length:Int),t)=some (.inr (e t))) (t:τ) (h0:I 0 t) :
  Y9 f (0,t)=some (e (l.foldl g t)):=by
 have h:=Ym3 (τ:=τ) l (fun i t=>((i:Int),t)) (fun _ x t=>.inl (g t x)) e I (fun i hi t h=>by rw[(hs i hi t h).1];rfl) (fun i hi t t' h e=>by cases e;exact(hs i hi t h).2) he t h0 (s:=(0,t)) rfl
 rw[h,Yfm]
theorem Yvq {α β ρ:Type} (l:List α) {f:Int×List β→Option ((Int×List β)⊕ρ)} (g:α→β) (e:List β→ρ) (n:Nat)
  (hs:∀ (i:Nat) (h:i<l.length) (t:List β),t.length=n+i→f ((i:Int),t)=some (.inl (((i+1:Nat):Int),t++[g l[i]]))) (he:∀ t,f ((l.length:Int),t)=some (.inr (e t))) (t:List β) (ht:t.length=n) :
  Y9 f (0,t)=some (e (t++l.map g)):=by
 rw[Yib l (fun t x=>t++[g x]) e (fun i t=>t.length=n+i) (fun i hi t h=>⟨hs i hi t h,by simp[h];omega⟩) (fun t _=>he t) t (by omega)]
 congr 2
 induction l generalizing t with
 |nil=>simp
 |cons x l ih=>
  have:∀ (l:List α) (t:List β),l.foldl (fun t x=>t++[g x]) t=t++l.map g:=by
   intro l;induction l with
   |nil=>intro t;simp
   |cons y l ih=>intro t;simp[ih]
  exact this _ _
theorem foldl_map {α β:Type} (g:α→β):∀ (l:List α) (t:List β),l.foldl (fun t x=>t++[g x]) t=t++l.map g
 |[],t=>by simp
 |x::l,t=>by simp[foldl_map g l]
theorem Yvg {α β ρ:Type} (l:List α) {f:Int×List β→Option ((Int×List β)⊕ρ)} (g:α→β) (e:List β→ρ) (n:Nat)
  (hs:∀ (i:Nat) (h:i<l.length) (t:List β),t.length=n+i→f ((i:Int),t)=some (.inl (((i+1:Nat):Int),t++[g l[i]]))) (he:∀ t,t.length=n+l.length→f ((l.length:Int),t)=some (.inr (e t))) (t:List β) (ht:t.length=n) :
  Y9 f (0,t)=some (e (t++l.map g)):=by
 rw[Yib l (fun t x=>t++[g x]) e (fun i t=>t.length=n+i) (fun i hi t h=>⟨hs i hi t h,by simp[h];omega⟩) (fun t h=>he t h) t (by omega),foldl_map]
end Mf
namespace Mf
open Go
set_option linter.unusedVariables false
theorem Yww {α β:Type} {x:Option α} {f:α→Option β} (h:∃ r,x=some r) (hf:∀ r,∃ q,f r=some q):∃ q,x.bind f=some q:=by
 obtain⟨r,rfl⟩:=h;exact hf r
theorem Yw3 {α:Type} {b:Bool} {x y:Option α} (hx:∃ q,x=some q) (hy:∃ q,y=some q):∃ q,cond b x y=some q:=by
 cases b<;>assumption
theorem Yv2 {α β:Type} {b:Bool} {x y:Option (α⊕β)} {P:α→Prop} (hx:(∃ q,x=some (.inl q)∧P q)∨∃ q,x=some (.inr q)) (hy:(∃ q,y=some (.inl q)∧P q)∨∃ q,y=some (.inr q)) :
  (∃ q,cond b x y=some (.inl q)∧P q)∨∃ q,cond b x y=some (.inr q):=by
 cases b<;>assumption
theorem Ys9 {σ ρ τ:Type} {f:σ→Option (σ⊕ρ)} (mk:Nat→τ→σ) (n:Nat)
  (h:∀ i k,i<n→(∃ s,f (mk i k)=some (.inl s)∧∃ k',s=mk (i+1) k')∨∃ r,f (mk i k)=some (.inr r)) (he:∀ k,∃ r,f (mk n k)=some (.inr r)) :
  ∀ (m i:Nat) (k:τ),i+m=n→∃ r,Y9 f (mk i k)=some r
 |0,i,k,hi=>by
  have:i=n:=by omega
  subst this;obtain⟨r,hr⟩:=he k
  exact⟨r,Y5 hr⟩
 |m+1,i,k,hi=>by
  rcases h i k (by omega) with ⟨s,hs,k',rfl⟩ | ⟨r,hr⟩
  ·rw[Yaq hs];exact Ys9 mk n h he m (i+1) k' (by omega)
  ·exact⟨r,Y5 hr⟩
theorem Yo5 {α:Type} (a:List α) (B:Int×List α→Option ((Int×List α)⊕List α))
  (hs:∀ (i:Nat) (h:i<a.length) (out:List α),out.length=a.length→B ((i:Int),out)=some (.inl (((i+1:Nat):Int),out.set i a[i])))
  (he:∀ out:List α,out.length=a.length→B ((a.length:Int),out)=some (.inr out)) :
  ∀ (k i:Nat) (out:List α),i+k=a.length→out.length=a.length→(∀ j:Nat,j<i→out[j]? = a[j]?)→Y9 B ((i:Int),out)=some a
 |0,i,out,h1,h2,h3=>by
  have e:out=a:=List.ext_getElem? (fun j=>by
   by_cases hj:j<i
   ·exact h3 j hj
   ·rw[List.getElem?_eq_none (by omega),List.getElem?_eq_none (by omega)])
  have:i=a.length:=by omega
  subst this
  rw[Y5 (he out h2),e]
 |k+1,i,out,h1,h2,h3=>by
  have hi:i<a.length:=by omega
  rw[Yaq (hs i hi out h2)]
  refine Yo5 a B hs he k (i+1) _ (by omega) (by simp[h2]) (fun j hj=>?_)
  by_cases e:j=i
  ·subst e
   rw[List.getElem?_set_self (by omega),List.getElem?_eq_getElem hi]
  ·rw[List.getElem?_set_ne (fun x=>e x.symm)]
   exact h3 j (by omega)
theorem Yvy {α:Type} (a:List α) (B:Int×List α→Option ((Int×List α)⊕List α)) (z:α)
  (hs:∀ (i:Nat) (h:i<a.length) (out:List α),out.length=a.length→B ((i:Int),out)=some (.inl (((i+1:Nat):Int),out.set i a[i])))
  (he:∀ out:List α,out.length=a.length→B ((a.length:Int),out)=some (.inr out)):Y9 B (0,List.replicate (a.length:Int).toNat z)=some a:=by
 have:=Yo5 a B hs he a.length 0 (List.replicate (a.length:Int).toNat z) (by omega) (by simp) (fun j hj=>by omega)
 simpa using this
theorem Ypy {n:Nat} (B:Int→Option (Int⊕(Bool⊕Unit))) (hs:∀ i:Nat,i<n→B (i:Int)=some (.inl ((i+1:Nat):Int))) (he:B (n:Int)=some (.inr (.inr ()))) :
  ∀ (k i:Nat),i+k=n→Y9 B (i:Int)=some (.inr ())
 |0,i,h=>by
  have:i=n:=by omega
  subst this;exact Y5 he
 |k+1,i,h=>by rw[Yaq (hs i (by omega))];exact Ypy B hs he k (i+1) (by omega)
theorem Ywf {n:Nat} (B:Int→Option (Int⊕(Bool⊕Unit))) (hs:∀ i:Nat,i<n→B (i:Int)=some (.inl ((i+1:Nat):Int))) (he:B (n:Int)=some (.inr (.inr ()))):Y9 B 0=some (.inr ()):=Ypy B hs he n 0 (by omega)
def MH {α:Type} (M:α→Int→Option (Int×α)) (H:α→Int→Option Int) (w:Nat) (a:α) (k:Int):Prop:=
 ∃ k' a',k≤k'∧k'≤k+w∧M a k=some (k',a')∧H a' k=some k'
theorem Yjz {α:Type} (w:α→Nat) (N:Int) (MB:Int×Int×List α→Option ((Int×Int×List α)⊕(Int×List α))) (HB:List α→Int×Int→Option ((Int×Int)⊕(Int⊕Int)))
  (he:∀ (k:Int) (a:List α),MB (k,(a.length:Int),a)=some (.inr (k,a))) (heH:∀ (k:Int) (a:List α),HB a (k,(a.length:Int))=some (.inr (.inr k)))
  (hs:∀ (k:Int) (i:Nat) (a:List α) (h:i<a.length),a.length≤2147483648→0≤k→k+w a[i]≤N→w a[i]≤2147483648→
   ∃ k' x',k≤k'∧k'≤k+w a[i]∧MB (k,(i:Int),a)=some (.inl (k',((i+1:Nat):Int),a.set i x'))∧
    ∀ b:List α,b.length=a.length→b[i]? = some x'→HB b (k,(i:Int))=some (.inl (k',((i+1:Nat):Int)))) :
  ∀ (n i:Nat) (k:Int) (a:List α),i+n=a.length→a.length≤2147483648→0≤k→k+((a.drop i).map w).sum≤N→((a.drop i).map w).sum≤2147483648→
   ∃ k' a',k≤k'∧k'≤k+((a.drop i).map w).sum∧a'.length=a.length∧Y9 MB (k,(i:Int),a)=some (k',a')∧(∀ j:Nat,j<i→a'[j]? = a[j]?)∧
    ∀ b:List α,b.length=a.length→(∀ j:Nat,i≤j→b[j]? = a'[j]?)→Y9 (HB b) (k,(i:Int))=some (.inr k')
 |0,i,k,a,h1,hl,h2,h3,h4=>by
  have:i=a.length:=by omega
  subst this
  refine⟨k,a,by omega,by omega,rfl,Y5 (he k a),fun _ _=>rfl,fun b hb _=>?_⟩
  rw[←hb];exact Y5 (heH k b)
 |n+1,i,k,a,h1,hl,h2,h3,h4=>by
  have hi:i<a.length:=by omega
  rw[List.drop_eq_getElem_cons hi,List.map_cons,List.sum_cons] at h3 h4
  obtain⟨k1,x1,e1,e2,e3,e4⟩:=hs k i a hi hl h2 (by omega) (by omega)
  have hd:(a.set i x1).drop (i+1)=a.drop (i+1):=by rw[List.drop_set_of_lt (by omega)]
  obtain⟨k',a',f1,f2,f3,f4,f5,f6⟩:=Yjz w N MB HB he heH hs n (i+1) k1 (a.set i x1) (by simp;omega) (by simpa using hl) (by omega) (by rw[hd];omega) (by rw[hd];omega)
  rw[hd] at f2;rw[List.length_set] at f3
  refine⟨k',a',by omega,?_,f3,by rw[Yaq e3];exact f4,fun j hj=>?_,fun b hb h=>?_⟩
  ·rw[List.drop_eq_getElem_cons hi,List.map_cons,List.sum_cons];omega
  ·rw[f5 j (by omega),List.getElem?_set_ne (by omega)]
  ·have hx:b[i]? = some x1:=by rw[h i (Nat.le_refl _),f5 i (by omega),List.getElem?_set_self hi]
   rw[Yaq (e4 b hb hx)]
   exact f6 b (by rw[List.length_set];exact hb) (fun j hj=>h j (by omega))
theorem Yuv {α:Type} (w:α→Nat) (N:Int) (MB:Int×Int×List α→Option ((Int×Int×List α)⊕(Int×List α))) (HB:List α→Int×Int→Option ((Int×Int)⊕(Int⊕Int)))
  (he:∀ (k:Int) (a:List α),MB (k,(a.length:Int),a)=some (.inr (k,a))) (heH:∀ (k:Int) (a:List α),HB a (k,(a.length:Int))=some (.inr (.inr k)))
  (hs:∀ (k:Int) (i:Nat) (a:List α) (h:i<a.length),a.length≤2147483648→0≤k→k+w a[i]≤N→w a[i]≤2147483648→
   ∃ k' x',k≤k'∧k'≤k+w a[i]∧MB (k,(i:Int),a)=some (.inl (k',((i+1:Nat):Int),a.set i x'))∧
    ∀ b:List α,b.length=a.length→b[i]? = some x'→HB b (k,(i:Int))=some (.inl (k',((i+1:Nat):Int))))
  (k:Int) (a:List α) (hl:a.length≤2147483648) (h0:0≤k) (hw:k+(a.map w).sum≤N) (hz:(a.map w).sum≤2147483648) :
   ∃ k' a',k≤k'∧k'≤k+(a.map w).sum∧Y9 MB (k,0,a)=some (k',a')∧Y9 (HB a') (k,0)=some (.inr k'):=by
 obtain⟨k',a',e1,e2,e3,e4,_,e6⟩:=Yjz w N MB HB he heH hs a.length 0 k a (by omega) hl h0 (by simpa using hw) (by simpa using hz)
 exact⟨k',a',e1,by simpa using e2,e4,e6 a' e3 fun _ _=>rfl⟩
theorem Yli {α:Type} (w:α→Nat) (h:∀ x,1≤w x):∀ xs:List α,xs.length≤(xs.map w).sum
 |[]=>Nat.le_refl _
 |x::xs=>by have:=Yli w h xs;have:=h x;simp only[List.map_cons,List.sum_cons,List.length_cons];omega
theorem Ys6 {α:Type} (w:α→Nat):∀ (xs:List α) (i:Nat) (h:i<xs.length),w xs[i]≤(xs.map w).sum
 |[],i,h=>absurd h (Nat.not_lt_zero _)
 |x::xs,0,h=>by simp
 |x::xs,i+1,h=>by
  have:=Ys6 w xs i (by simpa using h)
  simp only[List.getElem_cons_succ,List.map_cons,List.sum_cons];omega
theorem Ywv {α:Type} {b:List α} {i:Nat} {x:α} (d:α) (h:b[i]? = some x):b.getD i d=x:=by simp[List.getD,h]
theorem Yr0 {α:Type} {l:List α} {i:Nat} (x:α) (h:i<l.length):(l.set i x).getD i x=x:=by simp[List.getD,h]
theorem Ywb {α:Type} {l:List α} {i:Nat} (x d:α) (h:i<l.length):(l.set i x).getD i d=x:=by simp[List.getD,h]
theorem Yxt {x:Int} (h1:0≤x) (h2:x≤9223372036854775807):w64 x=x:=Yq5 (by omega) h2
theorem Yvt {α β γ:Type} {x:Option α} {f:α→Option (β⊕γ)} {P:β→Prop} (h:∃ r,x=some r) (hf:∀ r,(∃ q,f r=some (.inl q)∧P q)∨∃ q,f r=some (.inr q)) :
  (∃ q,x.bind f=some (.inl q)∧P q)∨∃ q,x.bind f=some (.inr q):=by
 obtain⟨r,rfl⟩:=h;exact hf r
def MK {α:Type} (M:α→Int→Option (Int×α)) (w:Nat) (a:α) (k:Int):Prop:=∃ k' a',k≤k'∧k'≤k+w∧M a k=some (k',a')
theorem MH.mk {α:Type} {M:α→Int→Option (Int×α)} {H:α→Int→Option Int} {w:Nat} {a:α} {k:Int} (h:MH M H w a k):MK M w a k:=by
 obtain⟨k',a',h1,h2,h3,_⟩:=h;exact⟨k',a',h1,h2,h3⟩
theorem Ykx {α:Type} (w:α→Nat) (N:Int) (MB:Int×Int×List α→Option ((Int×Int×List α)⊕(Int×List α)))
  (he:∀ (k:Int) (a:List α),MB (k,(a.length:Int),a)=some (.inr (k,a)))
  (hs:∀ (k:Int) (i:Nat) (a:List α) (h:i<a.length),a.length≤2147483648→0≤k→k+w a[i]≤N→w a[i]≤2147483648→
   ∃ k' x',k≤k'∧k'≤k+w a[i]∧MB (k,(i:Int),a)=some (.inl (k',((i+1:Nat):Int),a.set i x'))) :
  ∀ (n i:Nat) (k:Int) (a:List α),i+n=a.length→a.length≤2147483648→0≤k→k+((a.drop i).map w).sum≤N→((a.drop i).map w).sum≤2147483648→
   ∃ k' a',k≤k'∧k'≤k+((a.drop i).map w).sum∧Y9 MB (k,(i:Int),a)=some (k',a')
 |0,i,k,a,h1,hl,h2,h3,h4=>by
  have:i=a.length:=by omega
  subst this
  exact⟨k,a,by omega,by omega,Y5 (he k a)⟩
 |n+1,i,k,a,h1,hl,h2,h3,h4=>by
  have hi:i<a.length:=by omega
  rw[List.drop_eq_getElem_cons hi,List.map_cons,List.sum_cons] at h3 h4
  obtain⟨k1,x1,e1,e2,e3⟩:=hs k i a hi hl h2 (by omega) (by omega)
  have hd:(a.set i x1).drop (i+1)=a.drop (i+1):=by rw[List.drop_set_of_lt (by omega)]
  obtain⟨k',a',f1,f2,f4⟩:=Ykx w N MB he hs n (i+1) k1 (a.set i x1) (by simp;omega) (by simpa using hl) (by omega) (by rw[hd];omega) (by rw[hd];omega)
  rw[hd] at f2
  refine⟨k',a',by omega,?_,by rw[Yaq e3];exact f4⟩
  rw[List.drop_eq_getElem_cons hi,List.map_cons,List.sum_cons];omega
theorem Yva {α:Type} (w:α→Nat) (N:Int) (MB:Int×Int×List α→Option ((Int×Int×List α)⊕(Int×List α)))
  (he:∀ (k:Int) (a:List α),MB (k,(a.length:Int),a)=some (.inr (k,a)))
  (hs:∀ (k:Int) (i:Nat) (a:List α) (h:i<a.length),a.length≤2147483648→0≤k→k+w a[i]≤N→w a[i]≤2147483648→
   ∃ k' x',k≤k'∧k'≤k+w a[i]∧MB (k,(i:Int),a)=some (.inl (k',((i+1:Nat):Int),a.set i x')))
  (k:Int) (a:List α) (hl:a.length≤2147483648) (h0:0≤k) (hw:k+(a.map w).sum≤N) (hz:(a.map w).sum≤2147483648):∃ k' a',k≤k'∧k'≤k+(a.map w).sum∧Y9 MB (k,0,a)=some (k',a'):=by
 obtain⟨k',a',e1,e2,e3⟩:=Ykx w N MB he hs a.length 0 k a (by omega) hl h0 (by simpa using hw) (by simpa using hz)
 exact⟨k',a',e1,by simpa using e2,e3⟩
theorem Ywn {α:Type} (x:α):∃ q,some x=some q:=⟨x,rfl⟩
theorem Yw9 {σ τ ρ:Type} (mk:τ→σ) (x:τ):(∃ s,some (Sum.inl (mk x):σ⊕ρ)=some (.inl s)∧∃ k',s=mk k')∨∃ r,some (Sum.inl (mk x):σ⊕ρ)=some (.inr r):=.inl ⟨_,rfl,_,rfl⟩
theorem Yxa {σ ρ:Type} {P:σ→Prop} (r:ρ):(∃ s,some (Sum.inr r:σ⊕ρ)=some (.inl s)∧P s)∨∃ q,some (Sum.inr r:σ⊕ρ)=some (.inr q):=.inr ⟨_,rfl⟩
theorem Yxr {α β:Type} (p:α×β):(p.1,p.2)=p:=rfl
theorem Yug (e:Ty) (xs:List e.El):wt (.sl e) xs=(xs.map (wt e)).sum+1:=rfl
theorem Yo6 (a b:Ty) (x:a.El×b.El):wt (.pair a b) x=wt a x.1+wt b x.2:=rfl
theorem Yw6 (k:IntKind) (x:Int):wt (.int k) x=1:=rfl
theorem Yw0 (x:Bool):wt .bool x=1:=rfl
theorem Yrb (x:List UInt8):wt .str x=x.length+1:=rfl
theorem Ywr (x:Unit):wt .unit x=0:=rfl
theorem Ywq {k:Int} (h:0≤k):decide (k<0)=false:=by simp;omega
theorem Yvn (x:Int):(x != x)=false:=by simp
theorem Yvi (x:List UInt8):(x == x)=true:=by simp
theorem Yvk (x:Bool):(x == x)=true:=by simp
def Bd:(t:Ty)→t.El→Prop
 |.int _,_ | .bool,_ | .unit,_=>True
 |.str,x=>(x:List UInt8).length≤2147483648
 |.pair a b,x=>Bd a x.1∧Bd b x.2
 |.sl e,xs=>(xs:List e.El).length≤2147483648∧∀ x∈(xs:List e.El),Bd e x
 |.arr _ e,xs=>(xs:List e.El).length≤2147483648∧∀ x∈(xs:List e.El),Bd e x
def Yqo:Ty→Bool
 |.int _ | .bool | .str | .sl _=>true
 |.unit | .arr _ _=>false
 |.pair a b=>Yqo a || Yqo b
def okT:Ty→Bool
 |.int _ | .bool | .str | .unit=>true
 |.sl e=>Yqo e&&okT e
 |.arr _ e=>Yqo e&&okT e
 |.pair a b=>okT a&&okT b
theorem Yle:∀ {t:Ty},Yqo t=true→∀ x:t.El,1≤wt t x
 |.int _,_,x | .bool,_,x=>Nat.le_refl 1
 |.str,_,x=>by simp only[Yrb];omega
 |.sl e,_,x=>by simp only[Yug];omega
 |.unit,h,x | .arr _ _,h,x=>by cases h
 |.pair a b,h,x=>by
  simp only[Yqo,Bool.or_eq_true] at h;simp only[Yo6];rcases h with h | h
  ·have:=Yle h x.1;omega
  ·have:=Yle h x.2;omega
theorem Yic {α:Type} (w:α→Nat) {x:α}:∀ {xs:List α},x∈xs→w x≤(xs.map w).sum
 |y::xs,h=>by
  simp only[List.map_cons,List.sum_cons];rcases List.mem_cons.1 h with rfl | h
  ·omega
  ·have:=Yic w h;omega
theorem Yph:∀ {t:Ty},okT t=true→∀ {x:t.El},wt t x≤2147483648→Bd t x
 |.int _,_,x,_ | .bool,_,x,_ | .unit,_,x,_=>trivial
 |.str,_,x,h=>by rw[Yrb] at h;show x.length≤_;omega
 |.pair a b,ht,x,h=>by
  simp only[okT,Bool.and_eq_true] at ht;simp only[Yo6] at h
  exact⟨Yph ht.1 (by omega),Yph ht.2 (by omega)⟩
 |.sl e,ht,xs,h=>by
  simp only[okT,Bool.and_eq_true] at ht;simp only[Yug] at h;have:=Yli (wt e) (Yle ht.1) xs
  exact⟨by omega,fun x hx=>Yph ht.2 (by have:=Yic (wt e) hx;omega)⟩
 |.arr _ e,ht,xs,h=>by
  simp only[okT,Bool.and_eq_true] at ht;have h:(List.map (wt e) xs).sum≤2147483648:=h;have:=Yli (wt e) (Yle ht.1) xs
  exact⟨by omega,fun x hx=>Yph ht.2 (by have:=Yic (wt e) hx;omega)⟩
theorem Ysy {α:Type} (w:α→Nat) (B:Nat):∀ {xs:List α},(∀ x∈xs,w x≤B)→(xs.map w).sum≤xs.length*B
 |[],h=>by simp
 |y::xs,h=>by
  have:=Ysy w B (xs:=xs) fun x hx=>h x (List.mem_cons_of_mem _ hx);have:=h y (List.mem_cons_self ..);simp only[List.map_cons,List.sum_cons,List.length_cons,Nat.add_mul];omega
end Mf
namespace Mf
open Go
def Ymd {α:Type} (xs:List α):Option (List α):=cond (decide (xs.length≤2147483648)) (some xs) none
def Yub (xs:List Int):Option (List Int):=cond (decide (xs.length≤2147483648)) (some (xs.mergeSort fun x y=>decide (x≤y))) none
def Yfg (ps:List (Int×List Int×Unit)) (at_:Int):Nat→Option Nat
 |0=>none
 |k+1=>if (ps.getD k (0,[],())).1=at_ then some k else Yfg ps at_ k
def Yl3 (d:List (List Int)×List (Int×List Int×Unit)×Unit) (at_:Int):Option (List Int):=
 cond (decide (d.2.1.length≤2147483648)) (match Yfg d.2.1 at_ d.2.1.length with
  |some j=>some (d.2.1.getD j (0,[],())).2.1
  |none=>cond (inB at_ d.1.length) (some (d.1.getD at_.toNat [])) none) none
def Yfa (l:List (Int×List Int×Unit)):Option (List (Int×List Int×Unit)):=cond (decide (l.length≤2147483648)&&l.all (fun x=>decide (x.2.1.length≤2147483648))) (some l) none
def toStep (p:Int×List Int×Unit):Bool×Int×List Int×Unit:=(false,p.1,p.2.1,())
def Ygy (l:List (Int×List Int×Unit)):Option (List (Bool×Int×List Int×Unit)):=cond (decide (l.length≤1048576)&&l.all (fun x=>decide (x.2.1.length≤2147483648))) (some (l.map toStep)) none
def Ybr (bs:List (List Int)) (ps:List (Int×List Int×Unit)) (pick:Nat→Bool):Nat→List (List Int)
 |0=>bs
 |k+1=>if pick k=true then(Ybr bs ps pick k).set (ps.getD k (0,[],())).1.toNat (ps.getD k (0,[],())).2.1 else Ybr bs ps pick k
def Yl9 (d:(List (List Int)×List (Int×List Int×Unit)×Unit)):Option (List (List Int)×List (Int×List Int×Unit)×Unit):=cond (decide (d.2.1.length≤1152921504606846976)&&d.2.1.all (fun p=>inB p.1 d.1.length)) (some (Ybr d.1 d.2.1 (fun _=>true) d.2.1.length,[],())) none
def Yl0 (d:(List (List Int)×List (Int×List Int×Unit)×Unit)) (picks:List Bool):Option (List (List Int)×List (Int×List Int×Unit)×Unit):=cond (decide (d.2.1.length≤1152921504606846976)&&d.2.1.all (fun p=>inB p.1 d.1.length)) (some (Ybr d.1 d.2.1 (fun k=>picks.getD k false) d.2.1.length,[],())) none
end Mf
namespace Mf
open Go
set_option linter.unusedVariables false
set_option linter.unusedSimpArgs false
variable {Z:W0} {S:St} {C:Cx} {w w':World} {a:Act}
variable {P:Program} {tb:Tb} {np nt:Nat} {G:Gam}
theorem Yhn {ops:Array Oper} {o:Oper} (g:o.guard=none):Region.wanted o (yielded ops a.tmps)=true:=by
 unfold Region.wanted;rw[g]
theorem Ypf {o:Oper} {u:Value} {K:Act→World→Prop} {Q:Exit→Act→World→Prop} (h:(execOp a.eval o).run P w=.ok (.value u) w) (hK:K (a.put o.dst u) w):o.wp P a w K Q:=by
 unfold Oper.wp;rw[h];exact hK
theorem Yqw {id:Nat} {o1 o2:Oper} {t t' et:TypeId} {e:Ty} {xs:List e.El} {d0 d1 d2:Nat}
  (h1:o1.op=.move (.tmp d0)) (e1:o1.dst=some d1) (g1:o1.guard=none)
  (h2:o2.op=.binOp .eql t (.tmp d1) (.const (.slice none 0 0)) t') (e2:o2.dst=some d2) (g2:o2.guard=none)
  (hu:P.underlying t=some (.slice et)) (I:Inv Z S C a w) (hS:Ybd S) (hd1:d1<Z.nt) (hd2:d2<Z.nt) (hx:lk d0 S.tm=some (.cl .sh (.sl e) xs)) {Q:Exit→Act→World→Prop}
  (hQ:∀ a' (b:Bool),(b=true→xs=[])→Inv Z ((S.ap ⟨[(d1,.cl .sh (.sl e) xs)],[],[]⟩).ap ⟨[(d2,.cl .sh .bool b)],[],[]⟩) C a' w→Q .normal a' w) :
  (Code.region id #[o1,o2] false).wp P Q a w:=by
 have hv:Yd w (Mt Z C S.root noB) C.L S.root (.cl .sh (.sl e) xs) (a.tmps.getD d0 undef):=I.tm d0 _ hx;obtain⟨A,c,hval⟩:=hv.sl
 have hA:A=none→xs=[]:=by
  intro hn;obtain⟨A',c',hc,hle,hne⟩:=(hv.1:Rep _ _ (.sl e) .sh xs _ _);rw[hval] at hc;have:some (Value.slice A xs.length c)=some (.slice A' xs.length c'):=hc;cases this
  by_cases hxs:xs=[]
  ·exact hxs
  ·obtain⟨b,off,h,_⟩:=hne hxs;rw[hn] at h;cases h
 refine wp_region ?_;show wpOps P #[o1,o2] Q [0,1] a w;rw[wpOps_cons]
 refine Yfs (o:=o1) rfl (Yhn g1) (Ypf (u:=a.tmps.getD d0 undef) (by simp[execOp,h1,Act.eval]) ?_)
 have I1:Inv Z (S.ap ⟨[(d1,.cl .sh (.sl e) xs)],[],[]⟩) C (a.put o1.dst (a.tmps.getD d0 undef)) w:=by
  rw[e1];exact I.slot (fun i t b x h=>absurd h (hS i t b x)) hd1 (VOk.tm (v:=.cl .sh (.sl e) xs) hv _)
 have hval1:(a.put o1.dst (a.tmps.getD d0 undef)).eval (.tmp d1)=.slice A xs.length c:=by
  have:=I1.tm d1 (.cl .sh (.sl e) xs) (by simp[St.ap,Yt,lk])
  rw[e1,Act.put];simp only[Act.eval];rw[←hval];have hts:=I.ts;simp[Array.getD,hts,hd1]
 generalize hS1:(S.ap ⟨[(d1,.cl .sh (.sl e) xs)],[],[]⟩)=S1 at I1 hQ;generalize ha1:a.put o1.dst (a.tmps.getD d0 undef)=a1 at I1 hval1;rw[wpOps_cons]
 have hS1n:Ybd S1:=by
  rw[←hS1];intro s t b v hv;rw[Yd8] at hv;simp only at hv
  by_cases es:s=d1
  ·subst es;rw[Yl] at hv;cases hv
  ·rw[Yu es] at hv
   simp only[lk] at hv
   cases hl:lk s S.tm with
   |none=>rw[hl] at hv;cases hv
   |some v0=>
    rw[hl] at hv;simp only[Option.map_some,Option.some.injEq] at hv;obtain⟨u',rfl⟩:=Ygq hv;exact hS s t b u' hl
 refine Yfs (o:=o2) rfl (Yhn g2) (Ypf (u:=.bool A.isNone) ?_ ?_)
 ·have hq:=Lib.run_eql_slice_nil (P:=P) w t et A xs.length c 0 0 hu
  have hg:(eqGuard .eql t (.tmp d1) (.const (.slice none 0 0)) (.slice A xs.length c) (.slice none 0 0)).run P w=.ok () w:=by unfold eqGuard;rfl
  have hc:a1.eval (.const (.slice none 0 0))=.slice none 0 0:=rfl;simp only[execOp,h2,hval1,hc,Sem.run_bind,hg,Result.andThen_ok,hq];rfl
 ·show Q .normal _ w
  refine hQ _ A.isNone (fun h=>hA (by simpa using h)) ?_
  rw[e2];exact I1.slot (fun i t b x h=>absurd h (hS1n i t b x)) hd2 (VOk.tm (v:=.cl .sh .bool A.isNone) (Yd.Ybx _ _) _)
end Mf
namespace Mf
open Go
set_option linter.unusedVariables false
set_option linter.unusedSimpArgs false
variable {Z:W0} {S:St} {C:Cx} {w w':World} {a:Act}
variable {P:Program} {tb:Tb} {G:Gam} {L:Lam} {hn:Hint}
def Ycl (e:Ty):SP:=⟨[(0,.cl .sh (.sl e))],[]⟩
def Ycr (o:Ow) (e:Ty) (xs:List e.El):St:=⟨[(2,.seg 2 [])],[(2,some ⟨.reg,.cl o (.sl e) xs⟩)]⟩
def Yk5 (o:Ow) (e:Ty) (xs:List e.El):St:=⟨[(2,.seg 2 []),(0,.cl .sh (.sl e) xs)],[(2,some ⟨.reg,.cl o (.sl e) []⟩)]⟩
def Yc3 (o:Ow) (e:Ty) (xs:List e.El) (b:Bool):St:=(((Yk5 o e xs).ap ⟨[(3,.cl .sh (.sl e) xs)],[],[]⟩).ap ⟨[(4,.cl .sh .bool b)],[],[]⟩).is 4 b
def Ylp (o:Ow) (e:Ty) (x:(Ycl e).El) (R:Type) (k:Ex→St→Option R):Option R:=cond (decide (x.1.1.length≤2147483648)) (k .rt (Ycr o e x.1.1)) none
theorem Yo3 (ht:Yag P tb) (hG:GOk P G) (hm:P.follows .mixedOrders=true) {o:Ow} {e:Ty} {R0 R2 R3:Code} {i1:Nat} {o1 o2:Oper} {t t' et:TypeId}
  (h1:o1.op=.move (.tmp 0)) (e1:o1.dst=some 3) (g1:o1.guard=none)
  (h2:o2.op=.binOp .eql t (.tmp 3) (.const (.slice none 0 0)) t') (e2:o2.dst=some 4) (g2:o2.guard=none) (hu:P.underlying t=some (.slice et))
  (E0:∀ xs:List e.El,ev tb hn 8 1 G (mkL []) R0 .no ⟨[(0,.cl .sh (.sl e) xs)],[]⟩ (fun e S=>some (e,S))=some (.nm,Yk5 o e xs))
  (E2:∀ xs:List e.El,ev tb hn 8 1 G (mkL []) R2 .no (Yc3 o e xs true) (fun e S=>some (e,S.keep [2] [2]))=some (.rt,Ycr o e []))
  (E3:∀ xs:List e.El,ev tb hn 8 1 G (mkL []) R3 .no (Yc3 o e xs false) (fun e S=>some (e,S.keep [2] [2]))=cond (decide (xs.length≤2147483648)) (some (.rt,Ycr o e xs)) none) :
  Ya7 P 8 1 (R0.seq (((Code.region i1 #[o1,o2] false).seq (.cond (.tmp 4) R2 .skip)).seq R3)) (Yfb (Ycl e) (Ylp o e)):=by
 intro S R k r hS he;unfold Yfb at he
 split at he
 ·rename_i x hx
  simp only[Ylp] at he
  cases hl:decide (x.1.1.length≤2147483648) with
  |false=>rw[hl] at he;cases he
  |true=>
   rw[hl] at he;have hkeep:=SP.Ypr (sp:=Ycl e) rfl hx
   have hret:Ybd (Ycr o e x.1.1):=by
    intro s t b v hv;simp only[Ycr,lk] at hv
    split at hv<;>cases hv
   refine⟨.rt,_,he,hret,fun Z C a w Q hnt hnp I hQ=>?_⟩;have I0:=I.keep (Ycl e).tk (Ycl e).rk;rw[←hkeep] at I0
   have hN0:Ybd ((Ycl e).mk' x):=by rw[hkeep];exact hS.keep _ _
   obtain⟨ex,S',q1,q2,q3⟩:=Yct (np:=1) (nt:=8) (hn:=hn) (L:=mkL []) ht hG hm R0 .no trivial ((Ycl e).mk' x) _ _ _ hN0 (E0 x.1.1);cases q1;refine wp_seq (q3 Z C a w _ hnt hnp I0 (fun C a w I1=>?_))
   refine wp_seq (wp_seq (Yqw h1 e1 g1 h2 e2 g2 hu I1 q2 (by omega) (by omega) (xs:=x.1.1) rfl (fun a' b hb I2=>?_)))
   have hb4:a'.tmps.getD 4 undef=.bool b:=(I2.tm 4 (.cl .sh .bool b) rfl:Yd _ _ _ _ _ _).bool;have I3:=I2.is hb4
   have hN3:Ybd (Yc3 o e x.1.1 b):=by
    have:(Yc3 o e x.1.1 b).tm=[(4,.kb b),(4,.cl .sh .bool b),(3,.cl .sh (.sl e) x.1.1),(2,.seg 2 []),(0,.cl .sh (.sl e) x.1.1)]:=rfl;intro s t b' v hv;rw[this] at hv;simp only[lk_consU] at hv
    repeat' (split at hv)
    all_goals cases hv
   cases b with
   |true=>
    have hx0:=hb rfl;obtain⟨ex,S',q1,q2,q3⟩:=Yct (np:=1) (nt:=8) (hn:=hn) (L:=mkL []) ht hG hm R2 .no trivial (Yc3 o e x.1.1 true) _ _ _ hN3 (E2 x.1.1);simp only[Option.some.injEq,Prod.mk.injEq] at q1;obtain⟨rfl,hk⟩:=q1;refine wp_cond_true hb4 (q3 Z C a' w _ hnt hnp I3 (fun C a w I4=>?_));have I5:=I4.keep [2] [2];rw[hk] at I5;refine hQ C a w ?_
    rw[hx0];exact I5
   |false=>
    have hE:=E3 x.1.1;rw[hl] at hE;obtain⟨ex,S',q1,q2,q3⟩:=Yct (np:=1) (nt:=8) (hn:=hn) (L:=mkL []) ht hG hm R3 .no trivial (Yc3 o e x.1.1 false) _ _ _ hN3 hE;simp only[Option.some.injEq,Prod.mk.injEq] at q1;obtain⟨rfl,hk⟩:=q1;refine wp_cond_false hb4 (wp_skip ?_);refine q3 Z C a' w _ hnt hnp I3 (fun C a w I4=>?_);have I5:=I4.keep [2] [2];rw[hk] at I5;exact hQ C a w I5
 ·cases he
def opAt (c:Code) (i:Nat):Oper:=match c with
 |.region _ ops _=>ops.toList.getD i {dst:=none,op:=.move (.tmp 0),type:=0,pos:="",after:=#[],guard:=none }
 |_=>{dst:=none,op:=.move (.tmp 0),type:=0,pos:="",after:=#[],guard:=none }
def Yw8 (c:Code):Nat:=match c with
 |.region i _ _=>i
 |_=>0
theorem Ywd (ht:Yag P tb) (hm:P.follows .mixedOrders=true) {f:FuncId} {fn:Func} (hf:P.funcs[f]? = some fn) (hb:fn.body=some (Yaf fn)) (hname:(fn.name == "runtime.NumGoroutine")=false) (hnt:fn.ntmps=8) (o:Ow) (e:Ty) (t t' et:TypeId)
  (hbody:Yaf fn=(Yap (Yaf fn) [0]).seq (((Code.region (Yw8 (Yap (Yaf fn) [1,0,0])) #[opAt (Yap (Yaf fn) [1,0,0]) 0,opAt (Yap (Yaf fn) [1,0,0]) 1] false).seq (.cond (.tmp 4) (Yap (Yaf fn) [1,0,1,0]) .skip)).seq (Yap (Yaf fn) [1,1])))
  (h1:(opAt (Yap (Yaf fn) [1,0,0]) 0).op=.move (.tmp 0)) (e1:(opAt (Yap (Yaf fn) [1,0,0]) 0).dst=some 3) (g1:(opAt (Yap (Yaf fn) [1,0,0]) 0).guard=none)
  (h2:(opAt (Yap (Yaf fn) [1,0,0]) 1).op=.binOp .eql t (.tmp 3) (.const (.slice none 0 0)) t') (e2:(opAt (Yap (Yaf fn) [1,0,0]) 1).dst=some 4) (g2:(opAt (Yap (Yaf fn) [1,0,0]) 1).guard=none) (hu:P.underlying t=some (.slice et))
  (E0:∀ xs:List e.El,ev tb hn 8 1 (mkG []) (mkL []) (Yap (Yaf fn) [0]) .no ⟨[(0,.cl .sh (.sl e) xs)],[]⟩ (fun e S=>some (e,S))=some (.nm,Yk5 o e xs))
  (E2:∀ xs:List e.El,ev tb hn 8 1 (mkG []) (mkL []) (Yap (Yaf fn) [1,0,1,0]) .no (Yc3 o e xs true) (fun e S=>some (e,S.keep [2] [2]))=some (.rt,Ycr o e []))
  (E3:∀ xs:List e.El,ev tb hn 8 1 (mkG []) (mkL []) (Yap (Yaf fn) [1,1]) .no (Yc3 o e xs false) (fun e S=>some (e,S.keep [2] [2]))=cond (decide (xs.length≤2147483648)) (some (.rt,Ycr o e xs)) none)
  (hfin:∀ x:PT.Els [.cl .sh (.sl e)],Yfb (Ycl e) (Ylp o e) (Yh (PT.mks [.cl .sh (.sl e)] x)) Out (Ysv tb hn fn [.sh])=cond (decide (x.1.length≤2147483648)) (some ⟨[.cl o (.sl e) x.1],[]⟩) none) :
  Yb2 P f (Ybk [.sh] [.cl .sh (.sl e)] (fun x=>Ymd x.1) fun y=>⟨[.cl o (.sl e) y],[]⟩):=by
 refine Yuc (fn:=fn) (hn:=hn) (E:=Yfb (Ycl e) (Ylp o e)) ht hf hb hname ?_ rfl (by rw[hnt];rfl) fun x=>?_
 ·rw[hnt,hbody];exact Yo3 ht GOk.nil hm h1 e1 g1 h2 e2 g2 hu E0 E2 E3
 ·rw[hfin,Ymd,Ymi]
  rfl
end Mf
namespace Mf
open Go Go.Sort
set_option linter.unusedVariables false
set_option linter.unusedSimpArgs false
variable {Z:W0} {S:St} {C:Cx} {w w':World} {a:Act}
variable {P:Program} {tb:Tb} {np nt:Nat}
theorem Ym2 {α:Type} (enc:α→Value) [Inhabited α] (w:World) (b off:Nat) (d:Array α) (b':Nat) (h:b'≠b):Same w (putRow enc w b off d) b':=by
 unfold Same putRow mapBlock;simp only[Array.getElem?_modify];rw[if_neg (fun e=>h e.symm)]
theorem Yr8 {M:Ya} {xs:List Int} {b off:Nat} (hc:∀ i (h:i<xs.length),w.cell? ⟨b,off+i,none⟩=some (.int .i64 xs[i])) (i:Nat) (h:i<xs.length):Rep w M (.int .i64) (Ow.deep.elem) (xs[i]'h) (.mem b (off+i*(Ty.int .i64).size)) noB:=by
 show(Src.mem b (off+i*1)).cell w 0=_;simp only[Src.cell,Nat.mul_one,Nat.add_zero];exact hc i h
theorem Yqc {f:FuncId} (hthere:Yaw P f)
  (hC:∀ (blk off cap:Nat) (zs:List Int) (w:World),Holds (Value.int .i64) w blk off zs.toArray→blk<w.heap.size→zs.length<4611686018427387904→Calls P f #[.slice (some ⟨blk,off,none⟩) zs.length cap] w fun e w'=>
   e=.returned (.tuple #[])∧∃ n os,w'=grow (putRow (Value.int .i64) (Sort.ahead w n) blk off (zs.mergeSort fun x y=>decide (x≤y)).toArray) os)
  (hN:∀ (p:Option Addr) (cap:Nat) (w:World),Calls P f #[.slice p 0 cap] w fun e w'=>e=.returned (.tuple #[])∧w'=w) (xs:List Int) (hlen:xs.length≤2147483648) :
  Yb5 P f [.mu] [.cl .deep (.sl (.int .i64)) xs] ⟨[],[.cl .deep (.sl (.int .i64)) (xs.mergeSort fun x y=>decide (x≤y))]⟩ where
 there:=hthere
 calls:=by
  intro Z C us hl hnt hP1 hP2 I;have hus:us.size=1:=hl;have hR:(Yh [.cl .deep (.sl (.int .i64)) xs]).root 0=some ⟨.reg,.cl .deep (.sl (.int .i64)) xs⟩:=rfl
  have hR':∀ r R,(Yh [.cl .deep (.sl (.int .i64)) xs]).root r=some R→r=0∧R=⟨.reg,.cl .deep (.sl (.int .i64)) xs⟩:=by
   intro r R h
   by_cases e:r=0
   ·subst e;rw[hR] at h;refine And.intro rfl ?_;cases h;rfl
   ·exfalso
    have:(Yh [.cl .deep (.sl (.int .i64)) xs]).root r=none:=by
     rw[Yaa,List.getElem?_eq_none (by simp;omega)];rfl
    rw[this] at h;cases h
  obtain⟨cs,hcs⟩:=I.str.reg 0 _ hR rfl;obtain⟨A,c,h1,h2,h3⟩:=(I.str.rep 0 _ hR:Rep Z.w _ (.sl (.int .i64)) .deep xs (C.L 0) (C.F 0))
  have hu:us[0]? = some (.slice A xs.length c):=by
   have ht:Yd _ _ _ _ (.seg 0 []) ((⟨us,[]⟩:Act).tmps.getD 0 undef):=I.tm 0 (.seg 0 []) rfl;obtain⟨u,e1,R,s,o,e,ys,q1,q2,q3,q4,A',n',c',q5⟩:=ht.1;rw[hR] at q1;cases q1;rw[Yf] at q2;cases q2;rw[h1] at q4;cases q4
   have hagg:¬ ∃ cs,us.getD 0 undef=.agg cs:=fun h=>by
    have:=ht.2.2.2 h;cases this
   have hone:=Yb6 hagg;simp only[Src.cell,hone] at e1
   have:us.getD 0 undef=.slice A xs.length c:=by simpa using e1
   have h0:0<us.size:=by omega
   simp[Array.getD,h0] at this;rw[Array.getElem?_eq_getElem h0,this]
  have hus2:us=#[.slice A xs.length c]:=by
   apply Array.ext (by simp[hus])
   intro i h4 h5
   have:i=0:=by omega
   subst this;rw[Array.getElem?_eq_getElem h4] at hu
   simpa using hu
  rw[hus2]
  have S0:Str Z (fun _ _=>False) C noB (Yh [.cl .deep (.sl (.int .i64)) xs]).root Z.w:=by
   have hs:=I.str
   refine {hs with rep:=?_ }
   intro r R h;obtain⟨rfl,rfl⟩:=hR' r R h;exact hs.rep 0 _ hR
  have fin:∀ (w':World) (ρ:Yb) (ys:List Int),Str Z (fun _ _=>False) C noB ρ w'→ρ 0=some ⟨.reg,.cl .deep (.sl (.int .i64)) ys⟩→Yg9 Z [.mu] ⟨[],[.cl .deep (.sl (.int .i64)) ys]⟩ (.tuple #[]) w':=by
   intro w' ρ ys hS hρ;exact⟨C,noB,ρ,noB,hS.lf (fun _ _ h=>h.elim),⟨⟨_,hρ,rfl⟩,trivial⟩,fun _ h=>h,rfl,rfl,rfl⟩
  by_cases hx:xs=[]
  ·subst hx
   refine(hN A c Z.w).mono fun e w' ⟨he,hw⟩=>?_;subst he;subst hw
   exact⟨_,rfl,fin _ _ _ S0 (by rw[List.mergeSort_nil];exact hR)⟩
  ·have hpos:0<xs.length:=List.length_pos_iff.2 hx
   obtain⟨b,off,Fs,e1,e2,e3,e4,e5⟩:=h3 (by omega)
   subst e1
   have hcell:∀ i (h:i<xs.length),Z.w.cell? ⟨b,off+i,none⟩=some (.int .i64 xs[i]):=by
    intro i h;have:=(e4 i h).1;have h0:(Src.mem b (off+i*1)).cell Z.w 0=some (.int .i64 xs[i]):=this
    simpa [Src.cell] using h0
   have hH:Holds (Value.int .i64) Z.w b off xs.toArray:=by
    intro j hj
    have hj':j<xs.length:=by simpa using hj
    refine⟨by rw[hcell j hj'];simp[hj'],?_⟩
    exact(e3 j (by simp[Ty.size];omega)).2
   have hb:=(I.str.bnd 0 _ b hR e2).1
   refine(hC b off c xs Z.w hH hb (by omega)).mono fun e w' ⟨he,n,os,hw⟩=>?_
   subst he;refine⟨_,rfl,?_⟩;generalize hys:(xs.mergeSort fun x y=>decide (x≤y))=ys at hw ⊢
   have hyl:ys.length=xs.length:=by rw[←hys];exact(List.mergeSort_perm _ _).length_eq
   let w2:=putRow (Value.int .i64) (Sort.ahead Z.w n) b off ys.toArray
   have hHa:Holds (Value.int .i64) (Sort.ahead Z.w n) b off xs.toArray:=hH
   have hc2:∀ i (h:i<ys.length),w2.cell? ⟨b,off+i,none⟩=some (.int .i64 ys[i]):=by
    intro i h
    have:=cell?_putRow (Value.int .i64) (Sort.ahead Z.w n) b off xs.toArray ys.toArray hHa (by simp[hyl]) i (by simpa using h)
    rw[this];simp[h]
   have hroom:Room w2 b off (c*(Ty.int .i64).size):=by
    intro i hi;obtain⟨r1,r2⟩:=e3 i hi
    refine⟨?_,by rw[frozen?_putRow];exact r2⟩
    by_cases h:i<ys.length
    ·rw[hc2 i h];rfl
    ·rw[cell?_putRow_other _ _ _ _ _ _ (.inr (.inr (by simp;omega)))];exact r1
   have hsz:w2.heap.size=Z.w.heap.size:=size_putRow _ _ _ _ _
   have hrep:Yc w2 (Mt Z C (Yh [.cl .deep (.sl (.int .i64)) xs]).root noB) (fun _ _=>False) (.cl .deep (.sl (.int .i64)) ys) (C.L 0) (C.F 0):=by
    refine⟨some ⟨b,off,none⟩,c,?_,by omega,fun _=>⟨b,off,fun _=>noB,rfl,e2,hroom,fun i hi=>⟨Yr8 hc2 i hi,fun _ h=>h.elim,fun h=>h⟩,fun _ _ _ _ _ h=>h.elim⟩⟩
    rw[hyl];rw[hcs] at h1 ⊢;exact h1
   obtain⟨q1,_⟩:=S0.inside (r:=0) (b0:=b) (w':=w2) (R':=⟨.reg,.cl .deep (.sl (.int .i64)) ys⟩) hR rfl rfl e2 hsz (fun b' hb'=>Ym2 _ (Sort.ahead Z.w n) b off _ b' hb') hrep rfl rfl rfl
    (fun q b1 off1 hn=>by
     cases q with
     |nil=>rw[Yf] at hn ⊢;exact hn
     |cons st q=>
      rw[hcs] at hn h1 ⊢
      cases st with
      |el i=>
       have h1':(Src.reg cs 0).cell Z.w 0=some (.slice (some ⟨b,off,none⟩) xs.length c):=h1;have h1'':(Src.reg cs 0).cell w2 0=some (.slice (some ⟨b,off,none⟩) xs.length c):=h1;simp only[nav,h1',h1''] at hn ⊢;rw[hyl]
       split at hn
       ·rename_i hi
        rw[if_pos hi]
        cases q with
        |nil=>rw[Yf] at hn ⊢;exact hn
        |cons st q=>cases st<;>simp[nav] at hn
       ·cases hn
      |_=>simp[nav] at hn)
    (fun q s hn o e zs hg=>by
     cases q with
     |nil=>
      rw[Yf] at hn;cases hn;rw[Yg8,TV.get_nil] at hg;cases hg
      refine⟨Yf _ _ _,by rw[hcs];rfl,.deep,ys,Yeb (TV.get_nil _),hyl⟩
     |cons st q=>
      exfalso;rw[Yg8] at hg
      cases st with
      |el i=>
       cases q with
       |nil=>simp only[TV.get] at hg;cases hg
       |cons st q=>cases st<;>simp[TV.get] at hg
      |_=>simp[TV.get] at hg)
   obtain⟨q2,_⟩:=q1.hand (w':=grow w2 os) (G':=noB) (by simp) (fun b' hb' _=>heap_grow_old _ _ hb') (fun _ h=>h.elim) rfl rfl rfl
   rw[hw];exact fin _ _ _ q2 (Yb.Yo _ _ _)
theorem Ywt {f:FuncId} (hthere:Yaw P f)
  (hC:∀ (blk off cap:Nat) (zs:List Int) (w:World),Holds (Value.int .i64) w blk off zs.toArray→blk<w.heap.size→zs.length<4611686018427387904→Calls P f #[.slice (some ⟨blk,off,none⟩) zs.length cap] w fun e w'=>
   e=.returned (.tuple #[])∧∃ n os,w'=grow (putRow (Value.int .i64) (Sort.ahead w n) blk off (zs.mergeSort fun x y=>decide (x≤y)).toArray) os)
  (hN:∀ (p:Option Addr) (cap:Nat) (w:World),Calls P f #[.slice p 0 cap] w fun e w'=>e=.returned (.tuple #[])∧w'=w) :
  Yb2 P f (Ybk [.mu] [.cl .deep (.sl (.int .i64))] (fun x=>Yub x.1) fun y=>⟨[],[.cl .deep (.sl (.int .i64)) y]⟩):=by
 intro cs R k r he;simp only[Ybk] at he
 split at he
 ·rename_i x hx
  have e:=PT.Ybl hx;subst e;simp only[Yub] at he
  cases hl:decide (List.length x.1≤2147483648) with
  |false=>rw[hl] at he;cases he
  |true=>rw[hl] at he;exact⟨_,he,Yqc hthere hC hN x.1 (by simpa using hl)⟩
 ·cases he
end Mf
namespace Go.Proofs
open Go.RowKit
abbrev Bk.Hd:=Int×Option Addr×Nat×Nat
def Bk.hv (h:Bk.Hd):Value:=.slice h.2.1 h.2.2.1 h.2.2.2
def Bk.enc (x:Int×Bk.Hd):Array Value:=#[.int .i64 x.1,.agg #[.int .i64 x.2.1,Bk.hv x.2]]
def Bk.at_ (len:Nat) (hd:Nat→Bk.Hd) (j:Nat):Int×Bk.Hd:=((len:Int)-1-j,hd (len-1-j))
def Bk.upto (len:Nat) (hd:Nat→Bk.Hd) (k:Nat):List (Int×Bk.Hd):=(List.range k).map (Bk.at_ len hd)
theorem Bk.Yp4 (len:Nat) (hd:Nat→Bk.Hd) (k:Nat):Bk.upto len hd (k+1)=Bk.upto len hd k++[Bk.at_ len hd k]:=by simp[Bk.upto,List.range_succ]
theorem Bk.Yt8 (len:Nat) (hd:Nat→Bk.Hd) (k:Nat):(Bk.upto len hd k).length=k:=by simp[Bk.upto]
def Bk.Yqm (n₀:Nat) (W:World) (A:Option Addr) (len:Nat) (hd:Nat→Bk.Hd):Prop:=
 0<len→∃ b off,A=some ⟨b,off,none⟩∧b<n₀∧∀ j,j<len→W.cell? ⟨b,off+j*2,none⟩=some (.int .i64 (hd j).1)∧W.cell? ⟨b,off+j*2+1,none⟩=some (Bk.hv (hd j))
theorem Bk.Yqm.below {n₀:Nat} {V W:World} (h:Below n₀ V W) {A:Option Addr} {len:Nat} {hd:Nat→Bk.Hd} (hl:Bk.Yqm n₀ V A len hd):Bk.Yqm n₀ W A len hd:=fun h0=>by
 obtain⟨b,off,h1,h2,h3⟩:=hl h0;exact⟨b,off,h1,h2,fun j hj=>⟨(h.cell (p:=⟨b,_,none⟩) h2).trans (h3 j hj).1,(h.cell (p:=⟨b,_,none⟩) h2).trans (h3 j hj).2⟩⟩
def Bk.last (hd:Nat→Bk.Hd) (at_:Int):Nat→Option Bk.Hd
 |0=>none
 |k+1=>if (hd k).1=at_ then some (hd k) else Bk.last hd at_ k
theorem Bk.Yqu (len:Nat) (hd:Nat→Bk.Hd) (at_:Int):∀ k,k≤len→(∀ y∈Bk.upto len hd k,y.2.1≠at_)→Bk.last hd at_ len=Bk.last hd at_ (len-k)
 |0,_,_=>rfl
 |k+1,hk,h=>by
  rw[Bk.Yp4] at h
  rw[Bk.Yqu len hd at_ k (by omega) (fun y hy=>h y (List.mem_append_left _ hy))]
  have h2:=h (Bk.at_ len hd k) (by simp)
  have e:len-k=(len-(k+1))+1:=by omega
  have e2:len-1-k=len-(k+1):=by omega
  simp only[Bk.at_,e2] at h2;rw[e,Bk.last,if_neg h2]
end Go.Proofs
namespace Mf
open Go Go.RowKit Go.Proofs
set_option linter.unusedVariables false
set_option linter.unusedSimpArgs false
variable {P:Program} {Z:W0}
abbrev Ybb:Ty:=.pair (.int .i64) (.pair (.sl (.int .i64)) .unit)
abbrev Yq:Ty:=.pair (.sl (.sl (.int .i64))) (.pair (.sl Ybb) .unit)
theorem Yj7 {ps:List (Int×List Int×Unit)} {at_:Int}:∀ {k j:Nat},Yfg ps at_ k=some j→j<k
 |k+1,j,h=>by
  unfold Yfg at h
  split at h
  ·cases h;omega
  ·exact Nat.lt_succ_of_lt (Yj7 h)
theorem Ypi {ps:List (Int×List Int×Unit)} {hd:Nat→Bk.Hd} {at_:Int}:∀ (k:Nat),(∀ j,j<k→(hd j).1=(ps.getD j (0,[],())).1)→Bk.last hd at_ k=(Yfg ps at_ k).map hd
 |0,_=>rfl
 |k+1,h=>by
  simp only[Bk.last,Yfg,h k (by omega)]
  split
  ·rfl
  ·exact Ypi k (fun j hj=>h j (by omega))
theorem Ye2 {Lf:TV→Value→Prop} {C:Cx} {w':World} (h:Below Z.w.heap.size Z.w w') (hx:∀ b,Z.X b→b<Z.w.heap.size) (hk:∀ b i,Z.K b i→b<Z.w.heap.size):Str Z Lf C noB (fun _=>none) w' where
 rep:=fun _ _ h=>by cases h
 reg:=fun _ _ h=>by cases h
 mem:=fun _ _ h=>by cases h
 bnd:=fun _ _ _ h=>by cases h
 gbnd:=fun _ h=>h.elim
 dis:=fun _ _ _ _ _ h=>by cases h
 gdis:=fun _ _ h=>by cases h
 plc:=fun _ _ h=>by cases h
 sz:=h.size
 old:=fun b hb _=>h.block b hb
 kp:=fun b i hh=>h.cell (p:=⟨b,i,none⟩) (hk b i hh)
 kf:=fun b i j hh=>h.frozen (p:=⟨b,j,none⟩) (hk b i hh)
 xb:=hx
 kb:=hk
 os:=h.os
 tape:=h.tape
 output:=h.output
theorem Yn9 {f:FuncId} (hthere:Yaw P f)
  (hC:∀ (bd od:Nat) (at_:Int) (A C:Option Addr) (nB cB nC cC:Nat) (hd:Nat→Bk.Hd) (w:World) (v:Bk.Hd),bd<w.heap.size→w.cell? ⟨bd,od,none⟩=some (.slice A nB cB)→w.cell? ⟨bd,od+1,none⟩=some (.slice C nC cC)→
   nC≤1152921504606846976→Bk.Yqm w.heap.size w C nC hd→
   (Bk.last hd at_ nC=none→∃ bB oB,A=some ⟨bB,oB,none⟩∧bB<w.heap.size∧0≤at_∧at_<nB∧w.cell? ⟨bB,oB+at_.toNat,none⟩=some (Bk.hv v))→
   Calls P f #[.pointer (some ⟨bd,od,none⟩),.int .i64 at_] w fun e W'=>e=.returned (Bk.hv ((Bk.last hd at_ nC).getD v))∧Below w.heap.size w W')
  (d:Yq.El) (at_:Int) (r:List Int) (hr:Yl3 d at_=some r) :
  Yb5 P f [.sh,.sh] [.pt Yq d,.cl .sh (.int .i64) at_] ⟨[.cl .sh (.sl (.int .i64)) r],[]⟩ where
 there:=hthere
 calls:=by
  intro Z C us hl hnt hP1 hP2 I;obtain⟨bs,ps,_⟩:=d;have hus:us.size=2:=hl
  have hroot:(Yh [.pt Yq (bs,ps,()),.cl .sh (.int .i64) at_]).root=fun _=>none:=by
   funext r;rw[Yaa];match r with | 0=>rfl | 1=>rfl | n+2=>rfl
  have h0:Yd _ _ _ _ (.pt Yq (bs,ps,())) ((⟨us,[]⟩:Act).tmps.getD 0 undef):=I.tm 0 (.pt Yq (bs,ps,())) rfl;have h1:Yd _ _ _ _ (.cl .sh (.int .i64) at_) ((⟨us,[]⟩:Act).tmps.getD 1 undef):=I.tm 1 (.cl .sh (.int .i64) at_) rfl;have e1:=h1.int;obtain⟨bd,od,e0,hM,hbd,hrep⟩:=h0.leaf rfl;obtain⟨F1,F2,hb,⟨F3,F4,hp,-⟩,-⟩:=hrep;obtain⟨A,cB,a1,a2,a3⟩:=hb;obtain⟨Cc,cC,c1,c2,c3⟩:=hp
  have hus2:us=#[.pointer (some ⟨bd,od,none⟩),.int .i64 at_]:=by
   apply Array.ext (by simp[hus])
   intro i h4 h5
   have:i=0∨i=1:=by omega
   rcases this with rfl | rfl
   ·have:us.getD 0 undef=.pointer (some ⟨bd,od,none⟩):=e0
    simpa [Array.getD,h4] using this
   ·have:us.getD 1 undef=.int .i64 at_:=e1
    simpa [Array.getD,h4] using this
  rw[hus2]
  have hput:∀ j,∃ h:Bk.Hd,h.1=(ps.getD j (0,[],())).1∧(j<ps.length→∀ b off,Cc=some ⟨b,off,none⟩→Z.w.cell? ⟨b,off+j*2,none⟩=some (.int .i64 h.1)∧Z.w.cell? ⟨b,off+j*2+1,none⟩=some (Bk.hv h)∧
    Rep Z.w (Mt Z C (fun _=>none) noB) (.sl (.int .i64)) .sh (ps.getD j (0,[],())).2.1 (.mem b (off+j*2+1)) noB):=by
   intro j
   by_cases hj:j<ps.length
   ·obtain⟨b,off,q1,q2,q3,q4⟩:=c3 (show ps≠[] from List.ne_nil_of_length_pos (by omega))
    obtain⟨G1,G2,r1,⟨G3,G4,r2,-⟩,-,s2,-⟩:=q4 j hj;obtain⟨A',c',t1,t2,t3⟩:=r2;refine⟨((ps.getD j (0,[],())).1,A',(ps.getD j (0,[],())).2.1.length,c'),rfl,fun _ b2 off2 e=>?_⟩;rw[q1] at e;cases e
    have eg:ps.getD j (0,[],())=ps[j]:=by simp[List.getD,hj]
    rw[eg]
    have r1':Z.w.cell? ⟨b,off+j*2,none⟩=some (.int .i64 ps[j].1):=by
     have hs:Ybb.size=2:=rfl;simp only[Rep,Src.cell,hs] at r1;simpa using r1
    have t1':Z.w.cell? ⟨b,off+j*2+1,none⟩=some (.slice A' ps[j].2.1.length c'):=by
     have hs:Ybb.size=2:=rfl;have hs1:(Ty.int .i64).size=1:=rfl;simp only[Src.cell,Src.sh,hs,hs1] at t1;simpa using t1
    refine⟨r1',t1',A',c',by simpa [Src.cell] using t1',t2,?_⟩
    rw[hroot] at t3;exact t3
   ·exact⟨((ps.getD j (0,[],())).1,none,0,0),rfl,fun h=>absurd h hj⟩
  obtain⟨hd,hhd⟩:=Classical.axiomOfChoice hput
  have hlies:Bk.Yqm Z.w.heap.size Z.w Cc ps.length hd:=fun hpos=>by
   obtain⟨b,off,q1,q2,q3,q4⟩:=c3 (show ps≠[] from List.ne_nil_of_length_pos hpos);exact⟨b,off,q1,q3,fun j hj=>⟨((hhd j).2 hj b off q1).1,((hhd j).2 hj b off q1).2.1⟩⟩
  have hlast:=Ypi (at_:=at_) ps.length (fun j _=>(hhd j).1);simp only[Yl3] at hr
  cases hle:decide (ps.length≤2147483648) with
  |false=>rw[hle] at hr;cases hr
  |true=>
   rw[hle] at hr;simp only[decide_eq_true_eq] at hle;simp only[cond_true] at hr
   have key:∃ v:Bk.Hd,(Bk.last hd at_ ps.length=none→∃ bB oB,A=some ⟨bB,oB,none⟩∧bB<Z.w.heap.size∧0≤at_∧at_<bs.length∧Z.w.cell? ⟨bB,oB+at_.toNat,none⟩=some (Bk.hv v))∧
     Rep Z.w (Mt Z C (fun _=>none) noB) (.sl (.int .i64)) .sh r (.reg [Bk.hv ((Bk.last hd at_ ps.length).getD v)] 0) noB:=by
    cases hix:Yfg ps at_ ps.length with
    |some j=>
     rw[hix] at hr hlast;simp only[Option.map_some] at hlast;cases hr;have hj:=Yj7 hix
     refine⟨(0,none,0,0),(fun h=>by rw[hlast] at h;cases h),?_⟩
     rw[hlast]
     obtain⟨b,off,q1,q2,q3,q4⟩:=c3 (show ps≠[] from List.ne_nil_of_length_pos (by omega))
     obtain⟨u1,u2,u3⟩:=(hhd j).2 hj b off q1;refine u3.Yg4 (fun i hi=>?_)
     have:i=0:=by simp[Ty.size] at hi;omega
     subst this;show some _=_
     simpa [Src.cell] using u2.symm
    |none=>
     rw[hix] at hr hlast;simp only[Option.map_none] at hlast
     cases hin:inB at_ bs.length with
     |false=>rw[hin] at hr;cases hr
     |true=>
      rw[hin] at hr;simp only[cond_true] at hr;cases hr;simp only[inB,Bool.and_eq_true,decide_eq_true_eq] at hin
      have hn:at_.toNat<bs.length:=by omega
      obtain⟨b,off,q1,q2,q3,q4⟩:=a3 (show bs≠[] from List.ne_nil_of_length_pos (by omega))
      have q5:=q4 at_.toNat hn;obtain⟨A',c',t1,t2,t3⟩:=q5
      have t1':Z.w.cell? ⟨b,off+at_.toNat,none⟩=some (.slice A' bs[at_.toNat].length c'):=by simpa [Src.cell,Ty.size] using t1
      refine⟨(0,A',bs[at_.toNat].length,c'),fun _=>⟨b,off,q1,q3,hin.1,hin.2,t1'⟩,?_⟩;rw[hlast]
      have eg:bs.getD at_.toNat []=bs[at_.toNat]:=by simp[List.getD,hn]
      rw[eg];rw[hroot] at t3;exact⟨A',c',rfl,t2,t3⟩
   obtain⟨v,hv,hrep⟩:=key
   refine(hC bd od at_ A Cc bs.length cB ps.length cC hd Z.w v hbd (by simpa [Src.cell] using a1) (by simpa [Src.cell,Src.sh,Ty.size] using c1) (by omega) hlies hv).mono fun e w' ⟨he,hbel⟩=>?_
   subst he;refine⟨_,rfl,C,noB,fun _=>none,noB,Ye2 hbel I.str.xb I.str.kb,trivial,fun _ h=>h,?_,rfl,rfl⟩;refine⟨?_,rfl,?_⟩
   ·show Rep w' _ (.sl (.int .i64)) .sh r (.reg [Bk.hv ((Bk.last hd at_ ps.length).getD v)] 0) noB
    refine hrep.go ⟨hbel.size,fun _ h=>h.elim,fun b hb hlt=>⟨hbel.block b hlt,hb⟩⟩ (fun i hi=>rfl)
   ·exact⟨fun h=>(by cases h),fun⟨cs,h⟩=>(by cases h)⟩
theorem Yv4 {f:FuncId} (hthere:Yaw P f)
  (hC:∀ (bd od:Nat) (at_:Int) (A C:Option Addr) (nB cB nC cC:Nat) (hd:Nat→Bk.Hd) (w:World) (v:Bk.Hd),bd<w.heap.size→w.cell? ⟨bd,od,none⟩=some (.slice A nB cB)→w.cell? ⟨bd,od+1,none⟩=some (.slice C nC cC)→
   nC≤1152921504606846976→Bk.Yqm w.heap.size w C nC hd→
   (Bk.last hd at_ nC=none→∃ bB oB,A=some ⟨bB,oB,none⟩∧bB<w.heap.size∧0≤at_∧at_<nB∧w.cell? ⟨bB,oB+at_.toNat,none⟩=some (Bk.hv v))→
   Calls P f #[.pointer (some ⟨bd,od,none⟩),.int .i64 at_] w fun e W'=>e=.returned (Bk.hv ((Bk.last hd at_ nC).getD v))∧Below w.heap.size w W') :
  Yb2 P f (Ybk [.sh,.sh] [.pt Yq,.cl .sh (.int .i64)] (fun x=>Yl3 x.1 x.2.1) fun y=>⟨[.cl .sh (.sl (.int .i64)) y],[]⟩):=by
 intro cs R k r he;simp only[Ybk] at he
 split at he
 ·rename_i x hx
  have e:=PT.Ybl hx;subst e
  cases hb:Yl3 x.1 x.2.1 with
  |none=>rw[hb] at he;cases he
  |some t=>rw[hb] at he;exact⟨_,he,Yn9 hthere hC x.1 x.2.1 t hb⟩
 ·cases he
end Mf
namespace Mf
open Go Go.RowKit
set_option linter.unusedVariables false
set_option linter.unusedSimpArgs false
variable {P:Program} {Z:W0}
theorem Rep.Yec {w:World} {M M':Ya}:∀ {t:Ty} {x:t.El} {s:Src} {F:Ya},Rep w M t .deep x s F→Rep w M' t .deep x s F:=by
 intro t
 induction t with
 |int k=>intro x s F h;exact h
 |bool=>intro x s F h;exact h
 |str=>intro x s F h;exact h
 |unit=>intro x s F h;trivial
 |pair a b iha ihb=>intro x s F h;obtain⟨F1,F2,h1,h2,h3⟩:=h;exact⟨F1,F2,iha h1,ihb h2,h3⟩
 |sl e ih=>
  intro x s F h;obtain⟨A,c,h1,h2,h3⟩:=h;refine⟨A,c,h1,h2,fun hc=>?_⟩;obtain⟨b,off,Fs,e1,e2,e3,e4,e5⟩:=h3 hc
  exact⟨b,off,Fs,e1,e2,e3,fun i hi=>⟨ih (e4 i hi).1,(e4 i hi).2⟩,e5⟩
 |arr n e ih=>
  intro x s F h;obtain⟨h1,Fs,h2,h3⟩:=h;exact⟨h1,Fs,fun i hi=>⟨ih (h2 i hi).1,(h2 i hi).2⟩,h3⟩
def Ype (w w':World) (F:Ya):Prop:=∀ b,F b→w.heap.size≤b∧b<w'.heap.size
def Ybm (e:Ty) (o:Ow) (xs:List e.El) (w:World) (en:Ending) (w':World):Prop:=
 ∃ A c,en=.returned (.slice A xs.length c)∧Below w.heap.size w w'∧∃ F,Rep w' F (.sl e) o xs (.reg [.slice A xs.length c] 0) F∧Ype w w' F
theorem Yjg {v:TV} (h:Y8 v=none):(Yh [v]).root=fun _=>none:=by
 funext r;rw[Yaa];match r with | 0=>exact h | n+1=>rfl
theorem Yb5.Yuk {f:FuncId} {e e':Ty} {o:Ow} {xs:List e.El} {ys:List e'.El} (h:Yb5 P f [.sh] [.cl .sh (.sl e) xs] ⟨[.cl o (.sl e') ys],[]⟩) (ho:o≠.sh) (w:World) (A:Option Addr) (c:Nat)
  (hr:Rep w noB (.sl e) .sh xs (.reg [.slice A xs.length c] 0) noB):Calls P f #[.slice A xs.length c] w (Ybm e' o ys w):=by
 let C:Cx:=⟨fun _=>.reg [] 0,fun _=>noB⟩
 let Z:W0:=⟨w,noB,fun _ _=>False,noB,fun i=>if i<1 then some (.reg [] 0) else none,1⟩
 have hroot:=Yjg (v:=.cl .sh (.sl e) xs) rfl
 have hM:Ye (Mt Z C (Yh [.cl .sh (.sl e) xs]).root noB) noB:=by
  rw[hroot];rintro b (⟨r,R,h,_⟩ | h | h)
  ·cases h
  ·exact h
  ·exact h
 have I:Inv Z (Yh [.cl .sh (.sl e) xs]) C ⟨#[.slice A xs.length c],[]⟩ Z.w:=by
  refine⟨?_,?_,rfl,rfl⟩
  ·rw[hroot];exact Ye2 (Below.refl _ _) (fun _ h=>h.elim) (fun _ _ h=>h.elim)
  ·intro i v hv
   rw[show(Yh [.cl .sh (.sl e) xs]).tm=[(0,.cl .sh (.sl e) xs)] from rfl,lk_consU] at hv
   split at hv
   ·rename_i e0
    subst e0;cases hv
    refine⟨?_,rfl,⟨fun h=>(by cases h),fun⟨cs,h⟩=>(by cases h)⟩⟩
    show Rep w _ (.sl e) .sh xs _ noB;have:=Yc.mono (Lf:=fun _ _=>False) (tv:=.cl .sh (.sl e) xs) (hr:Yc w noB _ (.cl .sh (.sl e) xs) _ noB) hM;exact this
   ·cases hv
 refine(h.calls Z C #[.slice A xs.length c] rfl rfl (fun i hi=>?_) (fun i hi=>?_) I).mono ?_
 ·show(if i<1 then _ else _)=_
  rw[if_neg (by have:(1:Nat)≤i:=hi;omega)]
 ·show(if i<1 then _ else _)=_
  rw[if_pos (by have:i<1:=hi;omega)]
 ·rintro en w' ⟨v,rfl,C',G,ρ,Fr,hs,-,hF,hres,-,-⟩
  obtain⟨h1,h2,h3⟩:Yc w' (Mt Z C' ρ G) (Yi w' (Mt Z C' ρ G) C'.L ρ) (.cl o (.sl e') ys) (.reg v.cells.toList 0) Fr∧v.cells.size=1∧_:=hres
  have hagg:¬ ∃ cs,v=.agg cs:=fun h=>by have:=h3.2 h;cases this
  have hone:=Yb6 hagg;have hrep:Rep w' (Mt Z C' ρ G) (.sl e') o ys (.reg v.cells.toList 0) Fr:=h1;obtain⟨A',c',k1,k2,k3⟩:=hrep
  have hv:v=.slice A' ys.length c':=by
   have:(Src.reg v.cells.toList 0).cell w' 0=some v:=by rw[hone];rfl
   rw[this] at k1;exact Option.some.inj k1
  subst hv;refine⟨A',c',rfl,⟨hs.os,hs.tape,hs.output,hs.sz,fun k hk=>hs.old k hk (fun h=>h)⟩,Fr,?_,fun b hb=>?_⟩
  ·have:=Yc.mono (Lf:=fun _ _=>False) (tv:=.cl o (.sl e') ys) (M:=Mt Z C' ρ G) (M':=Fr) (F:=Fr) (s:=.reg [.slice A' ys.length c'] 0) (w:=w') ⟨A',c',rfl,k2,k3⟩ (fun b hb=>.inr (.inl (hF b hb)))
   exact this
  ·obtain⟨q1,q2,q3,q4⟩:=hs.gbnd b (hF b hb)
   exact⟨q4.resolve_left (fun h=>h),q1⟩
theorem Ymq {f:FuncId} {e e':Ty} {xs:List e.El} {ys:List e'.El} (ht:Yaw P f)
  (h:∀ (w:World) (A:Option Addr) (c:Nat),Rep w noB (.sl e) .sh xs (.reg [.slice A xs.length c] 0) noB→Calls P f #[.slice A xs.length c] w (Ybm e' .deep ys w)) :
  Yb5 P f [.sh] [.cl .sh (.sl e) xs] ⟨[.cl .deep (.sl e') ys],[]⟩ where
 there:=ht
 calls:=by
  intro Z C us hl hnt hP1 hP2 I;have hus:us.size=1:=hl;have hroot:=Yjg (v:=.cl .sh (.sl e) xs) rfl;have h0:Yd _ _ _ _ (.cl .sh (.sl e) xs) ((⟨us,[]⟩:Act).tmps.getD 0 undef):=I.tm 0 (.cl .sh (.sl e) xs) rfl;have hrep:Rep Z.w (Mt Z C (Yh [.cl .sh (.sl e) xs]).root noB) (.sl e) .sh xs (.reg (us.getD 0 undef).cells.toList 0) noB:=h0.1;have hone:=h0.one rfl;have hrep0:=hrep;obtain⟨A,c,k1,k2,k3⟩:=hrep
  have hv:us.getD 0 undef=.slice A xs.length c:=by
   have:(Src.reg (us.getD 0 undef).cells.toList 0).cell Z.w 0=some (us.getD 0 undef):=by
    rw[show(us.getD 0 undef).cells=#[us.getD 0 undef] from hone];rfl
   rw[this] at k1;exact Option.some.inj k1
  have hus2:us=#[.slice A xs.length c]:=by
   apply Array.ext (by simp[hus])
   intro i h4 h5
   have:i=0:=by omega
   subst this
   simpa [Array.getD,h4] using hv
  rw[hus2]
  have hr:Rep Z.w noB (.sl e) .sh xs (.reg [.slice A xs.length c] 0) noB:=by
   rw[hv] at hrep0;exact Yc.mono (Lf:=fun _ _=>False) (tv:=.cl .sh (.sl e) xs) (M':=noB) (hrep0:Yc Z.w _ _ (.cl .sh (.sl e) xs) _ noB) (fun _ h=>h.elim)
  refine(h Z.w A c hr).mono ?_;rintro en w' ⟨A',c',rfl,hb,F,hF,hfr⟩;refine⟨_,rfl,C,F,fun _=>none,F,?_,trivial,fun _ h=>h,?_,rfl,rfl⟩
  ·refine {Ye2 (Lf:=Yi w' (Mt Z C (fun _=>none) F) C.L (fun _=>none)) (C:=C) hb I.str.xb I.str.kb with gbnd:=?_,gdis:=(fun _ _ h=>by cases h),rep:=(fun _ _ h=>by cases h) }
   intro b hbF;have:=hfr b hbF
   exact⟨this.2,fun i hk=>by have:=I.str.kb b i hk;omega,fun hx=>by have:=I.str.xb b hx;omega,.inr this.1⟩
  ·refine⟨?_,rfl,⟨fun h=>(by cases h),fun⟨cs,h⟩=>(by cases h)⟩⟩
   show Rep w' _ (.sl e') .deep ys _ F;exact hF.Yec
end Mf
