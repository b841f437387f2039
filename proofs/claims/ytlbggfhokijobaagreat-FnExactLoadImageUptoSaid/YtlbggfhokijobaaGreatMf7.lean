import Derived.Test.YtlbggfhokijobaaGreatMf6
import Derived.Below
import Derived.Calls
import Derived.ChangeSame
import Derived.ChangeShapes
import Derived.DataReads
import Derived.Deep.AppendSrc
import Derived.Deep.Draws
import Derived.Deep.MidRow
import Derived.Deep.Upon
import Derived.KernelRfl
import Derived.Laws.AppendOwn
import Derived.Laws.BytesString
import Derived.Laws.Entries
import Derived.Laws.IdiomCopy
import Derived.Laws.IdiomStrings
import Derived.Laws.Strings
import Derived.Laws.StructEq
import Derived.Laws.Tables
import Derived.Lay
import Derived.Lib.SliceRun
import Derived.Orders
import Derived.Sort.Grow
import Derived.Sort.Row
import GoSem.Core.Region
import GoSem.Core.View
set_option linter.unusedVariables false
set_option linter.unusedSimpArgs false
namespace Mf
open Go
set_option linter.unusedVariables false
set_option linter.unusedSimpArgs false
variable {Z:W0} {P:Program} {tb:Tb} {hn:Hint}
def deadL:Lay→TV
 |.at=>.dead 1
 |.un=>.cl .sh .unit ()
 |.pair a b=>.pr (deadL a) (deadL b)
 |.arr n e=>.dead (n*e.size)
 |.dead n=>.dead n
theorem deadL_rep {w:World} {M:BSet} {Lf:TV→Value→Prop}:∀ (l:Lay) {s:Src} {F:BSet},RepTV w M Lf (deadL l) s F:=by
 intro l
 induction l with
 |pair a b iha ihb=>intro s F;exact⟨noB,noB,iha,ihb,fun _ h=>h.elim,fun _ h=>h.elim,fun _ h=>h.elim⟩
 |_=>intro s F;exact trivial
theorem deadL_shutO:∀ l:Lay,(deadL l).shutO=true:=by
 intro l
 induction l with
 |pair a b iha ihb=>simp only[deadL,TV.shutO,iha,ihb];rfl
 |_=>rfl
def notOp:TV→Bool
 |.op _=>false
 |_=>true
theorem ResV.shut {w:World} {M M':BSet} {L L':Nat→Src} {ρ ρ':Roots} (hm:BSub M' M) {c:TV} {u:Value} {F:BSet} (hs:c.shut=true) (h:ResV w M L ρ c u F):ResV w M' L' ρ' c u F:=by
 have k:∀ {c:TV} {s:Src} {F:BSet},c.shut=true→RepTV w M (LfOk w M L ρ) c s F→RepTV w M' (LfOk w M' L' ρ') c s F:=fun hs h=>RepTV.shut hm (fun v u hv hl=>LfOk.shut hm hv hl) hs h
 cases c with
 |op v=>obtain⟨b,off,F',h1,h2,h3,h4,h5,h6⟩:=h;exact⟨b,off,F',h1,h2,h3,h4,h5,k hs h6⟩
 |_=>exact⟨k hs h.1,h.2⟩
theorem ResVs.shut {w:World} {M M':BSet} {L L':Nat→Src} {ρ ρ':Roots} (hm:BSub M' M):∀ {cs:List TV} {us:List Value} {F:BSet},cs.all TV.shut=true→ResVs w M L ρ cs us F→ResVs w M' L' ρ' cs us F
 |[],[],F,_,h=>trivial
 |c::cs,u::us,F,hs,h=>by
  simp only[List.all_cons,Bool.and_eq_true] at hs
  obtain⟨F1,F2,h1,h2,h3⟩:=h
  exact⟨F1,F2,h1.shut hm hs.1,ResVs.shut hm hs.2 h2,h3⟩
 |[],_::_,_,_,h=>h.elim
 |_::_,[],_,_,h=>h.elim
theorem ResOk.shut {w:World} {M M':BSet} {L L':Nat→Src} {ρ ρ':Roots} (hm:BSub M' M) {cs:List TV} {v:Value} {F:BSet} (hs:cs.all TV.shut=true) (h:ResOk w M L ρ cs v F):ResOk w M' L' ρ' cs v F:=by
 match cs,hs,h with
 |[],_,h=>exact h
 |[c],hs,h=>
  simp only[List.all_cons,Bool.and_eq_true] at hs
  exact ResV.shut (M:=M) hm hs.1 h
 |c::d::cs,hs,h=>
  obtain⟨vs,h1,h2⟩:=h
  exact⟨vs,h1,ResVs.shut hm hs h2⟩
def wkR (ρ:Roots):Roots:=fun i=>match ρ i with
 |some ⟨.reg,tv⟩=>some ⟨.reg,deadL tv.lay⟩
 |_=>none
theorem wkR_some {ρ:Roots} {i:Nat} {R:Root} (h:wkR ρ i=some R):∃ tv,ρ i=some ⟨.reg,tv⟩∧R=⟨.reg,deadL tv.lay⟩:=by
 unfold wkR at h
 split at h
 ·rename_i tv e;cases h;exact⟨tv,e,rfl⟩
 ·cases h
theorem OutsAt.wk {ρ:Roots}:∀ {ms:List Md} {i:Nat} {os:List TV},os.all notOp=true→OutsAt ρ i ms os→OutsAt (wkR ρ) i ms (os.map fun v=>deadL v.lay):=by
 intro ms
 induction ms with
 |nil=>intro i os _ h;cases os with
  |nil=>trivial
  |cons o os=>exact h.elim
 |cons m ms ih=>
  intro i os hs h
  cases m with
  |mu=>
   cases os with
   |nil=>exact h.elim
   |cons o os=>
    simp only[List.all_cons,Bool.and_eq_true] at hs
    obtain⟨⟨R,h1,h2⟩,h3⟩:=h
    refine⟨?_,ih hs.2 h3⟩
    obtain⟨k,tv⟩:=R
    cases k with
    |mem=>rw[h2] at hs;cases hs.1
    |reg=>
     have e:o=tv:=h2
     subst e
     refine⟨⟨.reg,deadL o.lay⟩,?_,rfl⟩
     unfold wkR;rw[h1]
  |sh=>exact ih hs (by cases os<;>exact h)
  |mv=>exact ih hs (by cases os<;>exact h)
theorem tot_wk {C:Cx} {i:Nat} {R:Root} {tv:TV} (e:R=⟨.reg,deadL tv.lay⟩):∀ b,Tot C i R b→Tot C i ⟨.reg,tv⟩ b:=by
 subst e
 rintro b (h | ⟨h,_⟩)
 ·exact .inl h
 ·cases h
theorem Mt_wk {C:Cx} {ρ:Roots} {G:BSet}:BSub (Mt Z C (wkR ρ) G) (Mt Z C ρ G):=by
 rintro b (⟨i,R,h1,h2⟩ | h)
 ·obtain⟨tv,e1,e2⟩:=wkR_some h1
  exact .inl ⟨i,_,e1,tot_wk e2 b h2⟩
 ·exact .inr h
theorem Str.wk {Lf Lf':TV→Value→Prop} {C:Cx} {G:BSet} {ρ:Roots} {w:World} (hS:Str Z Lf C G ρ w):Str Z Lf' C G (wkR ρ) w:={
 rep:=fun i R h=>by obtain⟨tv,e1,rfl⟩:=wkR_some h;exact deadL_rep _
 reg:=fun i R h _=>by obtain⟨tv,e1,rfl⟩:=wkR_some h;exact hS.reg i _ e1 rfl
 mem:=fun i R h hk=>by obtain⟨tv,e1,rfl⟩:=wkR_some h;cases hk
 bnd:=fun i R b h=>by obtain⟨tv,e1,_⟩:=wkR_some h;exact hS.bnd i _ b e1
 gbnd:=hS.gbnd
 dis:=fun i j R R' hij h h'=>by
  obtain⟨tv,e1,e2⟩:=wkR_some h
  obtain⟨tv',e1',e2'⟩:=wkR_some h'
  exact fun b hb hb'=>hS.dis i j _ _ hij e1 e1' b (tot_wk e2 b hb) (tot_wk e2' b hb')
 gdis:=fun i R h=>by
  obtain⟨tv,e1,e2⟩:=wkR_some h
  exact fun b hb hb'=>hS.gdis i _ e1 b (tot_wk e2 b hb) hb'
 plc:=fun i R h=>by obtain⟨tv,e1,rfl⟩:=wkR_some h;have q:=hS.plc i _ e1;exact q
 sz:=hS.sz
 old:=hS.old
 kp:=hS.kp
 kf:=hS.kf
 xb:=hS.xb
 kb:=hS.kb
 os:=hS.os
 tape:=hS.tape
 output:=hS.output }
def finRW (tb:Tb) (hn:Hint) (ts:List TypeId) (rs:List ResultVar) (ms:List Md):RD Out:=
 (finRes tb hn ms.length ts rs .none).bind fun(vs,K)=>(finOuts K 0 ms).bind fun os=>match vs.all TV.shut&&os.all notOp with
  |true=>.ret ⟨vs,os.map fun v=>deadL v.lay⟩
  |false=>.fail
def kfinW (tb:Tb) (hn:Hint) (fn:Func) (ms:List Md) (e:Ex) (S:St):Option Out:=match e with
 |.ex _=>none
 |_=>(finRW tb hn fn.resultTypes.toList fn.results.toList ms).run S
theorem fin_soundW {S:St} {C:Cx} {a:Act} {w:World} (ht:TbOk P tb) {fn:Func} {ms:List Md} {out:Out} (I:Inv Z S C a w) (hnp:∀ i,ms.length≤i→Z.P i=none) (h:(finRW tb hn fn.resultTypes.toList fn.results.toList ms).run S=some out) :
  ∃ v,(results fn a.tmps).run P w=.ok v w∧RetOk Z ms out v w:=by
 unfold finRW at h
 replace h:=RD.bind_some h;obtain⟨⟨cs,K⟩,h1,h⟩:=h
 replace h:=RD.bind_some h;obtain⟨os,h2,h⟩:=h
 split at h
 ·rename_i hs
  cases h
  simp only[Bool.and_eq_true] at hs
  obtain⟨C2,D2,F,G,us,T,g1,f1,d1,hus,hw,hm⟩:=finRes_sound ht I hnp _ _ (TookS.start I) (fun _ h=>h) h1
  refine⟨_,results_run hus,?_⟩
  let ρ:Roots:=fun r=>match ms[r]? with | some .mu=>K.roots S r | _=>none
  have hρ:∀ r R,ρ r=some R→K.roots S r=some R∧ms[r]? = some .mu:=by
   intro r R h
   simp only[ρ] at h
   split at h
   ·rename_i hm;exact⟨h,hm⟩
   ·cases h
  have hout:OutsAt ρ 0 ms os:=finOuts_sound ms 0 h2 (fun j hj=>by simp only[ρ,Nat.zero_add,hj])
  obtain⟨W,hW⟩:=T.str.weak (ρ':=ρ) (G':=G) (fun r R h=>(hρ r R h).1) (fun b h=>.inl h)
  refine⟨C2,G,wkR ρ,F,W.wk,OutsAt.wk hs.2 hout,f1,ResOk.shut (M:=Mt Z C2 ρ G) (L:=C2.L) (ρ:=ρ) Mt_wk hs.1 ?_,hs.1,?_⟩
  ·have hw2:ResVs w (Mt Z C2 ρ G) C2.L ρ cs us F:=by
    have h3:=ResWs.leaf (Lf':=LfOk w (Mt Z C2 (K.roots S) G) C2.L (K.roots S)) (fun v u hv hl=>LfOk.shut hm hv hl) hs.1 hw
    exact ResWs.shut hW hs.1 h3
   have hlen:=hw.length
   match cs,us,hw2,hlen with
   |[],[],_,_=>rfl
   |[c],[u],hw2,_=>
    obtain⟨F1,F2,q1,_,q3,_⟩:=hw2
    show ResV w _ _ _ c u F
    cases c with
    |op tv=>obtain⟨b,off,F',p1,p2,p3,p4,p5,p6⟩:=q1;exact⟨b,off,F',p1,q3 b p2,p3,fun x hx=>q3 x (p4 x hx),p5,p6⟩
    |_=>exact⟨RepTV.sub q1.1 q3,q1.2⟩
   |c1::c2::cs,u1::u2::us,hw2,_=>exact⟨_,by rw[dif_neg (by simp)],hw2⟩
  ·rw[List.all_map]
   exact List.all_eq_true.2 fun x _=>deadL_shutO _
 ·cases h
theorem fn_coutW (ht:TbOk P tb) {f:FuncId} {fn:Func} {c:Code} (hf:P.funcs[f]? = some fn) (hb:fn.body=some c) (hname:(fn.name == "runtime.NumGoroutine")=false)
  {E:St→∀ R:Type,(Ex→St→Option R)→Option R} {cs:List TV} (hE:CodeOk P fn.ntmps cs.length c E) {ms:List Md} (hms:cs.length≤ms.length) (hnt:cs.length≤fn.ntmps)
  (hgd:NoGd (initSt cs)) {out:Out} (h:E (initSt cs) Out (kfinW tb hn fn ms)=some out):COut P f ms cs out where
 there:=⟨fn,hf,hname,by rw[hb];rfl⟩
 calls:=fun Z C us hl hnt' hP1 hP2 I=>by
  obtain⟨e,S',h1,h2,h3⟩:=hE _ _ _ _ hgd h
  refine calls_of_wp hf hb ?_
  refine h3 (Z.slots fn.ntmps) C _ _ _ rfl (fun i hi=>hP1 i (by omega)) (I.frame hl (by omega)) (fun C' a' w' I'=>?_)
  rcases e.cases3 with rfl | rfl | ⟨i,rfl⟩
  ·obtain⟨v,q1,q2⟩:=fin_soundW (P:=P) ht I' (fun i hi=>hP1 i (by omega)) h1
   exact⟨I'.df,v,q1,v,rfl,q2.unslots⟩
  ·obtain⟨v,q1,q2⟩:=fin_soundW (P:=P) ht I' (fun i hi=>hP1 i (by omega)) h1
   exact⟨I'.df,v,q1,v,rfl,q2.unslots⟩
  ·cases h1
theorem fs_okW (ht:TbOk P tb) {f:FuncId} {fn:Func} {c:Code} (hf:P.funcs[f]? = some fn) (hb:fn.body=some c) (hname:(fn.name == "runtime.NumGoroutine")=false)
  {E:St→∀ R:Type,(Ex→St→Option R)→Option R} {pts:List PT} (hE:CodeOk P fn.ntmps pts.length c E) {ms:List Md} (hms:Nat.ble pts.length ms.length=true) (hnt:Nat.ble pts.length fn.ntmps=true)
  {ρ:Type} {F:PT.Els pts→Option ρ} {out:ρ→Out} (h:∀ x,E (initSt (PT.mks pts x)) Out (kfinW tb hn fn ms)=(F x).map out):FsOk P f (mkFS ms pts F out):=by
 intro cs R k r he
 simp only[mkFS] at he
 split at he
 ·rename_i x hx
  cases hF:F x with
  |none=>rw[hF] at he;cases he
  |some t=>
   rw[hF] at he
   refine⟨out t,he,?_⟩
   have e:=PT.rds_mks hx
   subst e
   have h1:=h x
   rw[hF] at h1
   have hl:=PT.mks_length (l:=pts) (x:=x)
   exact fn_coutW ht hf hb hname (by rw[hl];exact hE) (by rw[hl];exact Nat.le_of_ble_eq_true hms) (by rw[hl];exact Nat.le_of_ble_eq_true hnt) initSt_noGd h1
 ·cases he
theorem fn_okW (ht:TbOk P tb) (hm:P.follows .mixedOrders=true) (fn:Func) (hn:Hint) (h:Hi) {f:FuncId} {pts:List PT} {ms:List Md} {ρ:Type} {F:PT.Els pts→Option ρ} {out:ρ→Out} {G:Gam} (hG:GOk P G)
  {L:Lam} {l:List (Nat×Code)} (hfr:AllFr P fn.ntmps pts.length L l)
  (hE:∀ x,ev tb hn fn.ntmps pts.length G L (bodyOf fn) h (initSt (PT.mks pts x)) (kfinW tb hn fn ms)=(F x).map out)
  (h1:P.funcs[f]? = some fn:=by kernel_rfl) (h2:fn.body.isSome=true:=by kernel_rfl) (h3:(fn.name == "runtime.NumGoroutine")=false:=by kernel_rfl)
  (h4:frs h (bodyOf fn)=l:=by kernel_rfl) (h5:Nat.ble pts.length ms.length=true:=by kernel_rfl) (h6:Nat.ble pts.length fn.ntmps=true:=by kernel_rfl):FsOk P f (mkFS ms pts F out):=
 fs_okW ht h1 (body_some h2) h3 (ev_sound ht hG hm _ h (hok_of h4 hfr)) h5 h6 hE
end Mf
namespace Mf
open Go
set_option linter.unusedVariables false
def vEq:Value→Value→Bool
 |.bool a,.bool b=>match a,b with | true,true | false,false=>true | _,_=>false
 |.int k n,.int l m=>decide (k=l)&&decide (n=m)
 |.string a,.string b=>match a.data.toList,b.data.toList with | [],[]=>true | _,_=>false
 |.slice none n c,.slice none m d=>Nat.beq n m&&Nat.beq c d
 |_,_=>false
theorem vEq_ok:∀ {a b:Value},vEq a b=true→a=b:=by
 intro a b h
 unfold vEq at h
 split at h
 ·split at h<;>first | rfl | cases h
 ·simp only[Bool.and_eq_true,decide_eq_true_eq] at h;rw[h.1,h.2]
 ·rename_i a b
  split at h
  ·rename_i h1 h2
   obtain⟨⟨l⟩⟩:=a
   obtain⟨⟨m⟩⟩:=b
   simp only at h1 h2
   rw[h1,h2]
  ·cases h
 ·simp only[Bool.and_eq_true,Nat.beq_eq] at h;rw[h.1,h.2]
 ·cases h
def vsEq:List Value→List Value→Bool
 |[],[]=>true
 |a::l,b::m=>vEq a b&&vsEq l m
 |_,_=>false
theorem vsEq_ok:∀ {a b:List Value},vsEq a b=true→a=b
 |[],[],h=>rfl
 |a::l,b::m,h=>by
  simp only[vsEq,Bool.and_eq_true] at h
  rw[vEq_ok h.1,vsEq_ok h.2]
 |[],_::_,h=>by cases h
 |_::_,[],h=>by cases h
def zB (z:Option Value) (t:Ty):Bool:=match z with | some v=>vsEq v.cells.toList (zcells t) | none=>false
theorem zB_ok {z:Option Value} {t:Ty} (h:zB z t=true):∃ v,z=some v∧v.cells.toList=zcells t:=by
 cases z with
 |none=>cases h
 |some v=>exact⟨v,rfl,vsEq_ok h⟩
def aggB (t:Ty) (d:TypeDesc):Bool:=match t.isAgg,d.isRow with | true,true | false,false=>true | _,_=>false
theorem aggB_ok {t:Ty} {d:TypeDesc} (h:aggB t d=true):t.isAgg=true↔d.isRow=true:=by
 unfold aggB at h
 cases h1:t.isAgg<;>cases h2:d.isRow<;>simp_all
def natsEq:List Nat→List Nat→Bool
 |[],[]=>true
 |a::l,b::m=>Nat.beq a b&&natsEq l m
 |_,_=>false
theorem natsEq_ok:∀ {a b:List Nat},natsEq a b=true→a=b
 |[],[],h=>rfl
 |a::l,b::m,h=>by
  simp only[natsEq,Bool.and_eq_true,Nat.beq_eq] at h
  rw[h.1,natsEq_ok h.2]
 |[],_::_,h=>by cases h
 |_::_,[],h=>by cases h
def fieldsB (P:Program) (t:Ty):Nat→List Field→Bool
 |_,[]=>true
 |i,f::l=>(match P.info? f.type,P.underlying f.type with
  |some j,some de=>!Nat.beq j.size 0&&(Nat.beq j.size (nthTy t i).size&&aggB (nthTy t i) de)
  |_,_=>false)&&fieldsB P t (i+1) l
theorem fieldsB_ok {P:Program} {t:Ty}:∀ {l:List Field} {i:Nat},fieldsB P t i l=true→∀ (k:Nat) f,l[k]? = some f→
  ∃ j de,P.info? f.type=some j∧j.size≠0∧j.size=(nthTy t (i+k)).size∧P.underlying f.type=some de∧((nthTy t (i+k)).isAgg=true↔de.isRow=true)
 |[],i,h,k,f,hk=>by cases hk
 |x::l,i,h,k,f,hk=>by
  simp only[fieldsB,Bool.and_eq_true] at h
  cases k with
  |zero=>
   cases hk
   have h1:=h.1
   split at h1
   ·rename_i j de hj hde
    simp only[Bool.and_eq_true,Bool.not_eq_true',Nat.beq_eq] at h1
    refine⟨j,de,hj,?_,h1.2.1,hde,aggB_ok h1.2.2⟩
    intro e
    have:=h1.1
    rw[e] at this;cases this
   ·cases h1
  |succ k=>
   have:=fieldsB_ok h.2 k f (by simpa using hk)
   rw[show i+1+k=i+(k+1) by omega] at this
   exact this
def dB (P:Program) (td:TD) (t:Ty) (d:TypeDesc):Bool:=match td,d,t with
 |.int k,.int l,.int m=>decide (k=l)&&decide (m=k)
 |.bool,.bool,.bool=>true
 |.str,.string,.str=>true
 |.sl e,.slice f,.sl te=>Nat.beq e f&&match P.info? e with
  |some i=>Nat.beq i.size te.size&&(zB i.zero te&&(Nat.ble i.bytes 4096&&match te with
   |.int k=>match P.underlying e with | some (.int l)=>decide (k=l) | _=>false
   |_=>true))
  |none=>false
 |.arr n e,.array m f,.arr n' te=>Nat.beq n m&&(Nat.beq e f&&(Nat.beq n' n&&match P.info? e,P.underlying e with
  |some i,some de=>Nat.beq i.size te.size&&aggB te de
  |_,_=>false))
 |.st offs,.struct fs,t=>t.isAgg&&(natsEq (fs.toList.map (·.offset)) offs&&fieldsB P t 0 fs.toList)
 |_,_,_=>false
theorem dB_ok {P:Program} {td:TD} {t:Ty} {d:TypeDesc} (h:dB P td t d=true):DOk P td t d:=by
 unfold dB at h
 split at h
 ·simp only[Bool.and_eq_true,decide_eq_true_eq] at h
  obtain⟨rfl,rfl⟩:=h;exact⟨rfl,rfl⟩
 ·exact⟨rfl,rfl⟩
 ·exact⟨rfl,rfl⟩
 ·rename_i e f te
  simp only[Bool.and_eq_true,Nat.beq_eq] at h
  obtain⟨rfl,h⟩:=h
  split at h
  ·rename_i i hi
   simp only[Bool.and_eq_true,Nat.beq_eq] at h
   obtain⟨h1,h2,h3,h4⟩:=h
   refine⟨rfl,te,i,rfl,hi,h1,zB_ok h2,fun k hk=>?_,Nat.le_of_ble_eq_true h3⟩
   subst hk
   simp only at h4
   split at h4
   ·rename_i l hl;rw[decide_eq_true_eq] at h4;rw[hl,h4]
   ·cases h4
  ·cases h
 ·rename_i n e m f n' te
  simp only[Bool.and_eq_true,Nat.beq_eq] at h
  obtain⟨rfl,rfl,rfl,h⟩:=h
  split at h
  ·rename_i i de hi hde
   simp only[Bool.and_eq_true,Nat.beq_eq] at h
   exact⟨rfl,te,i,rfl,hi,h.1,de,hde,aggB_ok h.2⟩
  ·cases h
 ·simp only[Bool.and_eq_true] at h
  obtain⟨h1,h2,h3⟩:=h
  refine⟨_,rfl,h1,?_,fun i f hf=>?_⟩
  ·rw[Array.toList_map];exact natsEq_ok h2
  ·have:=fieldsB_ok h3 i f (by simpa using hf)
   rw[Nat.zero_add] at this;exact this
 ·cases h
def rowB (P:Program) (t:TypeId) (i:TInfo):Bool:=match P.underlying t,P.info? t with
 |some d,some j=>dB P i.d i.ty d&&(aggB i.ty d&&(Nat.beq j.size i.ty.size&&zB j.zero i.ty))
 |_,_=>false
def tbB (P:Program):Tb→Bool
 |[]=>true
 |(t,i)::l=>(rowB P t i&&EqB P t i)&&tbB P l
theorem tbB_row {P:Program}:∀ {tb:Tb},tbB P tb=true→∀ t i,lk t tb=some i→TOk P t i∧EqB P t i=true
 |[],h,t,i,hl=>by cases hl
 |(u,j)::l,h,t,i,hl=>by
  simp only[tbB,Bool.and_eq_true] at h
  simp only[lk] at hl
  split at hl
  ·rename_i e
   rw[Nat.beq_eq] at e;subst e
   cases hl
   refine⟨?_,h.1.2⟩
   have h1:=h.1.1
   unfold rowB at h1
   split at h1
   ·rename_i d k hd hk
    simp only[Bool.and_eq_true,Nat.beq_eq] at h1
    exact⟨⟨d,hd,dB_ok h1.1,aggB_ok h1.2.1⟩,⟨k,hk,h1.2.2.1,zB_ok h1.2.2.2⟩⟩
   ·cases h1
  ·exact tbB_row h.2 t i hl
theorem tbB_ok {P:Program} {tb:Tb} (h:tbB P tb=true):TbOk P tb:=⟨fun t i hl=>(tbB_row h t i hl).1,fun t i hl=>(tbB_row h t i hl).2⟩
end Mf
namespace Mf
open Go
set_option linter.unusedVariables false
set_option linter.unusedSimpArgs false
def Fit:(t:Ty)→t.El→Prop
 |.int k,x=>k.min≤x∧x≤k.max
 |.bool,_ | .str,_ | .unit,_=>True
 |.pair a b,x=>Fit a x.1∧Fit b x.2
 |.sl e,xs=>∀ x∈xs,Fit e x
 |.arr n e,xs=>xs.length=n∧∀ x∈xs,Fit e x
def wt:(t:Ty)→t.El→Nat
 |.int _,_ | .bool,_=>1
 |.str,(x:List UInt8)=>x.length+1
 |.unit,_=>0
 |.pair a b,x=>wt a x.1+wt b x.2
 |.sl e,(xs:List e.El)=>(xs.map (wt e)).sum+1
 |.arr _ e,(xs:List e.El)=>(xs.map (wt e)).sum
def bulks {H:Type} (f:DataW H→Nat):List (DataW H)→Nat
 |[]=>0
 |d::r=>f d+bulks f r
structure Bulk {H:Type} (f:DataW H→Nat):Prop where
 one:∀ d,1≤f d
 str:∀ b,f (.lit (.string b))=b.length+1
 sl:∀ a b,bulks f a+1≤f (.slice a b)
 agg:∀ a,bulks f a≤f (.agg a)
def stB (tb:Tb):Ty→Nat→List Field→Bool
 |.unit,_,[]=>true
 |.pair a b,off,f::l=>(match lk f.type tb with | some j=>decide (j.ty=a) | none=>false)&&(Nat.beq f.offset off&&stB tb b (off+a.size) l)
 |_,_,_=>false
def clB (P:Program) (tb:Tb) (t:TypeId) (i:TInfo):Bool:=match i.d,i.ty with
 |.sl e,.sl te=>(match lk e tb with | some j=>decide (j.ty=te) | none=>false)&&Nat.blt 0 te.size
 |.st _,ty=>match P.underlying t with | some (.struct fs)=>stB tb ty 0 fs.toList | _=>false
 |.int _,_ | .bool,_ | .str,_=>true
 |_,_=>false
def closedB (P:Program) (tb:Tb):Tb→Bool
 |[]=>true
 |(t,i)::l=>clB P tb t i&&closedB P tb l
theorem closedB_lk {P:Program} {tb:Tb}:∀ {l:Tb},closedB P tb l=true→∀ t i,lk t l=some i→clB P tb t i=true
 |[],h,t,i,hl=>by cases hl
 |(u,j)::l,h,t,i,hl=>by
  simp only[closedB,Bool.and_eq_true] at h
  simp only[lk] at hl
  split at hl
  ·rename_i e;rw[Nat.beq_eq] at e;subst e;cases hl;exact h.1
  ·exact closedB_lk h.2 t i hl
theorem pick_list {α:Type} {n:Nat} {Q:Nat→α→Prop} (h:∀ i,i<n→∃ y,Q i y):∃ xs:List α,xs.length=n∧∀ i (hi:i<xs.length),Q i (xs[i]'hi):=by
 induction n with
 |zero=>exact⟨[],rfl,fun i hi=>by simp at hi⟩
 |succ n ih=>
  obtain⟨xs,h1,h2⟩:=ih (fun i hi=>h i (by omega))
  obtain⟨y,hy⟩:=h n (by omega)
  refine⟨xs++[y],by simp[h1],fun i hi=>?_⟩
  by_cases e:i<xs.length
  ·rw[List.getElem_append_left e];exact h2 i e
  ·have:i=n:=by simp at hi;omega
   subst this
   rw[List.getElem_append_right (by omega)]
   simpa [h1] using hy
theorem sum_le {α β:Type} {f:α→Nat} {g:β→Nat}:∀ {xs:List α} {ys:List β},xs.length=ys.length→(∀ (i:Nat) x y,xs[i]? = some x→ys[i]? = some y→f x≤g y)→(xs.map f).sum≤(ys.map g).sum
 |[],[],_,_=>Nat.le_refl _
 |x::xs,y::ys,hl,h=>by
  simp only[List.map_cons,List.sum_cons]
  have h1:=h 0 x y rfl rfl
  have h2:=sum_le (f:=f) (g:=g) (xs:=xs) (ys:=ys) (by simpa using hl) (fun i a b ha hb=>h (i+1) a b (by simpa using ha) (by simpa using hb))
  omega
 |[],_::_,hl,_=>by cases hl
 |_::_,[],hl,_=>by cases hl
theorem bulks_sum {H:Type} (f:DataW H→Nat) {α:Type} (g:α→DataW H):∀ xs:List α,(xs.map fun x=>f (g x)).sum=bulks f (xs.map g)
 |[]=>rfl
 |x::xs=>by simp only[List.map_cons,List.sum_cons,bulks,bulks_sum f g xs]
variable {H:Type} {enc:TypeId×Value→H} {P:Program} {tb:Tb} {w:World} {spare:Nat→Bool} {held:Bool} {f:DataW H→Nat}
theorem cellsOf_tok {t:TypeId} {i:TInfo} (h:TOk P t i):P.cellsOf t=i.ty.size:=by
 obtain⟨j,hj,hs,_⟩:=h.i
 simp[Program.cellsOf,hj,hs]
def Reads (w:World) (f:DataW H→Nat) (t:Ty) (s:Src) (d:DataW H):Prop:=∃ x:t.El,Rep w noB t .sh x s noB∧Fit t x∧wt t x≤f d
theorem st_reads (hb:TbOk P tb) {fuel:Nat} {cs:List Value} {s:Src} (hs:∀ (k:Nat) v,cs[k]? = some v→s.cell w k=some v)
  (ih:∀ t i cs d ps,lk t tb=some i→DataW.trod enc P w 0 spare held fuel t cs=some (d,ps)→∀ s,(∀ (k:Nat) v,cs[k]? = some v→s.cell w k=some v)→cs.length=i.ty.size→Reads w f i.ty s d) :
  ∀ (l:List Field) (t:Ty) (off:Nat) (xs:List (DataW H×List MemPlace)),stB tb t off l=true→off+t.size≤cs.length→
   l.mapM (fun g=>DataW.trod enc P w 0 spare held fuel g.type ((cs.drop g.offset).take (P.cellsOf g.type)))=some xs→∃ x:t.El,Rep w noB t .sh x (s.sh off) noB∧Fit t x∧wt t x≤bulks f (xs.map (·.1))
 |[],t,off,xs,hst,hl,hx=>by
  cases t<;>simp only[stB] at hst<;>first | cases hst | skip
  exact⟨(),trivial,trivial,Nat.zero_le _⟩
 |g::l,t,off,xs,hst,hl,hx=>by
  cases t with
  |pair a b=>
   simp only[stB,Bool.and_eq_true,Nat.beq_eq] at hst
   obtain⟨h1,h2,h3⟩:=hst
   split at h1
   ·rename_i j hj
    rw[decide_eq_true_eq] at h1
    rw[List.mapM_cons] at hx
    cases hd:DataW.trod enc P w 0 spare held fuel g.type ((cs.drop g.offset).take (P.cellsOf g.type)) with
    |none=>rw[hd] at hx;cases hx
    |some y=>
     rw[hd] at hx
     cases hr:l.mapM (fun g=>DataW.trod enc P w 0 spare held fuel g.type ((cs.drop g.offset).take (P.cellsOf g.type))) with
     |none=>rw[hr] at hx;cases hx
     |some ys=>
      rw[hr] at hx
      cases hx
      have hsz:P.cellsOf g.type=a.size:=by rw[cellsOf_tok (hb _ _ hj),h1]
      simp only[Ty.size] at hl
      rw[hsz,h2] at hd
      subst h1
      obtain⟨x1,p1,p2,p3⟩:=ih g.type j _ y.1 y.2 hj hd (s.sh off) (fun k v hk=>by
       rw[List.getElem?_take] at hk
       split at hk
       ·rw[List.getElem?_drop] at hk
        rw[Src.cell_sh];exact hs _ v hk
       ·cases hk) (by simp;omega)
      obtain⟨x2,q1,q2,q3⟩:=st_reads hb hs ih l b (off+j.ty.size) ys h3 (by omega) hr
      refine⟨(x1,x2),⟨noB,noB,p1,by rw[Src.sh_sh];exact q1,fun _ h=>h,fun _ h=>h,fun _ h _=>h⟩,⟨p2,q2⟩,?_⟩
      simp only[wt,List.map_cons,bulks]
      omega
   ·cases h1
  |_=>simp only[stB] at hst;cases hst
theorem trod_reads (hb:TbOk P tb) (hc:closedB P tb tb=true) (hf:Bulk f):∀ (fuel:Nat) (t:TypeId) (i:TInfo) (cs:List Value) (d:DataW H) (ps:List MemPlace),lk t tb=some i→
  DataW.trod enc P w 0 spare held fuel t cs=some (d,ps)→∀ s,(∀ (k:Nat) v,cs[k]? = some v→s.cell w k=some v)→cs.length=i.ty.size→Reads w f i.ty s d
 |0,t,i,cs,d,ps,hl,h=>by simp[DataW.trod] at h
 |fuel+1,t,i,cs,d,ps,hl,h=>by
  intro s hs hlen
  have ih:=trod_reads hb hc hf fuel
  have hcl:=closedB_lk hc t i hl
  have htok:=hb t i hl
  obtain⟨⟨u,hu,hd,_⟩,_⟩:=hb t i hl
  obtain⟨td,ty,by_⟩:=i
  simp only at hd hcl hlen ⊢
  have one:∀ {t:Ty},t.size=1→cs.length=t.size→∃ v,cs=[v]:=fun e1 e2=>List.length_eq_one_iff.1 (by omega)
  cases td with
  |int k=>
   obtain⟨rfl,rfl⟩:=hd
   obtain⟨v,rfl⟩:=one rfl hlen
   cases v<;>simp only[DataW.trod,hu] at h<;>try cases h
   rename_i k' n
   split at h
   ·rename_i hw
    cases h
    obtain⟨rfl,hw⟩:=hw
    refine⟨n,hs 0 _ rfl,?_,hf.one _⟩
    simpa [Lit.wf,Fit] using hw
   ·cases h
  |bool=>
   obtain⟨rfl,rfl⟩:=hd
   obtain⟨v,rfl⟩:=one rfl hlen
   cases v<;>simp only[DataW.trod,hu] at h<;>try cases h
   exact⟨_,hs 0 _ rfl,trivial,hf.one _⟩
  |str=>
   obtain⟨rfl,rfl⟩:=hd
   obtain⟨v,rfl⟩:=one rfl hlen
   cases v<;>simp only[DataW.trod,hu] at h<;>try cases h
   rename_i z
   split at h
   ·cases h
    exact⟨z.data.toList,⟨z,hs 0 _ rfl,rfl⟩,trivial,by rw[hf.str];exact Nat.le_refl _⟩
   ·cases h
  |sl e=>
   obtain⟨rfl,te,ie,rfl,_⟩:=hd
   simp only[clB,Bool.and_eq_true,Nat.blt_eq] at hcl
   obtain⟨hcl,hpos⟩:=hcl
   split at hcl
   ·rename_i j hj
    rw[decide_eq_true_eq] at hcl
    subst hcl
    have hsz:P.cellsOf e=j.ty.size:=cellsOf_tok (hb _ _ hj)
    obtain⟨v,rfl⟩:=one rfl hlen
    have form:(∃ a n c,v=.slice (some a) n c)∨(v=.slice none 0 0∧d=.nil):=by
     cases v<;>simp only[DataW.trod,hu] at h<;>try cases h
     rename_i A n c
     cases A with
     |none=>
      cases n<;>cases c<;>simp only[] at h<;>first | (cases h;exact .inr ⟨rfl,rfl⟩) | cases h
     |some a=>exact .inl ⟨_,_,_,rfl⟩
    rcases form with ⟨a,len,cap,rfl⟩ | ⟨rfl,rfl⟩
    rotate_left
    ·exact⟨[],⟨none,0,hs 0 _ rfl,Nat.le_refl _,fun hh=>absurd rfl hh⟩,(fun x hx=>by cases hx),hf.one _⟩
    ·simp only[DataW.trod,hu] at h
     split at h
     ·rename_i hcond
      cases he:(List.range len).mapM (fun i=>(w.cells? 0 (a.add (i*P.cellsOf e)) (P.cellsOf e)).bind (DataW.trod enc P w 0 spare held fuel e)) with
      |none=>rw[he] at h;cases h
      |some elems=>
       rw[he] at h
       simp only[Option.bind_some] at h
       have hel:elems.length=len:=by rw[mapM_some_length he,List.length_range]
       have at_:∀ i,i<len→∃ l y,w.cells? 0 (a.add (i*P.cellsOf e)) (P.cellsOf e)=some l∧elems[i]? = some y∧DataW.trod enc P w 0 spare held fuel e l=some (y.1,y.2):=by
        intro i hi
        have h1:=mapM_some_get he i i (by simp[hi])
        have h2:elems[i]? = some elems[i]:=List.getElem?_eq_getElem (by omega)
        rw[h2] at h1
        cases hcc:w.cells? 0 (a.add (i*P.cellsOf e)) (P.cellsOf e) with
        |none=>rw[hcc] at h1;cases h1
        |some l=>rw[hcc] at h1;exact⟨l,_,rfl,h2,h1⟩
       have cellsAt:∀ i,i<len→∀ l,w.cells? 0 (a.add (i*P.cellsOf e)) (P.cellsOf e)=some l→l.length=j.ty.size∧∀ k v,l[k]? = some v→w.cell? ((a.add (i*P.cellsOf e)).add k)=some v:=by
        intro i hi l hcc
        simp only[World.cells?,Nat.zero_le,if_true] at hcc
        have h1:=mapM_some_length hcc
        rw[List.length_range,hsz] at h1
        refine⟨h1,fun k v hk=>?_⟩
        have hk':k<l.length:=(List.getElem?_eq_some_iff.1 hk).1
        have:=mapM_some_get hcc k k (by rw[List.getElem?_range (by rw[hsz,←h1];exact hk')])
        rw[this,hk]
       have spot:0<len→a=⟨a.block,a.off,none⟩∧a.block<w.heap.size:=by
        intro hpos'
        obtain⟨l,y,h1,_,_⟩:=at_ 0 hpos'
        obtain⟨h2,h3⟩:=cellsAt 0 hpos' l h1
        have h4:=h3 0 l[0] (List.getElem?_eq_getElem (by omega))
        have e0:(a.add (0*P.cellsOf e)).add 0=a:=by simp[Addr.add]
        rw[e0] at h4
        unfold World.cell? at h4
        split at h4
        ·rename_i c _ _ hh
         have hb':a.block<w.heap.size:=(Array.getElem?_eq_some_iff.1 hh).1
         split at h4
         ·cases h4
         ·rename_i hsp
          obtain⟨ab,ao,as⟩:=a
          cases as with
          |none=>exact⟨rfl,hb'⟩
          |some q=>exact absurd rfl hsp
        ·cases h4
       obtain⟨xs,hxl,hx⟩:=pick_list (n:=len) (Q:=fun i (x:j.ty.El)=>Rep w noB j.ty .sh x (.mem a.block (a.off+i*j.ty.size)) noB∧Fit j.ty x∧∀ y,elems[i]? = some y→wt j.ty x≤f y.1) (fun i hi=>by
        obtain⟨l,y,h1,h2,h3⟩:=at_ i hi
        obtain⟨h4,h5⟩:=cellsAt i hi l h1
        obtain⟨hsp,_⟩:=spot (by omega)
        obtain⟨x,p1,p2,p3⟩:=ih e j l y.1 y.2 hj h3 (.mem a.block (a.off+i*j.ty.size)) (fun k v hk=>by
         have:=h5 k v hk
         rw[hsp,hsz] at this
         simp only[Src.cell]
         rw[←this]
         congr 1
         by_cases e1:i*j.ty.size=0
         ·by_cases e2:k=0
          ·simp[Addr.add,e1,e2]
          ·simp[Addr.add,e1,e2]
         ·by_cases e2:k=0
          ·simp only[Addr.add,e1,e2,if_false,if_true];simp
          ·simp only[Addr.add,e1,e2,if_false];try simp[Nat.add_assoc]) h4
        exact⟨x,p1,p2,fun y' hy'=>by rw[h2] at hy';cases hy';exact p3⟩)
       have hrd:Rep w noB (.sl j.ty) .sh xs s noB∧Fit (.sl j.ty) xs:=by
        refine⟨⟨some a,cap,by rw[hxl];exact hs 0 _ rfl,by rw[hxl];exact hcond.2.1,fun hne=>?_⟩,fun x hm=>?_⟩
        ·have hpos':0<len:=by rw[←hxl];exact List.length_pos_iff.2 hne
         obtain⟨hsp,hlt⟩:=spot hpos'
         exact⟨a.block,a.off,congrArg some hsp,fun hh=>hh,hlt,fun i hi=>(hx i hi).1⟩
        ·obtain⟨i,hi,rfl⟩:=List.getElem_of_mem hm
         exact(hx i hi).2.1
       have hsum:(xs.map (wt j.ty)).sum≤bulks f (elems.map (·.1)):=by
        rw[←bulks_sum f (fun y:DataW H×List MemPlace=>y.1) elems]
        refine sum_le (by omega) (fun i x y h1 h2=>?_)
        obtain⟨hi,rfl⟩:=List.getElem?_eq_some_iff.1 h1
        exact(hx i hi).2.2 y h2
       cases hr:(if spare a.block then(List.range (cap-len)).mapM fun k=>(w.cells? 0 (a.add ((len+k)*P.cellsOf e)) (P.cellsOf e)).bind (DataW.trod enc P w 0 spare held fuel e) else some []) with
       |none=>rw[hr] at h;cases h
       |some rest=>
        rw[hr] at h
        cases h
        refine⟨xs,hrd.1,hrd.2,?_⟩
        have:=hf.sl (elems.map (·.1)) (rest.map (·.1))
        simp only[wt]
        omega
     ·cases h
   ·cases hcl
  |arr n e=>simp only[clB] at hcl;cases hcl
  |st offs=>
   obtain⟨fs,rfl,_⟩:=hd
   simp only[clB,hu] at hcl
   simp only[DataW.trod,hu] at h
   split at h
   ·rename_i hcs
    cases hm:fs.toList.mapM (fun g=>DataW.trod enc P w 0 spare held fuel g.type ((cs.drop g.offset).take (P.cellsOf g.type))) with
    |none=>rw[hm] at h;cases h
    |some xs=>
     rw[hm] at h
     cases h
     obtain⟨x,p1,p2,p3⟩:=st_reads hb hs ih fs.toList ty 0 xs hcl (by omega) hm
     rw[Src.sh_zero] at p1
     exact⟨x,p1,p2,Nat.le_trans p3 (hf.agg _)⟩
   ·cases h
  |ptr e=>exact hd.elim
  |other=>exact hd.elim
end Mf
namespace Mf
open Go
set_option linter.unusedVariables false
set_option linter.unusedSimpArgs false
variable {H:Type} {enc:TypeId×Value→H} {P:Program} {tb:Tb} {w w':World} {held held':Bool} {sp':Nat→Bool}
theorem mapM_to {α β:Type} {f g:α→Option β}:∀ {l:List α} {r:List β},l.mapM f=some r→(∀ x y,x∈l→y∈r→f x=some y→g x=some y)→l.mapM g=some r
 |[],r,h,hg=>by simpa using h
 |x::l,r,h,hg=>by
  rw[List.mapM_cons] at h ⊢
  cases hx:f x with
  |none=>rw[hx] at h;cases h
  |some y=>
   rw[hx] at h
   cases hl:l.mapM f with
   |none=>rw[hl] at h;cases h
   |some ys=>
    rw[hl] at h
    cases h
    rw[hg x y List.mem_cons_self List.mem_cons_self hx,mapM_to hl (fun a b ha hb=>hg a b (List.mem_cons_of_mem _ ha) (List.mem_cons_of_mem _ hb))]
    rfl
theorem cell_old (hw:∀ b,b<w.heap.size→w'.heap[b]? = w.heap[b]?) {a:Addr} {v:Value} (h:w.cell? a=some v):w'.cell? a=some v:=by
 unfold World.cell? at h ⊢
 split at h
 ·rename_i c _ _ hh
  have hb:a.block<w.heap.size:=(Array.getElem?_eq_some_iff.1 hh).1
  rw[hw _ hb,hh];exact h
 ·cases h
theorem cells_old (hw:∀ b,b<w.heap.size→w'.heap[b]? = w.heap[b]?) {a:Addr} {n:Nat} {l:List Value} (h:w.cells? 0 a n=some l):w'.cells? 0 a n=some l:=by
 simp only[World.cells?,Nat.zero_le,if_true] at h ⊢
 exact mapM_to h (fun x y _ _ he=>cell_old hw he)
theorem trod_keep (hb:TbOk P tb) (hc:closedB P tb tb=true) (hw:∀ b,b<w.heap.size→w'.heap[b]? = w.heap[b]?):∀ (fuel:Nat) (t:TypeId) (i:TInfo) (cs:List Value) (d:DataW H) (ps:List MemPlace),lk t tb=some i→
  DataW.trod enc P w 0 (fun _=>true) held fuel t cs=some (d,ps)→(∀ p∈ps,sp' p.block=true)→DataW.trod enc P w' 0 sp' held' fuel t cs=some (d,ps)
 |0,t,i,cs,d,ps,hl,h,hp=>by simp[DataW.trod] at h
 |fuel+1,t,i,cs,d,ps,hl,h,hp=>by
  have ih:=trod_keep hb hc hw fuel
  have hcl:=closedB_lk hc t i hl
  obtain⟨⟨u,hu,hd,_⟩,_⟩:=hb t i hl
  obtain⟨td,ty,by_⟩:=i
  simp only at hd hcl
  cases td with
  |int k=>
   obtain⟨rfl,rfl⟩:=hd
   rcases cs with _ | ⟨v,_ | ⟨v2,cs⟩⟩
   ·simp only[DataW.trod,hu] at h;cases h
   ·cases v<;>simp only[DataW.trod,hu] at h ⊢<;>first | exact h | cases h
   ·simp only[DataW.trod,hu] at h;cases h
  |bool=>
   obtain⟨rfl,rfl⟩:=hd
   rcases cs with _ | ⟨v,_ | ⟨v2,cs⟩⟩
   ·simp only[DataW.trod,hu] at h;cases h
   ·cases v<;>simp only[DataW.trod,hu] at h ⊢<;>first | exact h | cases h
   ·simp only[DataW.trod,hu] at h;cases h
  |str=>
   obtain⟨rfl,rfl⟩:=hd
   rcases cs with _ | ⟨v,_ | ⟨v2,cs⟩⟩
   ·simp only[DataW.trod,hu] at h;cases h
   ·cases v<;>simp only[DataW.trod,hu] at h ⊢<;>first | exact h | cases h
   ·simp only[DataW.trod,hu] at h;cases h
  |sl e=>
   obtain⟨rfl,te,ie,rfl,_⟩:=hd
   simp only[clB,Bool.and_eq_true,Nat.blt_eq] at hcl
   obtain⟨hcl,hpos⟩:=hcl
   split at hcl
   ·rename_i j hj
    rw[decide_eq_true_eq] at hcl
    subst hcl
    have hsz:P.cellsOf e=j.ty.size:=cellsOf_tok (hb _ _ hj)
    have form:(∃ a n c,cs=[.slice (some a) n c])∨cs=[.slice none 0 0]:=by
     rcases cs with _ | ⟨v,_ | ⟨v2,cs⟩⟩
     ·simp only[DataW.trod,hu] at h;cases h
     ·cases v<;>simp only[DataW.trod,hu] at h<;>try cases h
      rename_i A n c
      cases A with
      |none=>cases n<;>cases c<;>simp only[] at h<;>first | exact .inr rfl | cases h
      |some a=>exact .inl ⟨_,_,_,rfl⟩
     ·simp only[DataW.trod,hu] at h;cases h
    rcases form with ⟨a,len,cap,rfl⟩ | rfl
    ·simp only[DataW.trod,hu] at h ⊢
     split at h
     ·rename_i hcond
      rw[if_pos hcond]
      cases he:(List.range len).mapM (fun i=>(w.cells? 0 (a.add (i*P.cellsOf e)) (P.cellsOf e)).bind (DataW.trod enc P w 0 (fun _=>true) held fuel e)) with
      |none=>rw[he] at h;cases h
      |some elems=>
       rw[he] at h
       simp only[Option.bind_some,if_true] at h
       cases hr:(List.range (cap-len)).mapM (fun k=>(w.cells? 0 (a.add ((len+k)*P.cellsOf e)) (P.cellsOf e)).bind (DataW.trod enc P w 0 (fun _=>true) held fuel e)) with
       |none=>rw[hr] at h;cases h
       |some rest=>
        rw[hr] at h
        simp only[Option.map_some,Option.some.injEq,Prod.mk.injEq] at h
        obtain⟨rfl,rfl⟩:=h
        have step:∀ (y:DataW H×List MemPlace) (n:Nat),y∈elems++rest→(w.cells? 0 (a.add (n*P.cellsOf e)) (P.cellsOf e)).bind (DataW.trod enc P w 0 (fun _=>true) held fuel e)=some y→
          (w'.cells? 0 (a.add (n*P.cellsOf e)) (P.cellsOf e)).bind (DataW.trod enc P w' 0 sp' held' fuel e)=some y:=by
         intro y n hy h1
         cases hcc:w.cells? 0 (a.add (n*P.cellsOf e)) (P.cellsOf e) with
         |none=>rw[hcc] at h1;cases h1
         |some l=>
          rw[hcc] at h1
          rw[cells_old hw hcc]
          exact ih e j l y.1 y.2 hj h1 (fun p hp'=>hp p (List.mem_append_right _ (List.mem_flatMap.2 ⟨y,hy,hp'⟩)))
        have e1:(List.range len).mapM (fun i=>(w'.cells? 0 (a.add (i*P.cellsOf e)) (P.cellsOf e)).bind (DataW.trod enc P w' 0 sp' held' fuel e))=some elems:=
         mapM_to he (fun x y _ hy h1=>step y x (List.mem_append_left _ hy) h1)
        have e2:(List.range (cap-len)).mapM (fun k=>(w'.cells? 0 (a.add ((len+k)*P.cellsOf e)) (P.cellsOf e)).bind (DataW.trod enc P w' 0 sp' held' fuel e))=some rest:=
         mapM_to hr (fun x y _ hy h1=>step y (len+x) (List.mem_append_right _ hy) h1)
        rw[e1]
        simp only[Option.bind_some]
        have e3:(if sp' a.block then(List.range (cap-len)).mapM fun k=>(w'.cells? 0 (a.add ((len+k)*P.cellsOf e)) (P.cellsOf e)).bind (DataW.trod enc P w' 0 sp' held' fuel e) else some [])=some rest:=by
         by_cases hz:cap-len=0
         ·have hrest:rest=[]:=by
           rw[hz] at hr
           simpa using hr.symm
          subst hrest
          split
          ·exact e2
          ·rfl
         ·have hlen:elems.length+rest.length=cap:=by
           rw[mapM_some_length he,mapM_some_length hr,List.length_range,List.length_range];omega
          have:sp' a.block=true:=by
           have hcap:0<cap*j.ty.size:=Nat.mul_pos (by omega) hpos
           refine hp (.cell a.block a.off) (List.mem_append_left _ ?_)
           rw[hlen,hsz]
           simp only[MemPlace.row,List.mem_map,List.mem_range]
           exact⟨0,hcap,by simp⟩
          rw[if_pos this];exact e2
        rw[e3]
        rfl
     ·cases h
    ·simp only[DataW.trod,hu] at h ⊢
     exact h
   ·cases hcl
  |arr n e=>simp only[clB] at hcl;cases hcl
  |st offs=>
   obtain⟨fs,rfl,_⟩:=hd
   simp only[clB,hu] at hcl
   simp only[DataW.trod,hu] at h ⊢
   split at h
   ·rename_i hcs
    rw[if_pos hcs]
    cases hm:fs.toList.mapM (fun g=>DataW.trod enc P w 0 (fun _=>true) held fuel g.type ((cs.drop g.offset).take (P.cellsOf g.type))) with
    |none=>rw[hm] at h;cases h
    |some xs=>
     rw[hm] at h
     simp only[Option.map_some,Option.some.injEq,Prod.mk.injEq] at h
     obtain⟨rfl,rfl⟩:=h
     have tys:∀ (l:List Field) (ty:Ty) (off:Nat),stB tb ty off l=true→∀ g∈l,∃ j,lk g.type tb=some j:=by
      intro l
      induction l with
      |nil=>intro ty off _ g hg;cases hg
      |cons g0 l ihl=>
       intro ty off hst g hg
       cases ty with
       |pair a b=>
        simp only[stB,Bool.and_eq_true] at hst
        obtain⟨h1,_,h3⟩:=hst
        rcases List.mem_cons.1 hg with rfl | hg
        ·split at h1
         ·rename_i j hj;exact⟨j,hj⟩
         ·cases h1
        ·exact ihl b _ h3 g hg
       |_=>simp only[stB] at hst;cases hst
     have:fs.toList.mapM (fun g=>DataW.trod enc P w' 0 sp' held' fuel g.type ((cs.drop g.offset).take (P.cellsOf g.type)))=some xs:=
      mapM_to hm (fun g y hg hy h1=>by
       obtain⟨j,hj⟩:=tys _ _ _ hcl g hg
       exact ih g.type j _ y.1 y.2 hj h1 (fun p hp'=>hp p (List.mem_flatMap.2 ⟨y,hy,hp'⟩)))
     rw[this];rfl
   ·cases h
  |ptr e=>exact hd.elim
  |other=>exact hd.elim
end Mf
namespace Mf
open Go Go.ChangeShapes
set_option linter.unusedVariables false
set_option linter.unusedSimpArgs false
variable {H:Type} {enc:TypeId×Value→H} {P:Program} {tb:Tb} {w w':World}
theorem okWide_agg {r:Reach} {base:Nat} {t:TypeId} {v:Value} {i:TInfo} (hd:TOk P t i) (h:Value.okWide P w r base t v):i.ty.isAgg=true↔∃ cs,v=.agg cs:=by
 obtain⟨⟨d,hu,hD,ha⟩,_⟩:=hd
 rw[ha]
 unfold Value.okWide at h
 rw[hu] at h
 obtain⟨td,ty,by_⟩:=i
 simp only at hD
 have leaf:d.isRow=false→Cell.okWide P w r base t v→(d=.bool∨d=.string∨(∃ k,d=.int k)∨∃ e,d=.slice e)→(d.isRow=true↔∃ cs,v=.agg cs):=by
  intro h1 h2 h3
  rw[h1]
  refine⟨(fun e=>by cases e),fun⟨cs,e⟩=>?_⟩
  subst e
  rcases h3 with rfl | rfl | ⟨k,rfl⟩ | ⟨e,rfl⟩<;>simp[Cell.okWide,Cell.ok,hu] at h2
 cases td with
 |int k=>obtain⟨rfl,rfl⟩:=hD;exact leaf rfl h (.inr (.inr (.inl ⟨k,rfl⟩)))
 |bool=>obtain⟨rfl,rfl⟩:=hD;exact leaf rfl h (.inl rfl)
 |str=>obtain⟨rfl,rfl⟩:=hD;exact leaf rfl h (.inr (.inl rfl))
 |sl e=>obtain⟨rfl,_⟩:=hD;exact leaf rfl h (.inr (.inr (.inr ⟨e,rfl⟩)))
 |arr n e=>
  obtain⟨rfl,_⟩:=hD
  obtain⟨cs,rfl,_⟩:=h
  exact⟨fun _=>⟨cs,rfl⟩,fun _=>rfl⟩
 |st offs=>
  obtain⟨fs,rfl,_⟩:=hD
  obtain⟨cs,rfl,_⟩:=h
  exact⟨fun _=>⟨cs,rfl⟩,fun _=>rfl⟩
 |ptr e=>exact hD.elim
 |other=>exact hD.elim
def tysB (tb:Tb):List TypeId→List Ty→Bool
 |[],[]=>true
 |t::ts,u::us=>(match lk t tb with | some i=>decide (i.ty=u) | none=>false)&&tysB tb ts us
 |_,_=>false
abbrev shs (tys:List Ty):List PT:=tys.map fun t=>.cl .sh t
def FitAll:(tys:List Ty)→PT.Els (shs tys)→Prop
 |[],_=>True
 |t::l,x=>Fit t x.1∧FitAll l x.2
def wtAll:(tys:List Ty)→PT.Els (shs tys)→Nat
 |[],_=>0
 |t::l,x=>wt t x.1+wtAll l x.2
def ArgsAt (w:World):(tys:List Ty)→PT.Els (shs tys)→List Value→Prop
 |[],_,vs=>vs=[]
 |t::l,x,v::vs=>(Rep w noB t .sh x.1 (.reg v.cells.toList 0) noB∧v.cells.size=t.size∧(t.isAgg=true↔∃ cs,v=.agg cs))∧ArgsAt w l x.2 vs
 |_::_,_,[]=>False
theorem cells_size (hb:TbOk P tb) {t:TypeId} {i:TInfo} (hl:lk t tb=some i) {held:Bool} {fuel:Nat} {sp:Nat→Bool} {v:Value} {d:DataW H} {ps:List MemPlace} (hagg:i.ty.isAgg=true↔∃ cs,v=.agg cs)
  (h:DataW.trod enc P w 0 sp held fuel t v.cells.toList=some (d,ps)):v.cells.size=i.ty.size:=by
 cases hh:i.ty.isAgg with
 |false=>
  have:¬ ∃ cs,v=.agg cs:=fun e=>by rw[hagg.2 e] at hh;cases hh
  rw[one_of this]
  cases ht:i.ty<;>rw[ht] at hh<;>first | rfl | cases hh
 |true=>
  obtain⟨⟨u,hu,hD,ha⟩,_⟩:=hb t i hl
  have hcell:=cellsOf_tok (hb t i hl)
  cases fuel with
  |zero=>simp[DataW.trod] at h
  |succ n=>
   obtain⟨td,ty,by_⟩:=i
   simp only at hD hh ha hcell ⊢
   cases td with
   |int k=>obtain⟨_,rfl⟩:=hD;cases hh
   |bool=>obtain⟨_,rfl⟩:=hD;cases hh
   |str=>obtain⟨_,rfl⟩:=hD;cases hh
   |sl e=>obtain⟨_,te,ie,rfl,_⟩:=hD;cases hh
   |arr n e=>
    obtain⟨rfl,_⟩:=hD
    simp only[DataW.trod,hu] at h
    split at h
    ·rename_i hc;rw[←hcell,←hc];simp
    ·cases h
   |st offs=>
    obtain⟨fs,rfl,_⟩:=hD
    simp only[DataW.trod,hu] at h
    split at h
    ·rename_i hc;rw[←hcell,←hc];simp
    ·cases h
   |ptr e=>exact hD.elim
   |other=>exact hD.elim
theorem args_read (hb:TbOk P tb) (hc:closedB P tb tb=true) {bk:DataW H→Nat} (hf:Bulk bk) {held:Bool} {sp:Nat→Bool} {base:Nat}:∀ (ts:List TypeId) (tys:List Ty) (vs:List Value) (ds:List (DataW H)) (ps:List MemPlace),
  tysB tb ts tys=true→(∀ (j:Nat) t v,ts[j]? = some t→vs[j]? = some v→Value.okWide P w .any base t v)→DataW.TrodAll enc P w 0 sp held ts vs ds ps→
  ∃ x:PT.Els (shs tys),ArgsAt w tys x vs∧FitAll tys x∧wtAll tys x≤bulks bk ds
 |[],[],vs,ds,ps,ht,hv,h=>by
  obtain⟨rfl,rfl,rfl⟩:=trodAll_nil h
  exact⟨(),rfl,trivial,Nat.zero_le _⟩
 |t::ts,ty::tys,vs,ds,ps,ht,hv,h=>by
  obtain⟨v,vs1,d,ds1,a,b,rfl,rfl,rfl,h1,h2⟩:=trodAll_cons h
  simp only[tysB,Bool.and_eq_true] at ht
  obtain⟨ht1,ht2⟩:=ht
  split at ht1
  ·rename_i i hi
   rw[decide_eq_true_eq] at ht1
   subst ht1
   obtain⟨x2,p1,p2,p3⟩:=args_read hb hc hf ts tys vs1 ds1 b ht2 (fun j t v e1 e2=>hv (j+1) t v (by simpa using e1) (by simpa using e2)) h2
   obtain⟨fuel,h1⟩:=h1
   have hagg:=okWide_agg (hb t i hi) (hv 0 t v rfl rfl)
   have hsz:=cells_size hb hi hagg h1
   obtain⟨x1,q1,q2,q3⟩:=trod_reads hb hc hf fuel t i _ d a hi h1 (.reg v.cells.toList 0) (fun k u hk=>by simp only[Src.cell,Nat.zero_add];exact hk) (by simp[hsz])
   refine⟨(x1,x2),⟨⟨q1,hsz,hagg⟩,p1⟩,⟨q2,p2⟩,?_⟩
   simp only[wtAll,bulks]
   omega
  ·cases ht1
 |[],_::_,vs,ds,ps,ht,hv,h=>by cases ht
 |_::_,[],vs,ds,ps,ht,hv,h=>by cases ht
theorem trodAll_keep (hb:TbOk P tb) (hc:closedB P tb tb=true) (hw:∀ b,b<w.heap.size→w'.heap[b]? = w.heap[b]?) {held held':Bool} {sp':Nat→Bool}:∀ (ts:List TypeId) (tys:List Ty) (vs:List Value) (ds:List (DataW H)) (ps:List MemPlace),
  tysB tb ts tys=true→DataW.TrodAll enc P w 0 (fun _=>true) held ts vs ds ps→(∀ p∈ps,sp' p.block=true)→DataW.TrodAll enc P w' 0 sp' held' ts vs ds ps
 |[],[],vs,ds,ps,ht,h,hp=>by
  obtain⟨rfl,rfl,rfl⟩:=trodAll_nil h
  exact trodAll_mk0
 |t::ts,ty::tys,vs,ds,ps,ht,h,hp=>by
  obtain⟨v,vs1,d,ds1,a,b,rfl,rfl,rfl,h1,h2⟩:=trodAll_cons h
  simp only[tysB,Bool.and_eq_true] at ht
  obtain⟨ht1,ht2⟩:=ht
  split at ht1
  ·rename_i i hi
   obtain⟨fuel,h1⟩:=h1
   exact⟨a,b,⟨fuel,trod_keep hb hc hw fuel t i _ d a hi h1 (fun p hp'=>hp p (List.mem_append_left _ hp'))⟩,trodAll_keep hb hc hw ts tys vs1 ds1 b ht2 h2 (fun p hp'=>hp p (List.mem_append_right _ hp')),rfl⟩
  ·cases ht1
 |[],_::_,vs,ds,ps,ht,h,hp=>by cases ht
 |_::_,[],vs,ds,ps,ht,h,hp=>by cases ht
theorem ArgsAt.length {tys:List Ty}:∀ {x:PT.Els (shs tys)} {vs:List Value},ArgsAt w tys x vs→vs.length=(PT.mks (shs tys) x).length:=by
 induction tys with
 |nil=>intro x vs h;rw[show vs=[] from h];rfl
 |cons t l ih=>
  intro x vs h
  cases vs with
  |nil=>exact h.elim
  |cons v vs=>exact congrArg (·+1) (ih h.2)
theorem ArgsAt.get {tys:List Ty}:∀ {x:PT.Els (shs tys)} {vs:List Value} (i:Nat) {c:TV},ArgsAt w tys x vs→(PT.mks (shs tys) x)[i]? = some c→
  ∃ t y v,c=.cl .sh t y∧vs[i]? = some v∧Rep w noB t .sh y (.reg v.cells.toList 0) noB∧v.cells.size=t.size∧(t.isAgg=true↔∃ cs,v=.agg cs):=by
 induction tys with
 |nil=>intro x vs i c h hc;cases hc
 |cons t l ih=>
  intro x vs i c h hc
  cases vs with
  |nil=>exact h.elim
  |cons v vs=>
   cases i with
   |zero=>cases hc;exact⟨t,x.1,v,rfl,rfl,h.1.1,h.1.2.1,h.1.2.2⟩
   |succ i=>
    obtain⟨t',y,u,h1,h2,h3⟩:=ih i h.2 (c:=c) hc
    exact⟨t',y,u,h1,by simpa using h2,h3⟩
theorem rds_shs {tys:List Ty}:∀ (x:PT.Els (shs tys)),PT.rds (shs tys) (PT.mks (shs tys) x)=some x:=by
 induction tys with
 |nil=>intro x;rfl
 |cons t l ih=>
  intro x
  have e1:(PT.cl .sh t).rd (.cl .sh t x.1)=some x.1:=by
   simp only[PT.rd]
   rw[show decEq Ow.sh Ow.sh=isTrue rfl from Subsingleton.elim _ _,show decEq t t=isTrue rfl from Subsingleton.elim _ _]
  have h2:=ih x.2
  change PT.rds (PT.cl .sh t::shs l) (TV.cl .sh t x.1::PT.mks (shs l) x.2)=some x
  simp only[PT.rds]
  rw[e1,h2]
  rfl
theorem mirCl_sh (r:Nat) (p:Path) (t:Ty) (x:t.El):mirCl r p .sh t x=.cl .sh t x:=by
 cases t<;>simp only[mirCl]<;>first | rfl | (split<;>rfl)
theorem law_calls {f:FuncId} {ms:List Md} {tys:List Ty} {x:PT.Els (shs tys)} {us:Array Value} {o:Ow} {b:Bool} (hC:COut P f ms (PT.mks (shs tys) x) ⟨[.cl o .bool b],[]⟩) (ha:ArgsAt w tys x us.toList) :
  Calls P f us w fun e w'=>e=.returned (.bool b)∧(∀ i,i<w.heap.size→w'.heap[i]? = w.heap[i]?)∧w'.os=w.os∧w'.output=w.output∧w.heap.size≤w'.heap.size:=by
 have hlen:us.size=(PT.mks (shs tys) x).length:=by rw[←ha.length];simp
 let Z:W0:=⟨w,noB,fun _ _=>False,noB,fun i=>if i<us.size then some (.reg (us.getD i undef).cells.toList 0) else none,us.size⟩
 let C:Cx:=⟨fun i=>.reg (us.getD i undef).cells.toList 0,fun _=>noB⟩
 have hroot:∀ r,(initSt (PT.mks (shs tys) x)).root r=none:=by
  intro r
  unfold St.root initSt
  simp only[lk_initRt]
  rw[if_pos (Nat.zero_le r)]
  cases hc:(PT.mks (shs tys) x)[r-0]? with
  |none=>rfl
  |some c=>
   obtain⟨t,y,v,rfl,_⟩:=ha.get _ hc
   have:resRoot (.cl .sh t y)=none:=by
    show(match t.pure,Ow.sh with | true,_=>none | false,.sh=>none | false,o=>some (Root.mk .reg (.cl o t y)))=none
    cases t.pure<;>rfl
   simp[this]
 have hM:∀ b,¬ Mt Z C (initSt (PT.mks (shs tys) x)).root noB b:=by
  rintro b (⟨r,R,h,_⟩ | h | h)
  ·rw[hroot] at h;cases h
  ·exact h
  ·exact h
 have I:Inv Z (initSt (PT.mks (shs tys) x)) C ⟨us,[]⟩ w:=by
  refine⟨⟨?_,?_,?_,?_,fun _ h=>h.elim,?_,?_,?_,Nat.le_refl _,fun _ _ _=>rfl,fun _ _ _=>rfl,fun _ _ _ _=>rfl,fun _ h=>h.elim,fun _ _ h=>h.elim,rfl,rfl,rfl⟩,fun i v hv=>?_,rfl,rfl⟩
  ·intro r R h;rw[hroot] at h;cases h
  ·intro r R h;rw[hroot] at h;cases h
  ·intro r R h;rw[hroot] at h;cases h
  ·intro r R b h;rw[hroot] at h;cases h
  ·intro r r' R R' _ h;rw[hroot] at h;cases h
  ·intro r R h;rw[hroot] at h;cases h
  ·intro r R h;rw[hroot] at h;cases h
  ·have h1:=lk_initTm (PT.mks (shs tys) x) 0 i
   rw[show lk i (initTm 0 (PT.mks (shs tys) x))=some v from hv,if_pos (Nat.zero_le i)] at h1
   cases hc:(PT.mks (shs tys) x)[i-0]? with
   |none=>rw[hc] at h1;cases h1
   |some c=>
    rw[hc] at h1
    obtain⟨t,y,u,rfl,hu,hr,hs,hg⟩:=ha.get _ hc
    simp only[Option.map_some,Option.some.injEq,TV.mir,mirCl_sh] at h1
    subst h1
    rw[Nat.sub_zero] at hu
    have hu':us.getD i undef=u:=by
     rw[Array.getD_eq_getD_getElem?,←Array.getElem?_toList,hu];rfl
    show ValOk _ _ _ _ _ _
    rw[show(Act.mk us []).tmps=us from rfl,hu']
    refine⟨?_,hs,hg⟩
    have:=RepTV.mono (Lf:=LfOk w (Mt Z C (initSt (PT.mks (shs tys) x)).root noB) C.L (initSt (PT.mks (shs tys) x)).root) (tv:=.cl .sh t y) hr (M':=Mt Z C (initSt (PT.mks (shs tys) x)).root noB) (fun b h=>(hM b h).elim)
    exact this
 refine(hC.calls Z C us hlen rfl (fun i hi=>if_neg (by omega)) (fun i hi=>if_pos hi) I).mono fun e w' he=>?_
 obtain⟨v,rfl,C',G,ρ,Fr,hS,_,_,hres,_⟩:=he
 have hv:v=.bool b:=by
  obtain⟨h1,h2,h3⟩:RepTV _ _ _ (TV.cl o .bool b) (.reg v.cells.toList 0) Fr∧v.cells.size=1∧((TV.cl o .bool b).isAgg=true↔∃ cs,v=.agg cs):=hres
  have hna:¬ ∃ cs,v=.agg cs:=fun e=>by have:=h3.2 e;cases this
  have h4:v.cells.toList[0+0]? = some (.bool b):=h1
  rw[one_of hna] at h4
  simpa using h4
 subst hv
 exact⟨rfl,fun i hi=>hS.old i hi (fun h=>h),hS.os,hS.output,hS.sz⟩
theorem bulks_append (bk:DataW H→Nat):∀ a b:List (DataW H),bulks bk (a++b)=bulks bk a+bulks bk b
 |[],b=>by simp[bulks]
 |x::a,b=>by simp only[List.cons_append,bulks,bulks_append bk a b];omega
theorem keptBut_old {may:MemPlace→Prop} (h:∀ i,i<w.heap.size→w'.heap[i]? = w.heap[i]?) (h1:w'.os=w.os) (h2:w'.output=w.output):w.keptBut w' may:=by
 have hr:=World.keptBut_refl w may
 refine⟨h1,h2,fun i hi=>?_⟩
 rw[h i hi]
 exact hr.2.2 i hi
theorem law_contract (hb:TbOk P tb) (hc:closedB P tb tb=true) {bk:DataW H→Nat} (hf:Bulk bk) {f:FuncId} {fn:Func} {tys:List Ty} (hty:tysB tb fn.params.toList tys=true)
  {ms:List Md} {F:PT.Els (shs tys)→Option Bool} {o:Ow} (hok:FsOk P f (mkFS ms (shs tys) F (fun b=>⟨[.cl o .bool b],[]⟩))) {N:Nat} {s:ChangeSpec} (hvars:s.vars=[]) {W:World} {base:Nat} {args:Array Value} {ds gs:List (DataW H)} {before:List MemPlace}
  (hval:∀ (j:Nat) t v,fn.params[j]? = some t→args[j]? = some v→Value.okWide P W .any base t v) (hW:DataW.Whole enc P fn.params.toList s.vars false W args.toList ds gs before)
  (hk:bulks bk (ds++gs)≤N) (law:∀ x,FitAll tys x→wtAll tys x≤N→F x=some true)
  (hs:s.fn H (ds++gs)={results:=[.lit (.bool true)],args:=ds }) {tr:TypeId} (hres:fn.resultTypes=#[tr]) (hbool:P.underlying tr=some .bool) :
  Calls P f args W fun e W'=>∃ v,e=.returned v∧s.post enc P fn false true false false W args v W':=by
 have hW0:=hW
 obtain⟨p,q,hA,hV,rfl,hfz,hnd⟩:=hW
 obtain⟨rfl,rfl⟩:gs=[]∧q=[]:=by rw[hvars] at hV;exact trodVars_none hV
 obtain⟨x,h1,h2,h3⟩:=args_read hb hc hf fn.params.toList tys args.toList ds p hty (fun j t v e1 e2=>hval j t v (by simpa using e1) (by simpa using e2)) hA
 rw[List.append_nil] at hk
 have hF:=law x h2 (Nat.le_trans h3 hk)
 obtain⟨out,e1,hC⟩:=hok (PT.mks (shs tys) x) Out some ⟨[.cl o .bool true],[]⟩ (by simp only[mkFS,rds_shs,hF];rfl)
 cases e1
 refine(law_calls hC h1).mono fun e W' he=>?_
 obtain⟨rfl,hold,hos,hout,hsz⟩:=he
 refine⟨_,rfl,ds,[],p++[],[],p,[],hW0,?_,?_,?_,keptBut_old hold hos hout,fun h=>by cases h⟩
 ·rw[hs,hres]
  exact trodAll_mk1 ⟨1,by simp[DataW.trod,hbool,Value.resultList,Value.cells]⟩
 ·rw[hs]
  refine trodAll_keep hb hc hold fn.params.toList tys args.toList ds p hty hA (fun y hy=>?_)
  have:=hW0.lt y (by simpa using hy)
  simpa using this
 ·rw[hvars,hs];rfl
end Mf
namespace Mf
open Go
theorem iter_more {σ ρ:Type} {f:σ→Option (σ⊕ρ)}:∀ {n:Nat} {s:σ} {r:ρ},iter f n s=some r→iter f (n+1) s=some r
 |0,s,r,h=>by cases h
 |n+1,s,r,h=>by
  rw[iter] at h ⊢
  cases hf:f s with
  |none=>rw[hf] at h;cases h
  |some o=>
   rw[hf] at h
   cases o with
   |inl s'=>exact iter_more (n:=n) h
   |inr r'=>exact h
theorem iter_le {σ ρ:Type} {f:σ→Option (σ⊕ρ)} {n m:Nat} {s:σ} {r:ρ} (h:iter f n s=some r) (hnm:n≤m):iter f m s=some r:=by
 induction hnm with
 |refl=>exact h
 |step _ ih=>exact iter_more ih
theorem loopL_of {σ ρ:Type} {f:σ→Option (σ⊕ρ)} {s:σ} {r:ρ} {n:Nat} (h:iter f n s=some r):loopL f s=some r:=by
 unfold loopL
 have hh:∃ r n,iter f n s=some r:=⟨r,n,h⟩
 rw[dif_pos hh]
 obtain⟨m,hm⟩:=hh.choose_spec
 have h1:=iter_le h (Nat.le_max_left n m)
 have h2:=iter_le hm (Nat.le_max_right n m)
 rw[h1] at h2
 exact h2.symm
theorem loopL_done {σ ρ:Type} {f:σ→Option (σ⊕ρ)} {s:σ} {r:ρ} (h:f s=some (.inr r)):loopL f s=some r:=
 loopL_of (n:=1) (by rw[iter,h];rfl)
theorem loopL_step {σ ρ:Type} {f:σ→Option (σ⊕ρ)} {s s':σ} (h:f s=some (.inl s')):loopL f s=loopL f s':=by
 by_cases hh:∃ r n,iter f n s'=some r
 ·obtain⟨r,n,hn⟩:=hh
  rw[loopL_of hn]
  exact loopL_of (n:=n+1) (by rw[iter,h];exact hn)
 ·have h1:¬ ∃ r n,iter f n s=some r:=by
   rintro⟨r,n,hn⟩
   cases n with
   |zero=>cases hn
   |succ n=>rw[iter,h] at hn;exact hh ⟨r,n,hn⟩
  unfold loopL
  rw[dif_neg hh,dif_neg h1]
theorem loop_up {σ ρ:Type} {f:σ→Option (σ⊕ρ)} (S:Nat→σ) {n:Nat} {r:ρ} (hstep:∀ i,i<n→f (S i)=some (.inl (S (i+1)))) (hend:f (S n)=some (.inr r)) :
  ∀ (k i:Nat),i+k=n→loopL f (S i)=some r
 |0,i,h=>by
  have:i=n:=by omega
  subst this
  exact loopL_done hend
 |k+1,i,h=>by
  rw[loopL_step (hstep i (by omega))]
  exact loop_up S hstep hend k (i+1) (by omega)
theorem w64_id {x:Int} (h1 : -9223372036854775808≤x) (h2:x≤9223372036854775807):w64 x=x:=by
 simp[w64,IntKind.wrap,IntKind.bits,IntKind.signed]
 omega
theorem inB_ok {i:Int} {n:Nat} (h1:0≤i) (h2:i<n):inB i n=true:=by
 simp[inB,h1,h2]
theorem lt_dec {i n:Nat} (h:i<n):decide ((i:Int)<(n:Int))=true:=by simp;omega
theorem ge_dec {i n:Nat} (h:n≤i):decide ((i:Int)<(n:Int))=false:=by simp;omega
theorem w64_succ {i:Nat} (h:i<4294967296):w64 ((i:Int)+1)=((i+1:Nat):Int):=by rw[w64_id (by omega) (by omega)];rfl
end Mf
namespace Mf
open Go
theorem loopL_G {σ ρ:Type} {f:σ→Option (σ⊕ρ)} (I:σ→Prop) (m:σ→Nat) (G:σ→ρ)
  (h:∀ s,I s→(∃ s',f s=some (.inl s')∧I s'∧m s'<m s∧G s'=G s)∨f s=some (.inr (G s))):∀ (n:Nat) (s:σ),m s≤n→I s→loopL f s=some (G s)
 |0,s,hm,hi=>by
  rcases h s hi with ⟨s',_,_,h3,_⟩ | h1
  ·omega
  ·exact loopL_done h1
 |n+1,s,hm,hi=>by
  rcases h s hi with ⟨s',h1,h2,h3,h4⟩ | h1
  ·rw[loopL_step h1,loopL_G I m G h n s' (by omega) h2,h4]
  ·exact loopL_done h1
def foldE {α τ ρ:Type} (step:Nat→α→τ→τ⊕ρ) (e:τ→ρ):Nat→List α→τ→ρ
 |_,[],t=>e t
 |i,x::l,t=>sel (step i x t) (fun t'=>foldE step e (i+1) l t') (fun r=>r)
theorem loop_list {α σ ρ τ:Type} {f:σ→Option (σ⊕ρ)} (l:List α) (mk:Nat→τ→σ) (step:Nat→α→τ→τ⊕ρ) (e:τ→ρ)
  (hs:∀ (i:Nat) (h:i<l.length) (t:τ),f (mk i t)=some (sel (step i l[i] t) (fun t'=>.inl (mk (i+1) t')) (fun r=>.inr r)))
  (he:∀ t,f (mk l.length t)=some (.inr (e t))):∀ (k i:Nat) (t:τ),i+k=l.length→loopL f (mk i t)=some (foldE step e i (l.drop i) t)
 |0,i,t,hi=>by
  have:i=l.length:=by omega
  subst this
  rw[loopL_done (he t)];simp[foldE]
 |k+1,i,t,hi=>by
  have hlt:i<l.length:=by omega
  rw[List.drop_eq_getElem_cons hlt,foldE]
  have:=hs i hlt t
  cases hst:step i l[i] t with
  |inl t'=>rw[hst] at this;rw[loopL_step this,loop_list l mk step e hs he k (i+1) t' (by omega)];rfl
  |inr r=>rw[hst] at this;rw[loopL_done this];rfl
theorem loop_list0 {α σ ρ τ:Type} {f:σ→Option (σ⊕ρ)} (l:List α) (mk:Nat→τ→σ) (step:Nat→α→τ→τ⊕ρ) (e:τ→ρ)
  (hs:∀ (i:Nat) (h:i<l.length) (t:τ),f (mk i t)=some (sel (step i l[i] t) (fun t'=>.inl (mk (i+1) t')) (fun r=>.inr r)))
  (he:∀ t,f (mk l.length t)=some (.inr (e t))) (t:τ) {s:σ} (hs0:s=mk 0 t):loopL f s=some (foldE step e 0 l t):=by
 rw[hs0,loop_list l mk step e hs he l.length 0 t (by omega)];rfl
theorem loop_listI {α σ ρ τ:Type} {f:σ→Option (σ⊕ρ)} (l:List α) (mk:Nat→τ→σ) (step:Nat→α→τ→τ⊕ρ) (e:τ→ρ) (I:Nat→τ→Prop)
  (hs:∀ (i:Nat) (h:i<l.length) (t:τ),I i t→f (mk i t)=some (sel (step i l[i] t) (fun t'=>.inl (mk (i+1) t')) (fun r=>.inr r)))
  (hI:∀ (i:Nat) (h:i<l.length) (t t':τ),I i t→step i l[i] t=.inl t'→I (i+1) t')
  (he:∀ t,I l.length t→f (mk l.length t)=some (.inr (e t))):∀ (k i:Nat) (t:τ),i+k=l.length→I i t→loopL f (mk i t)=some (foldE step e i (l.drop i) t)
 |0,i,t,hi,h0=>by
  have:i=l.length:=by omega
  subst this
  rw[loopL_done (he t h0)];simp[foldE]
 |k+1,i,t,hi,h0=>by
  have hlt:i<l.length:=by omega
  rw[List.drop_eq_getElem_cons hlt,foldE]
  have:=hs i hlt t h0
  cases hst:step i l[i] t with
  |inl t'=>rw[hst] at this;rw[loopL_step this,loop_listI l mk step e I hs hI he k (i+1) t' (by omega) (hI i hlt t t' h0 hst)];rfl
  |inr r=>rw[hst] at this;rw[loopL_done this];rfl
theorem loop_listI0 {α σ ρ τ:Type} {f:σ→Option (σ⊕ρ)} (l:List α) (mk:Nat→τ→σ) (step:Nat→α→τ→τ⊕ρ) (e:τ→ρ) (I:Nat→τ→Prop)
  (hs:∀ (i:Nat) (h:i<l.length) (t:τ),I i t→f (mk i t)=some (sel (step i l[i] t) (fun t'=>.inl (mk (i+1) t')) (fun r=>.inr r)))
  (hI:∀ (i:Nat) (h:i<l.length) (t t':τ),I i t→step i l[i] t=.inl t'→I (i+1) t')
  (he:∀ t,I l.length t→f (mk l.length t)=some (.inr (e t))) (t:τ) (h0:I 0 t) {s:σ} (hs0:s=mk 0 t):loopL f s=some (foldE step e 0 l t):=by
 rw[hs0,loop_listI l mk step e I hs hI he l.length 0 t (by omega) h0];rfl
theorem foldE_any {α ρ:Type} (p:α→Bool) (r e:ρ):∀ (l:List α) (i:Nat),foldE (τ:=Unit) (fun _ x _=>cond (p x) (.inr r) (.inl ())) (fun _=>e) i l ()=cond (l.any p) r e
 |[],i=>rfl
 |x::l,i=>by
  simp only[foldE,List.any_cons]
  cases h:p x
  ·simp only[cond_false,sel,Bool.false_or];exact foldE_any p r e l (i+1)
  ·rfl
def firstC {α:Type} (c:α→Int):List α→Int
 |[]=>0
 |x::l=>cond (c x != 0) (c x) (firstC c l)
theorem foldE_first {α ρ:Type} (c:α→Int) (r:Int→ρ) (e:ρ) (he:e=r 0):∀ (l:List α) (i:Nat),foldE (τ:=Unit) (fun _ x _=>cond (c x != 0) (.inr (r (c x))) (.inl ())) (fun _=>e) i l ()=r (firstC c l)
 |[],i=>he
 |x::l,i=>by
  simp only[foldE,firstC]
  cases h:(c x != 0)
  ·simp only[cond_false,sel];exact foldE_first c r e he l (i+1)
  ·rfl
theorem foldE_map {α β ρ:Type} (g:α→β) (e:List β→ρ):∀ (l:List α) (i:Nat) (t:List β),foldE (fun _ x t=>.inl (t++[g x])) e i l t=e (t++l.map g)
 |[],i,t=>by simp[foldE]
 |x::l,i,t=>by simp only[foldE,sel,foldE_map g e l (i+1),List.map_cons,List.append_assoc,List.singleton_append]
theorem foldE_fold {α τ ρ:Type} (g:τ→α→τ) (e:τ→ρ):∀ (l:List α) (i:Nat) (t:τ),foldE (fun _ x t=>.inl (g t x)) e i l t=e (l.foldl g t)
 |[],i,t=>rfl
 |x::l,i,t=>by simp only[foldE,sel,foldE_fold g e l (i+1),List.foldl_cons]
theorem cond_sel {α β γ:Type} (b:Bool) (x y:α⊕β) (f:α→γ) (g:β→γ):sel (cond b x y) f g=cond b (sel x f g) (sel y f g):=by cases b<;>rfl
theorem some_cond {α:Type} (b:Bool) (x y:α):some (cond b x y)=cond b (some x) (some y):=by cases b<;>rfl
theorem cond_bind {α β:Type} (b:Bool) (x y:Option α) (f:α→Option β):(cond b x y).bind f=cond b (x.bind f) (y.bind f):=by cases b<;>rfl
theorem getD_lt {α:Type} {l:List α} {i:Nat} (d:α) (h:i<l.length):l.getD i d=l[i]:=by simp[List.getD,h]
theorem toNat_cast (i:Nat):((i:Int)).toNat=i:=Int.toNat_natCast i
theorem inB_lt {i n:Nat} (h:i<n):inB (i:Int) n=true:=inB_ok (by omega) (by omega)
theorem cond_tt {α:Type} (x y:α):cond true x y=x:=rfl
theorem cond_ff {α:Type} (x y:α):cond false x y=y:=rfl
theorem cond_same {α:Type} (b:Bool) (x:α):cond b x x=x:=by cases b<;>rfl
theorem sel_inl {α β γ:Type} (a:α) (f:α→γ) (g:β→γ):sel (.inl a) f g=f a:=rfl
theorem sel_inr {α β γ:Type} (a:β) (f:α→γ) (g:β→γ):sel (.inr a) f g=g a:=rfl
theorem loop_first {α:Type} (l:List α) {f:Int→Option (Int⊕(Int⊕Unit))} (c:α→Int)
  (hs:∀ (i:Nat) (h:i<l.length),f (i:Int)=cond (c l[i] != 0) (some (.inr (.inl (c l[i])))) (some (.inl ((i+1:Nat):Int)))) (he:f (l.length:Int)=some (.inr (.inr ()))) :
  loopL f 0=some (cond (firstC c l != 0) (.inl (firstC c l)) (.inr ())):=by
 have h:=loop_list0 (τ:=Unit) l (fun i _=>(i:Int)) (fun _ x _=>cond (c x != 0) (.inr (.inl (c x))) (.inl ())) (fun _=>(.inr ():Int⊕Unit)) (fun i hi t=>by rw[hs i hi];cases (c l[i] != 0)<;>rfl) (fun t=>he) () (s:=0) rfl
 rw[h]
 congr 1
 clear h hs he
 have:∀ (l:List α) (i:Nat),foldE (τ:=Unit) (fun _ x _=>cond (c x != 0) (.inr (.inl (c x))) (.inl ())) (fun _=>(.inr ():Int⊕Unit)) i l ()=cond (firstC c l != 0) (.inl (firstC c l)) (.inr ()):=by
  intro l
  induction l with
  |nil=>intro i;rfl
  |cons x l ih=>
   intro i
   simp only[foldE,firstC]
   cases h:(c x != 0)
   ·simp only[cond_false,sel];exact ih (i+1)
   ·simp only[cond_true,sel,h]
 exact this l 0
theorem loop_any {α ρ:Type} (l:List α) {f:Int→Option (Int⊕(ρ⊕Unit))} (p:α→Bool) (r:ρ)
  (hs:∀ (i:Nat) (h:i<l.length),f (i:Int)=cond (p l[i]) (some (.inr (.inl r))) (some (.inl ((i+1:Nat):Int)))) (he:f (l.length:Int)=some (.inr (.inr ()))) :
  loopL f 0=some (cond (l.any p) (.inl r) (.inr ())):=by
 have h:=loop_list0 (τ:=Unit) l (fun i _=>(i:Int)) (fun _ x _=>cond (p x) (.inr (.inl r)) (.inl ())) (fun _=>(.inr ():ρ⊕Unit)) (fun i hi t=>by rw[hs i hi];cases (p l[i])<;>rfl) (fun t=>he) () (s:=0) rfl
 rw[h,foldE_any]
def idxF {α:Type} (p:α→Bool):Nat→List α→Option Nat
 |_,[]=>none
 |i,x::l=>cond (p x) (some i) (idxF p (i+1) l)
theorem loop_idx {α:Type} (l:List α) {f:Int→Option (Int⊕(Int⊕Unit))} (p:α→Bool)
  (hs:∀ (i:Nat) (h:i<l.length),f (i:Int)=cond (p l[i]) (some (.inr (.inl (i:Int)))) (some (.inl ((i+1:Nat):Int)))) (he:f (l.length:Int)=some (.inr (.inr ()))) (n:Nat) (hn:n≤l.length) :
  loopL f (n:Int)=some (match idxF p n (l.drop n) with | some j=>.inl (j:Int) | none=>.inr ()):=by
 have h:=loop_list (τ:=Unit) l (fun i _=>(i:Int)) (fun i x _=>cond (p x) (.inr (.inl (i:Int))) (.inl ())) (fun _=>(.inr ():Int⊕Unit)) (fun i hi t=>by rw[hs i hi];cases (p l[i])<;>rfl) (fun t=>he) (l.length-n) n () (by omega)
 rw[h]
 congr 1
 clear h hs he
 have:∀ (l:List α) (i:Nat),foldE (τ:=Unit) (fun i x _=>cond (p x) (.inr (.inl (i:Int))) (.inl ())) (fun _=>(.inr ():Int⊕Unit)) i l ()=(match idxF p i l with | some j=>.inl (j:Int) | none=>.inr ()):=by
  intro l
  induction l with
  |nil=>intro i;rfl
  |cons x l ih=>
   intro i
   simp only[foldE,idxF]
   cases h:(p x)
   ·simp only[cond_false,sel];exact ih (i+1)
   ·simp only[cond_true,sel]
 exact this _ _
theorem idxF_none {α:Type} {p:α→Bool}:∀ {l:List α} {i:Nat},idxF p i l=none↔l.any p=false
 |[],i=>by simp[idxF]
 |x::l,i=>by
  simp only[idxF,List.any_cons]
  cases p x
  ·simp only[cond_false,Bool.false_or];exact idxF_none
  ·simp
theorem idxF_some {α:Type} {p:α→Bool}:∀ {l:List α} {i j:Nat},idxF p i l=some j→i≤j∧∃ h:j-i<l.length,p l[j-i]=true∧∀ k (hk:k<j-i),p (l[k]'(by omega))=false
 |[],i,j,h=>by cases h
 |x::l,i,j,h=>by
  simp only[idxF] at h
  cases hp:p x with
  |true=>
   rw[hp] at h;cases h
   refine⟨Nat.le_refl _,by simp,by simpa using hp,fun k hk=>by omega⟩
  |false=>
   rw[hp] at h
   obtain⟨h1,h2,h3,h4⟩:=idxF_some h
   have e:j-i=(j-(i+1))+1:=by omega
   refine⟨by omega,by simp only[List.length_cons];omega,?_,?_⟩
   ·simp only[e,List.getElem_cons_succ];exact h3
   ·intro k hk
    cases k with
    |zero=>simpa using hp
    |succ k=>simp only[List.getElem_cons_succ];exact h4 k (by omega)
theorem loop_fold {α τ ρ:Type} (l:List α) {f:Int×τ→Option ((Int×τ)⊕ρ)} (g:τ→α→τ) (e:τ→ρ)
  (hs:∀ (i:Nat) (h:i<l.length) (t:τ),f ((i:Int),t)=some (.inl (((i+1:Nat):Int),g t l[i]))) (he:∀ t,f ((l.length:Int),t)=some (.inr (e t))) (t:τ) :
  loopL f (0,t)=some (e (l.foldl g t)):=by
 have h:=loop_list0 (τ:=τ) l (fun i t=>((i:Int),t)) (fun _ x t=>.inl (g t x)) e (fun i hi t=>by rw[hs i hi];rfl) he t (s:=(0,t)) rfl
 rw[h,foldE_fold]
theorem loop_foldI {α τ ρ:Type} (l:List α) {f:Int×τ→Option ((Int×τ)⊕ρ)} (g:τ→α→τ) (e:τ→ρ) (I:Nat→τ→Prop)
  (hs:∀ (i:Nat) (h:i<l.length) (t:τ),I i t→f ((i:Int),t)=some (.inl (((i+1:Nat):Int),g t l[i]))∧I (i+1) (g t l[i])) (he:∀ t,I l.length t→f ((l.length:Int),t)=some (.inr (e t))) (t:τ) (h0:I 0 t) :
  loopL f (0,t)=some (e (l.foldl g t)):=by
 have h:=loop_listI0 (τ:=τ) l (fun i t=>((i:Int),t)) (fun _ x t=>.inl (g t x)) e I (fun i hi t h=>by rw[(hs i hi t h).1];rfl) (fun i hi t t' h e=>by cases e;exact(hs i hi t h).2) he t h0 (s:=(0,t)) rfl
 rw[h,foldE_fold]
theorem loop_map {α β ρ:Type} (l:List α) {f:Int×List β→Option ((Int×List β)⊕ρ)} (g:α→β) (e:List β→ρ) (n:Nat)
  (hs:∀ (i:Nat) (h:i<l.length) (t:List β),t.length=n+i→f ((i:Int),t)=some (.inl (((i+1:Nat):Int),t++[g l[i]]))) (he:∀ t,f ((l.length:Int),t)=some (.inr (e t))) (t:List β) (ht:t.length=n) :
  loopL f (0,t)=some (e (t++l.map g)):=by
 rw[loop_foldI l (fun t x=>t++[g x]) e (fun i t=>t.length=n+i) (fun i hi t h=>⟨hs i hi t h,by simp[h];omega⟩) (fun t _=>he t) t (by omega)]
 congr 2
 induction l generalizing t with
 |nil=>simp
 |cons x l ih=>
  have:∀ (l:List α) (t:List β),l.foldl (fun t x=>t++[g x]) t=t++l.map g:=by
   intro l;induction l with
   |nil=>intro t;simp
   |cons y l ih=>intro t;simp[ih]
  exact this _ _
theorem foldl_map {α β:Type} (g:α→β):∀ (l:List α) (t:List β),l.foldl (fun t x=>t++[g x]) t=t++l.map g
 |[],t=>by simp
 |x::l,t=>by simp[foldl_map g l]
theorem loop_mapI {α β ρ:Type} (l:List α) {f:Int×List β→Option ((Int×List β)⊕ρ)} (g:α→β) (e:List β→ρ) (n:Nat)
  (hs:∀ (i:Nat) (h:i<l.length) (t:List β),t.length=n+i→f ((i:Int),t)=some (.inl (((i+1:Nat):Int),t++[g l[i]]))) (he:∀ t,t.length=n+l.length→f ((l.length:Int),t)=some (.inr (e t))) (t:List β) (ht:t.length=n) :
  loopL f (0,t)=some (e (t++l.map g)):=by
 rw[loop_foldI l (fun t x=>t++[g x]) e (fun i t=>t.length=n+i) (fun i hi t h=>⟨hs i hi t h,by simp[h];omega⟩) (fun t h=>he t h) t (by omega),foldl_map]
end Mf
namespace Mf
open Go
set_option linter.unusedVariables false
theorem ex_bind {α β:Type} {x:Option α} {f:α→Option β} (h:∃ r,x=some r) (hf:∀ r,∃ q,f r=some q):∃ q,x.bind f=some q:=by
 obtain⟨r,rfl⟩:=h;exact hf r
theorem ex_cond {α:Type} {b:Bool} {x y:Option α} (hx:∃ q,x=some q) (hy:∃ q,y=some q):∃ q,cond b x y=some q:=by
 cases b<;>assumption
theorem ex_cond2 {α β:Type} {b:Bool} {x y:Option (α⊕β)} {P:α→Prop} (hx:(∃ q,x=some (.inl q)∧P q)∨∃ q,x=some (.inr q)) (hy:(∃ q,y=some (.inl q)∧P q)∨∃ q,y=some (.inr q)) :
  (∃ q,cond b x y=some (.inl q)∧P q)∨∃ q,cond b x y=some (.inr q):=by
 cases b<;>assumption
theorem loop_ex {σ ρ τ:Type} {f:σ→Option (σ⊕ρ)} (mk:Nat→τ→σ) (n:Nat)
  (h:∀ i k,i<n→(∃ s,f (mk i k)=some (.inl s)∧∃ k',s=mk (i+1) k')∨∃ r,f (mk i k)=some (.inr r)) (he:∀ k,∃ r,f (mk n k)=some (.inr r)) :
  ∀ (m i:Nat) (k:τ),i+m=n→∃ r,loopL f (mk i k)=some r
 |0,i,k,hi=>by
  have:i=n:=by omega
  subst this
  obtain⟨r,hr⟩:=he k
  exact⟨r,loopL_done hr⟩
 |m+1,i,k,hi=>by
  rcases h i k (by omega) with ⟨s,hs,k',rfl⟩ | ⟨r,hr⟩
  ·rw[loopL_step hs];exact loop_ex mk n h he m (i+1) k' (by omega)
  ·exact⟨r,loopL_done hr⟩
theorem to_list {α:Type} (a:List α) (B:Int×List α→Option ((Int×List α)⊕List α))
  (hs:∀ (i:Nat) (h:i<a.length) (out:List α),out.length=a.length→B ((i:Int),out)=some (.inl (((i+1:Nat):Int),out.set i a[i])))
  (he:∀ out:List α,out.length=a.length→B ((a.length:Int),out)=some (.inr out)) :
  ∀ (k i:Nat) (out:List α),i+k=a.length→out.length=a.length→(∀ j:Nat,j<i→out[j]? = a[j]?)→loopL B ((i:Int),out)=some a
 |0,i,out,h1,h2,h3=>by
  have e:out=a:=List.ext_getElem? (fun j=>by
   by_cases hj:j<i
   ·exact h3 j hj
   ·rw[List.getElem?_eq_none (by omega),List.getElem?_eq_none (by omega)])
  have:i=a.length:=by omega
  subst this
  rw[loopL_done (he out h2),e]
 |k+1,i,out,h1,h2,h3=>by
  have hi:i<a.length:=by omega
  rw[loopL_step (hs i hi out h2)]
  refine to_list a B hs he k (i+1) _ (by omega) (by simp[h2]) (fun j hj=>?_)
  by_cases e:j=i
  ·subst e
   rw[List.getElem?_set_self (by omega),List.getElem?_eq_getElem hi]
  ·rw[List.getElem?_set_ne (fun x=>e x.symm)]
   exact h3 j (by omega)
theorem to_list0 {α:Type} (a:List α) (B:Int×List α→Option ((Int×List α)⊕List α)) (z:α)
  (hs:∀ (i:Nat) (h:i<a.length) (out:List α),out.length=a.length→B ((i:Int),out)=some (.inl (((i+1:Nat):Int),out.set i a[i])))
  (he:∀ out:List α,out.length=a.length→B ((a.length:Int),out)=some (.inr out)):loopL B (0,List.replicate (a.length:Int).toNat z)=some a:=by
 have:=to_list a B hs he a.length 0 (List.replicate (a.length:Int).toNat z) (by omega) (by simp) (fun j hj=>by omega)
 simpa using this
theorem eq_list {n:Nat} (B:Int→Option (Int⊕(Bool⊕Unit))) (hs:∀ i:Nat,i<n→B (i:Int)=some (.inl ((i+1:Nat):Int))) (he:B (n:Int)=some (.inr (.inr ()))) :
  ∀ (k i:Nat),i+k=n→loopL B (i:Int)=some (.inr ())
 |0,i,h=>by
  have:i=n:=by omega
  subst this;exact loopL_done he
 |k+1,i,h=>by rw[loopL_step (hs i (by omega))];exact eq_list B hs he k (i+1) (by omega)
theorem eq_list0 {n:Nat} (B:Int→Option (Int⊕(Bool⊕Unit))) (hs:∀ i:Nat,i<n→B (i:Int)=some (.inl ((i+1:Nat):Int))) (he:B (n:Int)=some (.inr (.inr ()))):loopL B 0=some (.inr ()):=eq_list B hs he n 0 (by omega)
def MH {α:Type} (M:α→Int→Option (Int×α)) (H:α→Int→Option Int) (w:Nat) (a:α) (k:Int):Prop:=
 ∃ k' a',k≤k'∧k'≤k+w∧M a k=some (k',a')∧H a' k=some k'
theorem mark_list {α:Type} (w:α→Nat) (N:Int) (MB:Int×Int×List α→Option ((Int×Int×List α)⊕(Int×List α))) (HB:List α→Int×Int→Option ((Int×Int)⊕(Int⊕Int)))
  (he:∀ (k:Int) (a:List α),MB (k,(a.length:Int),a)=some (.inr (k,a))) (heH:∀ (k:Int) (a:List α),HB a (k,(a.length:Int))=some (.inr (.inr k)))
  (hs:∀ (k:Int) (i:Nat) (a:List α) (h:i<a.length),a.length≤2147483648→0≤k→k+w a[i]≤N→w a[i]≤2147483648→
   ∃ k' x',k≤k'∧k'≤k+w a[i]∧MB (k,(i:Int),a)=some (.inl (k',((i+1:Nat):Int),a.set i x'))∧
    ∀ b:List α,b.length=a.length→b[i]? = some x'→HB b (k,(i:Int))=some (.inl (k',((i+1:Nat):Int)))) :
  ∀ (n i:Nat) (k:Int) (a:List α),i+n=a.length→a.length≤2147483648→0≤k→k+((a.drop i).map w).sum≤N→((a.drop i).map w).sum≤2147483648→
   ∃ k' a',k≤k'∧k'≤k+((a.drop i).map w).sum∧a'.length=a.length∧loopL MB (k,(i:Int),a)=some (k',a')∧(∀ j:Nat,j<i→a'[j]? = a[j]?)∧
    ∀ b:List α,b.length=a.length→(∀ j:Nat,i≤j→b[j]? = a'[j]?)→loopL (HB b) (k,(i:Int))=some (.inr k')
 |0,i,k,a,h1,hl,h2,h3,h4=>by
  have:i=a.length:=by omega
  subst this
  refine⟨k,a,by omega,by omega,rfl,loopL_done (he k a),fun _ _=>rfl,fun b hb _=>?_⟩
  rw[←hb];exact loopL_done (heH k b)
 |n+1,i,k,a,h1,hl,h2,h3,h4=>by
  have hi:i<a.length:=by omega
  rw[List.drop_eq_getElem_cons hi,List.map_cons,List.sum_cons] at h3 h4
  obtain⟨k1,x1,e1,e2,e3,e4⟩:=hs k i a hi hl h2 (by omega) (by omega)
  have hd:(a.set i x1).drop (i+1)=a.drop (i+1):=by rw[List.drop_set_of_lt (by omega)]
  obtain⟨k',a',f1,f2,f3,f4,f5,f6⟩:=mark_list w N MB HB he heH hs n (i+1) k1 (a.set i x1) (by simp;omega) (by simpa using hl) (by omega) (by rw[hd];omega) (by rw[hd];omega)
  rw[hd] at f2
  rw[List.length_set] at f3
  refine⟨k',a',by omega,?_,f3,by rw[loopL_step e3];exact f4,fun j hj=>?_,fun b hb h=>?_⟩
  ·rw[List.drop_eq_getElem_cons hi,List.map_cons,List.sum_cons];omega
  ·rw[f5 j (by omega),List.getElem?_set_ne (by omega)]
  ·have hx:b[i]? = some x1:=by rw[h i (Nat.le_refl _),f5 i (by omega),List.getElem?_set_self hi]
   rw[loopL_step (e4 b hb hx)]
   exact f6 b (by rw[List.length_set];exact hb) (fun j hj=>h j (by omega))
theorem mark_list0 {α:Type} (w:α→Nat) (N:Int) (MB:Int×Int×List α→Option ((Int×Int×List α)⊕(Int×List α))) (HB:List α→Int×Int→Option ((Int×Int)⊕(Int⊕Int)))
  (he:∀ (k:Int) (a:List α),MB (k,(a.length:Int),a)=some (.inr (k,a))) (heH:∀ (k:Int) (a:List α),HB a (k,(a.length:Int))=some (.inr (.inr k)))
  (hs:∀ (k:Int) (i:Nat) (a:List α) (h:i<a.length),a.length≤2147483648→0≤k→k+w a[i]≤N→w a[i]≤2147483648→
   ∃ k' x',k≤k'∧k'≤k+w a[i]∧MB (k,(i:Int),a)=some (.inl (k',((i+1:Nat):Int),a.set i x'))∧
    ∀ b:List α,b.length=a.length→b[i]? = some x'→HB b (k,(i:Int))=some (.inl (k',((i+1:Nat):Int))))
  (k:Int) (a:List α) (hl:a.length≤2147483648) (h0:0≤k) (hw:k+(a.map w).sum≤N) (hz:(a.map w).sum≤2147483648) :
   ∃ k' a',k≤k'∧k'≤k+(a.map w).sum∧loopL MB (k,0,a)=some (k',a')∧loopL (HB a') (k,0)=some (.inr k'):=by
 obtain⟨k',a',e1,e2,e3,e4,_,e6⟩:=mark_list w N MB HB he heH hs a.length 0 k a (by omega) hl h0 (by simpa using hw) (by simpa using hz)
 exact⟨k',a',e1,by simpa using e2,e4,e6 a' e3 fun _ _=>rfl⟩
theorem len_sum {α:Type} (w:α→Nat) (h:∀ x,1≤w x):∀ xs:List α,xs.length≤(xs.map w).sum
 |[]=>Nat.le_refl _
 |x::xs=>by have:=len_sum w h xs;have:=h x;simp only[List.map_cons,List.sum_cons,List.length_cons];omega
theorem mem_sum {α:Type} (w:α→Nat):∀ (xs:List α) (i:Nat) (h:i<xs.length),w xs[i]≤(xs.map w).sum
 |[],i,h=>absurd h (Nat.not_lt_zero _)
 |x::xs,0,h=>by simp
 |x::xs,i+1,h=>by
  have:=mem_sum w xs i (by simpa using h)
  simp only[List.getElem_cons_succ,List.map_cons,List.sum_cons];omega
theorem getD_of {α:Type} {b:List α} {i:Nat} {x:α} (d:α) (h:b[i]? = some x):b.getD i d=x:=by simp[List.getD,h]
theorem getElem_set_eq {α:Type} {l:List α} {i:Nat} (x:α) (h:i<l.length):(l.set i x).getD i x=x:=by simp[List.getD,h]
theorem getD_set {α:Type} {l:List α} {i:Nat} (x d:α) (h:i<l.length):(l.set i x).getD i d=x:=by simp[List.getD,h]
theorem w64s {x:Int} (h1:0≤x) (h2:x≤9223372036854775807):w64 x=x:=w64_id (by omega) h2
theorem ex_bind2 {α β γ:Type} {x:Option α} {f:α→Option (β⊕γ)} {P:β→Prop} (h:∃ r,x=some r) (hf:∀ r,(∃ q,f r=some (.inl q)∧P q)∨∃ q,f r=some (.inr q)) :
  (∃ q,x.bind f=some (.inl q)∧P q)∨∃ q,x.bind f=some (.inr q):=by
 obtain⟨r,rfl⟩:=h;exact hf r
def MK {α:Type} (M:α→Int→Option (Int×α)) (w:Nat) (a:α) (k:Int):Prop:=∃ k' a',k≤k'∧k'≤k+w∧M a k=some (k',a')
theorem MH.mk {α:Type} {M:α→Int→Option (Int×α)} {H:α→Int→Option Int} {w:Nat} {a:α} {k:Int} (h:MH M H w a k):MK M w a k:=by
 obtain⟨k',a',h1,h2,h3,_⟩:=h;exact⟨k',a',h1,h2,h3⟩
theorem mark_only {α:Type} (w:α→Nat) (N:Int) (MB:Int×Int×List α→Option ((Int×Int×List α)⊕(Int×List α)))
  (he:∀ (k:Int) (a:List α),MB (k,(a.length:Int),a)=some (.inr (k,a)))
  (hs:∀ (k:Int) (i:Nat) (a:List α) (h:i<a.length),a.length≤2147483648→0≤k→k+w a[i]≤N→w a[i]≤2147483648→
   ∃ k' x',k≤k'∧k'≤k+w a[i]∧MB (k,(i:Int),a)=some (.inl (k',((i+1:Nat):Int),a.set i x'))) :
  ∀ (n i:Nat) (k:Int) (a:List α),i+n=a.length→a.length≤2147483648→0≤k→k+((a.drop i).map w).sum≤N→((a.drop i).map w).sum≤2147483648→
   ∃ k' a',k≤k'∧k'≤k+((a.drop i).map w).sum∧loopL MB (k,(i:Int),a)=some (k',a')
 |0,i,k,a,h1,hl,h2,h3,h4=>by
  have:i=a.length:=by omega
  subst this
  exact⟨k,a,by omega,by omega,loopL_done (he k a)⟩
 |n+1,i,k,a,h1,hl,h2,h3,h4=>by
  have hi:i<a.length:=by omega
  rw[List.drop_eq_getElem_cons hi,List.map_cons,List.sum_cons] at h3 h4
  obtain⟨k1,x1,e1,e2,e3⟩:=hs k i a hi hl h2 (by omega) (by omega)
  have hd:(a.set i x1).drop (i+1)=a.drop (i+1):=by rw[List.drop_set_of_lt (by omega)]
  obtain⟨k',a',f1,f2,f4⟩:=mark_only w N MB he hs n (i+1) k1 (a.set i x1) (by simp;omega) (by simpa using hl) (by omega) (by rw[hd];omega) (by rw[hd];omega)
  rw[hd] at f2
  refine⟨k',a',by omega,?_,by rw[loopL_step e3];exact f4⟩
  rw[List.drop_eq_getElem_cons hi,List.map_cons,List.sum_cons];omega
theorem mark_only0 {α:Type} (w:α→Nat) (N:Int) (MB:Int×Int×List α→Option ((Int×Int×List α)⊕(Int×List α)))
  (he:∀ (k:Int) (a:List α),MB (k,(a.length:Int),a)=some (.inr (k,a)))
  (hs:∀ (k:Int) (i:Nat) (a:List α) (h:i<a.length),a.length≤2147483648→0≤k→k+w a[i]≤N→w a[i]≤2147483648→
   ∃ k' x',k≤k'∧k'≤k+w a[i]∧MB (k,(i:Int),a)=some (.inl (k',((i+1:Nat):Int),a.set i x')))
  (k:Int) (a:List α) (hl:a.length≤2147483648) (h0:0≤k) (hw:k+(a.map w).sum≤N) (hz:(a.map w).sum≤2147483648):∃ k' a',k≤k'∧k'≤k+(a.map w).sum∧loopL MB (k,0,a)=some (k',a'):=by
 obtain⟨k',a',e1,e2,e3⟩:=mark_only w N MB he hs a.length 0 k a (by omega) hl h0 (by simpa using hw) (by simpa using hz)
 exact⟨k',a',e1,by simpa using e2,e3⟩
theorem ex_some {α:Type} (x:α):∃ q,some x=some q:=⟨x,rfl⟩
theorem ex_inl {σ τ ρ:Type} (mk:τ→σ) (x:τ):(∃ s,some (Sum.inl (mk x):σ⊕ρ)=some (.inl s)∧∃ k',s=mk k')∨∃ r,some (Sum.inl (mk x):σ⊕ρ)=some (.inr r):=.inl ⟨_,rfl,_,rfl⟩
theorem ex_inr {σ ρ:Type} {P:σ→Prop} (r:ρ):(∃ s,some (Sum.inr r:σ⊕ρ)=some (.inl s)∧P s)∨∃ q,some (Sum.inr r:σ⊕ρ)=some (.inr q):=.inr ⟨_,rfl⟩
theorem peta {α β:Type} (p:α×β):(p.1,p.2)=p:=rfl
theorem wt_sl (e:Ty) (xs:List e.El):wt (.sl e) xs=(xs.map (wt e)).sum+1:=rfl
theorem wt_pair (a b:Ty) (x:a.El×b.El):wt (.pair a b) x=wt a x.1+wt b x.2:=rfl
theorem wt_int (k:IntKind) (x:Int):wt (.int k) x=1:=rfl
theorem wt_bool (x:Bool):wt .bool x=1:=rfl
theorem wt_str (x:List UInt8):wt .str x=x.length+1:=rfl
theorem wt_unit (x:Unit):wt .unit x=0:=rfl
theorem neg_dec {k:Int} (h:0≤k):decide (k<0)=false:=by simp;omega
theorem bne_self (x:Int):(x != x)=false:=by simp
theorem beq_selfS (x:List UInt8):(x == x)=true:=by simp
theorem beq_selfB (x:Bool):(x == x)=true:=by simp
def Bd:(t:Ty)→t.El→Prop
 |.int _,_ | .bool,_ | .unit,_=>True
 |.str,x=>(x:List UInt8).length≤2147483648
 |.pair a b,x=>Bd a x.1∧Bd b x.2
 |.sl e,xs=>(xs:List e.El).length≤2147483648∧∀ x∈(xs:List e.El),Bd e x
 |.arr _ e,xs=>(xs:List e.El).length≤2147483648∧∀ x∈(xs:List e.El),Bd e x
def posT:Ty→Bool
 |.int _ | .bool | .str | .sl _=>true
 |.unit | .arr _ _=>false
 |.pair a b=>posT a || posT b
def okT:Ty→Bool
 |.int _ | .bool | .str | .unit=>true
 |.sl e=>posT e&&okT e
 |.arr _ e=>posT e&&okT e
 |.pair a b=>okT a&&okT b
theorem wt_pos:∀ {t:Ty},posT t=true→∀ x:t.El,1≤wt t x
 |.int _,_,x | .bool,_,x=>Nat.le_refl 1
 |.str,_,x=>by simp only[wt_str];omega
 |.sl e,_,x=>by simp only[wt_sl];omega
 |.unit,h,x | .arr _ _,h,x=>by cases h
 |.pair a b,h,x=>by
  simp only[posT,Bool.or_eq_true] at h
  simp only[wt_pair]
  rcases h with h | h
  ·have:=wt_pos h x.1;omega
  ·have:=wt_pos h x.2;omega
theorem mem_sum' {α:Type} (w:α→Nat) {x:α}:∀ {xs:List α},x∈xs→w x≤(xs.map w).sum
 |y::xs,h=>by
  simp only[List.map_cons,List.sum_cons]
  rcases List.mem_cons.1 h with rfl | h
  ·omega
  ·have:=mem_sum' w h;omega
theorem Bd_of:∀ {t:Ty},okT t=true→∀ {x:t.El},wt t x≤2147483648→Bd t x
 |.int _,_,x,_ | .bool,_,x,_ | .unit,_,x,_=>trivial
 |.str,_,x,h=>by rw[wt_str] at h;show x.length≤_;omega
 |.pair a b,ht,x,h=>by
  simp only[okT,Bool.and_eq_true] at ht
  simp only[wt_pair] at h
  exact⟨Bd_of ht.1 (by omega),Bd_of ht.2 (by omega)⟩
 |.sl e,ht,xs,h=>by
  simp only[okT,Bool.and_eq_true] at ht
  simp only[wt_sl] at h
  have:=len_sum (wt e) (wt_pos ht.1) xs
  exact⟨by omega,fun x hx=>Bd_of ht.2 (by have:=mem_sum' (wt e) hx;omega)⟩
 |.arr _ e,ht,xs,h=>by
  simp only[okT,Bool.and_eq_true] at ht
  have h:(List.map (wt e) xs).sum≤2147483648:=h
  have:=len_sum (wt e) (wt_pos ht.1) xs
  exact⟨by omega,fun x hx=>Bd_of ht.2 (by have:=mem_sum' (wt e) hx;omega)⟩
theorem sum_leB {α:Type} (w:α→Nat) (B:Nat):∀ {xs:List α},(∀ x∈xs,w x≤B)→(xs.map w).sum≤xs.length*B
 |[],h=>by simp
 |y::xs,h=>by
  have:=sum_leB w B (xs:=xs) fun x hx=>h x (List.mem_cons_of_mem _ hx)
  have:=h y (List.mem_cons_self ..)
  simp only[List.map_cons,List.sum_cons,List.length_cons,Nat.add_mul];omega
end Mf
namespace Mf
open Go
def cloneP {α:Type} (xs:List α):Option (List α):=cond (decide (xs.length≤2147483648)) (some xs) none
def sortP (xs:List Int):Option (List Int):=cond (decide (xs.length≤2147483648)) (some (xs.mergeSort fun x y=>decide (x≤y))) none
def lastIx (ps:List (Int×List Int×Unit)) (at_:Int):Nat→Option Nat
 |0=>none
 |k+1=>if (ps.getD k (0,[],())).1=at_ then some k else lastIx ps at_ k
def blockP (d:List (List Int)×List (Int×List Int×Unit)×Unit) (at_:Int):Option (List Int):=
 cond (decide (d.2.1.length≤2147483648)) (match lastIx d.2.1 at_ d.2.1.length with
  |some j=>some (d.2.1.getD j (0,[],())).2.1
  |none=>cond (inB at_ d.1.length) (some (d.1.getD at_.toNat [])) none) none
def clonePutsP (l:List (Int×List Int×Unit)):Option (List (Int×List Int×Unit)):=cond (decide (l.length≤2147483648)&&l.all (fun x=>decide (x.2.1.length≤2147483648))) (some l) none
def toStep (p:Int×List Int×Unit):Bool×Int×List Int×Unit:=(false,p.1,p.2.1,())
def putStepsP (l:List (Int×List Int×Unit)):Option (List (Bool×Int×List Int×Unit)):=cond (decide (l.length≤1048576)&&l.all (fun x=>decide (x.2.1.length≤2147483648))) (some (l.map toStep)) none
def movedF (bs:List (List Int)) (ps:List (Int×List Int×Unit)) (pick:Nat→Bool):Nat→List (List Int)
 |0=>bs
 |k+1=>if pick k=true then(movedF bs ps pick k).set (ps.getD k (0,[],())).1.toNat (ps.getD k (0,[],())).2.1 else movedF bs ps pick k
def flushP (d:(List (List Int)×List (Int×List Int×Unit)×Unit)):Option (List (List Int)×List (Int×List Int×Unit)×Unit):=cond (decide (d.2.1.length≤1152921504606846976)&&d.2.1.all (fun p=>inB p.1 d.1.length)) (some (movedF d.1 d.2.1 (fun _=>true) d.2.1.length,[],())) none
def crashP (d:(List (List Int)×List (Int×List Int×Unit)×Unit)) (picks:List Bool):Option (List (List Int)×List (Int×List Int×Unit)×Unit):=cond (decide (d.2.1.length≤1152921504606846976)&&d.2.1.all (fun p=>inB p.1 d.1.length)) (some (movedF d.1 d.2.1 (fun k=>picks.getD k false) d.2.1.length,[],())) none
end Mf
namespace Mf
open Go
set_option linter.unusedVariables false
set_option linter.unusedSimpArgs false
variable {Z:W0} {S:St} {C:Cx} {w w':World} {a:Act}
variable {P:Program} {tb:Tb} {np nt:Nat} {G:Gam}
theorem wanted_none {ops:Array Oper} {o:Oper} (g:o.guard=none):Region.wanted o (yielded ops a.tmps)=true:=by
 unfold Region.wanted;rw[g]
theorem done_at {o:Oper} {u:Value} {K:Act→World→Prop} {Q:Exit→Act→World→Prop} (h:(execOp a.eval o).run P w=.ok (.value u) w) (hK:K (a.put o.dst u) w):o.wp P a w K Q:=by
 unfold Oper.wp;rw[h];exact hK
theorem wp_nilcmp {id:Nat} {o1 o2:Oper} {t t' et:TypeId} {e:Ty} {xs:List e.El} {d0 d1 d2:Nat}
  (h1:o1.op=.move (.tmp d0)) (e1:o1.dst=some d1) (g1:o1.guard=none)
  (h2:o2.op=.binOp .eql t (.tmp d1) (.const (.slice none 0 0)) t') (e2:o2.dst=some d2) (g2:o2.guard=none)
  (hu:P.underlying t=some (.slice et)) (I:Inv Z S C a w) (hS:NoGd S) (hd1:d1<Z.nt) (hd2:d2<Z.nt) (hx:lk d0 S.tm=some (.cl .sh (.sl e) xs)) {Q:Exit→Act→World→Prop}
  (hQ:∀ a' (b:Bool),(b=true→xs=[])→Inv Z ((S.ap ⟨[(d1,.cl .sh (.sl e) xs)],[],[]⟩).ap ⟨[(d2,.cl .sh .bool b)],[],[]⟩) C a' w→Q .normal a' w) :
  (Code.region id #[o1,o2] false).wp P Q a w:=by
 have hv:ValOk w (Mt Z C S.root noB) C.L S.root (.cl .sh (.sl e) xs) (a.tmps.getD d0 undef):=I.tm d0 _ hx
 obtain⟨A,c,hval⟩:=hv.sl
 have hA:A=none→xs=[]:=by
  intro hn
  obtain⟨A',c',hc,hle,hne⟩:=(hv.1:Rep _ _ (.sl e) .sh xs _ _)
  rw[hval] at hc
  have:some (Value.slice A xs.length c)=some (.slice A' xs.length c'):=hc
  cases this
  by_cases hxs:xs=[]
  ·exact hxs
  ·obtain⟨b,off,h,_⟩:=hne hxs;rw[hn] at h;cases h
 refine wp_region ?_
 show wpOps P #[o1,o2] Q [0,1] a w
 rw[wpOps_cons]
 refine wpOp_do (o:=o1) rfl (wanted_none g1) (done_at (u:=a.tmps.getD d0 undef) (by simp[execOp,h1,Act.eval]) ?_)
 have I1:Inv Z (S.ap ⟨[(d1,.cl .sh (.sl e) xs)],[],[]⟩) C (a.put o1.dst (a.tmps.getD d0 undef)) w:=by
  rw[e1]
  exact I.slot (fun i t b x h=>absurd h (hS i t b x)) hd1 (VOk.tm (v:=.cl .sh (.sl e) xs) hv _)
 have hval1:(a.put o1.dst (a.tmps.getD d0 undef)).eval (.tmp d1)=.slice A xs.length c:=by
  have:=I1.tm d1 (.cl .sh (.sl e) xs) (by simp[St.ap,killTm,lk])
  rw[e1,Act.put]
  simp only[Act.eval]
  rw[←hval]
  have hts:=I.ts
  simp[Array.getD,hts,hd1]
 generalize hS1:(S.ap ⟨[(d1,.cl .sh (.sl e) xs)],[],[]⟩)=S1 at I1 hQ
 generalize ha1:a.put o1.dst (a.tmps.getD d0 undef)=a1 at I1 hval1
 rw[wpOps_cons]
 have hS1n:NoGd S1:=by
  rw[←hS1]
  intro s t b v hv
  rw[tm_ap] at hv
  simp only at hv
  by_cases es:s=d1
  ·subst es;rw[lk_cons_eq] at hv;cases hv
  ·rw[lk_cons_ne es] at hv
   simp only[lk] at hv
   cases hl:lk s S.tm with
   |none=>rw[hl] at hv;cases hv
   |some v0=>
    rw[hl] at hv
    simp only[Option.map_some,Option.some.injEq] at hv
    obtain⟨u',rfl⟩:=killTm_gd hv
    exact hS s t b u' hl
 refine wpOp_do (o:=o2) rfl (wanted_none g2) (done_at (u:=.bool A.isNone) ?_ ?_)
 ·have hq:=Lib.run_eql_slice_nil (P:=P) w t et A xs.length c 0 0 hu
  have hg:(eqGuard .eql t (.tmp d1) (.const (.slice none 0 0)) (.slice A xs.length c) (.slice none 0 0)).run P w=.ok () w:=by unfold eqGuard;rfl
  have hc:a1.eval (.const (.slice none 0 0))=.slice none 0 0:=rfl
  simp only[execOp,h2,hval1,hc,Sem.run_bind,hg,Result.andThen_ok,hq]
  rfl
 ·show Q .normal _ w
  refine hQ _ A.isNone (fun h=>hA (by simpa using h)) ?_
  rw[e2]
  exact I1.slot (fun i t b x h=>absurd h (hS1n i t b x)) hd2 (VOk.tm (v:=.cl .sh .bool A.isNone) (ValOk.mkbool _ _) _)
end Mf
namespace Mf
open Go
set_option linter.unusedVariables false
set_option linter.unusedSimpArgs false
variable {Z:W0} {S:St} {C:Cx} {w w':World} {a:Act}
variable {P:Program} {tb:Tb} {G:Gam} {L:Lam} {hn:Hint}
def cloneSp (e:Ty):SP:=⟨[(0,.cl .sh (.sl e))],[]⟩
def cloneRet (o:Ow) (e:Ty) (xs:List e.El):St:=⟨[(2,.seg 2 [])],[(2,some ⟨.reg,.cl o (.sl e) xs⟩)]⟩
def cloneS1 (o:Ow) (e:Ty) (xs:List e.El):St:=⟨[(2,.seg 2 []),(0,.cl .sh (.sl e) xs)],[(2,some ⟨.reg,.cl o (.sl e) []⟩)]⟩
def cloneS2 (o:Ow) (e:Ty) (xs:List e.El) (b:Bool):St:=(((cloneS1 o e xs).ap ⟨[(3,.cl .sh (.sl e) xs)],[],[]⟩).ap ⟨[(4,.cl .sh .bool b)],[],[]⟩).is 4 b
def cloneF (o:Ow) (e:Ty) (x:(cloneSp e).El) (R:Type) (k:Ex→St→Option R):Option R:=cond (decide (x.1.1.length≤2147483648)) (k .rt (cloneRet o e x.1.1)) none
theorem clone_code (ht:TbOk P tb) (hG:GOk P G) (hm:P.follows .mixedOrders=true) {o:Ow} {e:Ty} {R0 R2 R3:Code} {i1:Nat} {o1 o2:Oper} {t t' et:TypeId}
  (h1:o1.op=.move (.tmp 0)) (e1:o1.dst=some 3) (g1:o1.guard=none)
  (h2:o2.op=.binOp .eql t (.tmp 3) (.const (.slice none 0 0)) t') (e2:o2.dst=some 4) (g2:o2.guard=none) (hu:P.underlying t=some (.slice et))
  (E0:∀ xs:List e.El,ev tb hn 8 1 G (mkL []) R0 .no ⟨[(0,.cl .sh (.sl e) xs)],[]⟩ (fun e S=>some (e,S))=some (.nm,cloneS1 o e xs))
  (E2:∀ xs:List e.El,ev tb hn 8 1 G (mkL []) R2 .no (cloneS2 o e xs true) (fun e S=>some (e,S.keep [2] [2]))=some (.rt,cloneRet o e []))
  (E3:∀ xs:List e.El,ev tb hn 8 1 G (mkL []) R3 .no (cloneS2 o e xs false) (fun e S=>some (e,S.keep [2] [2]))=cond (decide (xs.length≤2147483648)) (some (.rt,cloneRet o e xs)) none) :
  CodeOk P 8 1 (R0.seq (((Code.region i1 #[o1,o2] false).seq (.cond (.tmp 4) R2 .skip)).seq R3)) (mkFrag (cloneSp e) (cloneF o e)):=by
 intro S R k r hS he
 unfold mkFrag at he
 split at he
 ·rename_i x hx
  simp only[cloneF] at he
  cases hl:decide (x.1.1.length≤2147483648) with
  |false=>rw[hl] at he;cases he
  |true=>
   rw[hl] at he
   have hkeep:=SP.rd_keep (sp:=cloneSp e) rfl hx
   have hret:NoGd (cloneRet o e x.1.1):=by
    intro s t b v hv
    simp only[cloneRet,lk] at hv
    split at hv<;>cases hv
   refine⟨.rt,_,he,hret,fun Z C a w Q hnt hnp I hQ=>?_⟩
   have I0:=I.keep (cloneSp e).tk (cloneSp e).rk
   rw[←hkeep] at I0
   have hN0:NoGd ((cloneSp e).mk' x):=by rw[hkeep];exact hS.keep _ _
   obtain⟨ex,S',q1,q2,q3⟩:=ev_sound (np:=1) (nt:=8) (hn:=hn) (L:=mkL []) ht hG hm R0 .no trivial ((cloneSp e).mk' x) _ _ _ hN0 (E0 x.1.1)
   cases q1
   refine wp_seq (q3 Z C a w _ hnt hnp I0 (fun C a w I1=>?_))
   refine wp_seq (wp_seq (wp_nilcmp h1 e1 g1 h2 e2 g2 hu I1 q2 (by omega) (by omega) (xs:=x.1.1) rfl (fun a' b hb I2=>?_)))
   have hb4:a'.tmps.getD 4 undef=.bool b:=(I2.tm 4 (.cl .sh .bool b) rfl:ValOk _ _ _ _ _ _).bool
   have I3:=I2.is hb4
   have hN3:NoGd (cloneS2 o e x.1.1 b):=by
    have:(cloneS2 o e x.1.1 b).tm=[(4,.kb b),(4,.cl .sh .bool b),(3,.cl .sh (.sl e) x.1.1),(2,.seg 2 []),(0,.cl .sh (.sl e) x.1.1)]:=rfl
    intro s t b' v hv
    rw[this] at hv
    simp only[lk_consU] at hv
    repeat' (split at hv)
    all_goals cases hv
   cases b with
   |true=>
    have hx0:=hb rfl
    obtain⟨ex,S',q1,q2,q3⟩:=ev_sound (np:=1) (nt:=8) (hn:=hn) (L:=mkL []) ht hG hm R2 .no trivial (cloneS2 o e x.1.1 true) _ _ _ hN3 (E2 x.1.1)
    simp only[Option.some.injEq,Prod.mk.injEq] at q1
    obtain⟨rfl,hk⟩:=q1
    refine wp_cond_true hb4 (q3 Z C a' w _ hnt hnp I3 (fun C a w I4=>?_))
    have I5:=I4.keep [2] [2]
    rw[hk] at I5
    refine hQ C a w ?_
    rw[hx0];exact I5
   |false=>
    have hE:=E3 x.1.1
    rw[hl] at hE
    obtain⟨ex,S',q1,q2,q3⟩:=ev_sound (np:=1) (nt:=8) (hn:=hn) (L:=mkL []) ht hG hm R3 .no trivial (cloneS2 o e x.1.1 false) _ _ _ hN3 hE
    simp only[Option.some.injEq,Prod.mk.injEq] at q1
    obtain⟨rfl,hk⟩:=q1
    refine wp_cond_false hb4 (wp_skip ?_)
    refine q3 Z C a' w _ hnt hnp I3 (fun C a w I4=>?_)
    have I5:=I4.keep [2] [2]
    rw[hk] at I5
    exact hQ C a w I5
 ·cases he
def opAt (c:Code) (i:Nat):Oper:=match c with
 |.region _ ops _=>ops.toList.getD i {dst:=none,op:=.move (.tmp 0),type:=0,pos:="",after:=#[],guard:=none }
 |_=>{dst:=none,op:=.move (.tmp 0),type:=0,pos:="",after:=#[],guard:=none }
def idAt (c:Code):Nat:=match c with
 |.region i _ _=>i
 |_=>0
theorem clone_fs (ht:TbOk P tb) (hm:P.follows .mixedOrders=true) {f:FuncId} {fn:Func} (hf:P.funcs[f]? = some fn) (hb:fn.body=some (bodyOf fn)) (hname:(fn.name == "runtime.NumGoroutine")=false) (hnt:fn.ntmps=8) (o:Ow) (e:Ty) (t t' et:TypeId)
  (hbody:bodyOf fn=(codeAt (bodyOf fn) [0]).seq (((Code.region (idAt (codeAt (bodyOf fn) [1,0,0])) #[opAt (codeAt (bodyOf fn) [1,0,0]) 0,opAt (codeAt (bodyOf fn) [1,0,0]) 1] false).seq (.cond (.tmp 4) (codeAt (bodyOf fn) [1,0,1,0]) .skip)).seq (codeAt (bodyOf fn) [1,1])))
  (h1:(opAt (codeAt (bodyOf fn) [1,0,0]) 0).op=.move (.tmp 0)) (e1:(opAt (codeAt (bodyOf fn) [1,0,0]) 0).dst=some 3) (g1:(opAt (codeAt (bodyOf fn) [1,0,0]) 0).guard=none)
  (h2:(opAt (codeAt (bodyOf fn) [1,0,0]) 1).op=.binOp .eql t (.tmp 3) (.const (.slice none 0 0)) t') (e2:(opAt (codeAt (bodyOf fn) [1,0,0]) 1).dst=some 4) (g2:(opAt (codeAt (bodyOf fn) [1,0,0]) 1).guard=none) (hu:P.underlying t=some (.slice et))
  (E0:∀ xs:List e.El,ev tb hn 8 1 (mkG []) (mkL []) (codeAt (bodyOf fn) [0]) .no ⟨[(0,.cl .sh (.sl e) xs)],[]⟩ (fun e S=>some (e,S))=some (.nm,cloneS1 o e xs))
  (E2:∀ xs:List e.El,ev tb hn 8 1 (mkG []) (mkL []) (codeAt (bodyOf fn) [1,0,1,0]) .no (cloneS2 o e xs true) (fun e S=>some (e,S.keep [2] [2]))=some (.rt,cloneRet o e []))
  (E3:∀ xs:List e.El,ev tb hn 8 1 (mkG []) (mkL []) (codeAt (bodyOf fn) [1,1]) .no (cloneS2 o e xs false) (fun e S=>some (e,S.keep [2] [2]))=cond (decide (xs.length≤2147483648)) (some (.rt,cloneRet o e xs)) none)
  (hfin:∀ x:PT.Els [.cl .sh (.sl e)],mkFrag (cloneSp e) (cloneF o e) (initSt (PT.mks [.cl .sh (.sl e)] x)) Out (kfin tb hn fn [.sh])=cond (decide (x.1.length≤2147483648)) (some ⟨[.cl o (.sl e) x.1],[]⟩) none) :
  FsOk P f (mkFS [.sh] [.cl .sh (.sl e)] (fun x=>cloneP x.1) fun y=>⟨[.cl o (.sl e) y],[]⟩):=by
 refine fs_ok (fn:=fn) (hn:=hn) (E:=mkFrag (cloneSp e) (cloneF o e)) ht hf hb hname ?_ rfl (by rw[hnt];rfl) fun x=>?_
 ·rw[hnt,hbody];exact clone_code ht GOk.nil hm h1 e1 g1 h2 e2 g2 hu E0 E2 E3
 ·rw[hfin,cloneP,cond_map]
  rfl
end Mf
namespace Mf
open Go Go.Sort
set_option linter.unusedVariables false
set_option linter.unusedSimpArgs false
variable {Z:W0} {S:St} {C:Cx} {w w':World} {a:Act}
variable {P:Program} {tb:Tb} {np nt:Nat}
theorem same_putRow {α:Type} (enc:α→Value) [Inhabited α] (w:World) (b off:Nat) (d:Array α) (b':Nat) (h:b'≠b):Same w (putRow enc w b off d) b':=by
 unfold Same putRow mapBlock
 simp only[Array.getElem?_modify]
 rw[if_neg (fun e=>h e.symm)]
theorem rep_ints {M:BSet} {xs:List Int} {b off:Nat} (hc:∀ i (h:i<xs.length),w.cell? ⟨b,off+i,none⟩=some (.int .i64 xs[i])) (i:Nat) (h:i<xs.length):Rep w M (.int .i64) (Ow.deep.elem) (xs[i]'h) (.mem b (off+i*(Ty.int .i64).size)) noB:=by
 show(Src.mem b (off+i*1)).cell w 0=_
 simp only[Src.cell,Nat.mul_one,Nat.add_zero]
 exact hc i h
theorem sort_cout {f:FuncId} (hthere:FnThere P f)
  (hC:∀ (blk off cap:Nat) (zs:List Int) (w:World),Holds (Value.int .i64) w blk off zs.toArray→blk<w.heap.size→zs.length<4611686018427387904→Calls P f #[.slice (some ⟨blk,off,none⟩) zs.length cap] w fun e w'=>
   e=.returned (.tuple #[])∧∃ n os,w'=grow (putRow (Value.int .i64) (Sort.ahead w n) blk off (zs.mergeSort fun x y=>decide (x≤y)).toArray) os)
  (hN:∀ (p:Option Addr) (cap:Nat) (w:World),Calls P f #[.slice p 0 cap] w fun e w'=>e=.returned (.tuple #[])∧w'=w) (xs:List Int) (hlen:xs.length≤2147483648) :
  COut P f [.mu] [.cl .deep (.sl (.int .i64)) xs] ⟨[],[.cl .deep (.sl (.int .i64)) (xs.mergeSort fun x y=>decide (x≤y))]⟩ where
 there:=hthere
 calls:=by
  intro Z C us hl hnt hP1 hP2 I
  have hus:us.size=1:=hl
  have hR:(initSt [.cl .deep (.sl (.int .i64)) xs]).root 0=some ⟨.reg,.cl .deep (.sl (.int .i64)) xs⟩:=rfl
  have hR':∀ r R,(initSt [.cl .deep (.sl (.int .i64)) xs]).root r=some R→r=0∧R=⟨.reg,.cl .deep (.sl (.int .i64)) xs⟩:=by
   intro r R h
   by_cases e:r=0
   ·subst e;rw[hR] at h;refine And.intro rfl ?_;cases h;rfl
   ·exfalso
    have:(initSt [.cl .deep (.sl (.int .i64)) xs]).root r=none:=by
     rw[initSt_root,List.getElem?_eq_none (by simp;omega)];rfl
    rw[this] at h;cases h
  obtain⟨cs,hcs⟩:=I.str.reg 0 _ hR rfl
  obtain⟨A,c,h1,h2,h3⟩:=(I.str.rep 0 _ hR:Rep Z.w _ (.sl (.int .i64)) .deep xs (C.L 0) (C.F 0))
  have hu:us[0]? = some (.slice A xs.length c):=by
   have ht:ValOk _ _ _ _ (.seg 0 []) ((⟨us,[]⟩:Act).tmps.getD 0 undef):=I.tm 0 (.seg 0 []) rfl
   obtain⟨u,e1,R,s,o,e,ys,q1,q2,q3,q4,A',n',c',q5⟩:=ht.1
   rw[hR] at q1;cases q1
   rw[nav_nil] at q2;cases q2
   rw[h1] at q4;cases q4
   have hagg:¬ ∃ cs,us.getD 0 undef=.agg cs:=fun h=>by
    have:=ht.2.2.2 h;cases this
   have hone:=one_of hagg
   simp only[Src.cell,hone] at e1
   have:us.getD 0 undef=.slice A xs.length c:=by simpa using e1
   have h0:0<us.size:=by omega
   simp[Array.getD,h0] at this
   rw[Array.getElem?_eq_getElem h0,this]
  have hus2:us=#[.slice A xs.length c]:=by
   apply Array.ext (by simp[hus])
   intro i h4 h5
   have:i=0:=by omega
   subst this
   rw[Array.getElem?_eq_getElem h4] at hu
   simpa using hu
  rw[hus2]
  have S0:Str Z (fun _ _=>False) C noB (initSt [.cl .deep (.sl (.int .i64)) xs]).root Z.w:=by
   have hs:=I.str
   refine {hs with rep:=?_ }
   intro r R h
   obtain⟨rfl,rfl⟩:=hR' r R h
   exact hs.rep 0 _ hR
  have fin:∀ (w':World) (ρ:Roots) (ys:List Int),Str Z (fun _ _=>False) C noB ρ w'→ρ 0=some ⟨.reg,.cl .deep (.sl (.int .i64)) ys⟩→RetOk Z [.mu] ⟨[],[.cl .deep (.sl (.int .i64)) ys]⟩ (.tuple #[]) w':=by
   intro w' ρ ys hS hρ
   exact⟨C,noB,ρ,noB,hS.lf (fun _ _ h=>h.elim),⟨⟨_,hρ,rfl⟩,trivial⟩,fun _ h=>h,rfl,rfl,rfl⟩
  by_cases hx:xs=[]
  ·subst hx
   refine(hN A c Z.w).mono fun e w' ⟨he,hw⟩=>?_
   subst he;subst hw
   exact⟨_,rfl,fin _ _ _ S0 (by rw[List.mergeSort_nil];exact hR)⟩
  ·have hpos:0<xs.length:=List.length_pos_iff.2 hx
   obtain⟨b,off,Fs,e1,e2,e3,e4,e5⟩:=h3 (by omega)
   subst e1
   have hcell:∀ i (h:i<xs.length),Z.w.cell? ⟨b,off+i,none⟩=some (.int .i64 xs[i]):=by
    intro i h
    have:=(e4 i h).1
    have h0:(Src.mem b (off+i*1)).cell Z.w 0=some (.int .i64 xs[i]):=this
    simpa [Src.cell] using h0
   have hH:Holds (Value.int .i64) Z.w b off xs.toArray:=by
    intro j hj
    have hj':j<xs.length:=by simpa using hj
    refine⟨by rw[hcell j hj'];simp[hj'],?_⟩
    exact(e3 j (by simp[Ty.size];omega)).2
   have hb:=(I.str.bnd 0 _ b hR e2).1
   refine(hC b off c xs Z.w hH hb (by omega)).mono fun e w' ⟨he,n,os,hw⟩=>?_
   subst he
   refine⟨_,rfl,?_⟩
   generalize hys:(xs.mergeSort fun x y=>decide (x≤y))=ys at hw ⊢
   have hyl:ys.length=xs.length:=by rw[←hys];exact(List.mergeSort_perm _ _).length_eq
   let w2:=putRow (Value.int .i64) (Sort.ahead Z.w n) b off ys.toArray
   have hHa:Holds (Value.int .i64) (Sort.ahead Z.w n) b off xs.toArray:=hH
   have hc2:∀ i (h:i<ys.length),w2.cell? ⟨b,off+i,none⟩=some (.int .i64 ys[i]):=by
    intro i h
    have:=cell?_putRow (Value.int .i64) (Sort.ahead Z.w n) b off xs.toArray ys.toArray hHa (by simp[hyl]) i (by simpa using h)
    rw[this];simp[h]
   have hroom:Room w2 b off (c*(Ty.int .i64).size):=by
    intro i hi
    obtain⟨r1,r2⟩:=e3 i hi
    refine⟨?_,by rw[frozen?_putRow];exact r2⟩
    by_cases h:i<ys.length
    ·rw[hc2 i h];rfl
    ·rw[cell?_putRow_other _ _ _ _ _ _ (.inr (.inr (by simp;omega)))];exact r1
   have hsz:w2.heap.size=Z.w.heap.size:=size_putRow _ _ _ _ _
   have hrep:RepTV w2 (Mt Z C (initSt [.cl .deep (.sl (.int .i64)) xs]).root noB) (fun _ _=>False) (.cl .deep (.sl (.int .i64)) ys) (C.L 0) (C.F 0):=by
    refine⟨some ⟨b,off,none⟩,c,?_,by omega,fun _=>⟨b,off,fun _=>noB,rfl,e2,hroom,fun i hi=>⟨rep_ints hc2 i hi,fun _ h=>h.elim,fun h=>h⟩,fun _ _ _ _ _ h=>h.elim⟩⟩
    rw[hyl]
    rw[hcs] at h1 ⊢
    exact h1
   obtain⟨q1,_⟩:=S0.inside (r:=0) (b0:=b) (w':=w2) (R':=⟨.reg,.cl .deep (.sl (.int .i64)) ys⟩) hR rfl rfl e2 hsz (fun b' hb'=>same_putRow _ (Sort.ahead Z.w n) b off _ b' hb') hrep rfl rfl rfl
    (fun q b1 off1 hn=>by
     cases q with
     |nil=>rw[nav_nil] at hn ⊢;exact hn
     |cons st q=>
      rw[hcs] at hn h1 ⊢
      cases st with
      |el i=>
       have h1':(Src.reg cs 0).cell Z.w 0=some (.slice (some ⟨b,off,none⟩) xs.length c):=h1
       have h1'':(Src.reg cs 0).cell w2 0=some (.slice (some ⟨b,off,none⟩) xs.length c):=h1
       simp only[nav,h1',h1''] at hn ⊢
       rw[hyl]
       split at hn
       ·rename_i hi
        rw[if_pos hi]
        cases q with
        |nil=>rw[nav_nil] at hn ⊢;exact hn
        |cons st q=>cases st<;>simp[nav] at hn
       ·cases hn
      |_=>simp[nav] at hn)
    (fun q s hn o e zs hg=>by
     cases q with
     |nil=>
      rw[nav_nil] at hn;cases hn
      rw[gr_cl,TV.get_nil] at hg;cases hg
      refine⟨nav_nil _ _ _,by rw[hcs];rfl,.deep,ys,gr_of (TV.get_nil _),hyl⟩
     |cons st q=>
      exfalso
      rw[gr_cl] at hg
      cases st with
      |el i=>
       cases q with
       |nil=>simp only[TV.get] at hg;cases hg
       |cons st q=>cases st<;>simp[TV.get] at hg
      |_=>simp[TV.get] at hg)
   obtain⟨q2,_⟩:=q1.hand (w':=grow w2 os) (G':=noB) (by simp) (fun b' hb' _=>heap_grow_old _ _ hb') (fun _ h=>h.elim) rfl rfl rfl
   rw[hw]
   exact fin _ _ _ q2 (Roots.set_eq _ _ _)
theorem sort_fs {f:FuncId} (hthere:FnThere P f)
  (hC:∀ (blk off cap:Nat) (zs:List Int) (w:World),Holds (Value.int .i64) w blk off zs.toArray→blk<w.heap.size→zs.length<4611686018427387904→Calls P f #[.slice (some ⟨blk,off,none⟩) zs.length cap] w fun e w'=>
   e=.returned (.tuple #[])∧∃ n os,w'=grow (putRow (Value.int .i64) (Sort.ahead w n) blk off (zs.mergeSort fun x y=>decide (x≤y)).toArray) os)
  (hN:∀ (p:Option Addr) (cap:Nat) (w:World),Calls P f #[.slice p 0 cap] w fun e w'=>e=.returned (.tuple #[])∧w'=w) :
  FsOk P f (mkFS [.mu] [.cl .deep (.sl (.int .i64))] (fun x=>sortP x.1) fun y=>⟨[],[.cl .deep (.sl (.int .i64)) y]⟩):=by
 intro cs R k r he
 simp only[mkFS] at he
 split at he
 ·rename_i x hx
  have e:=PT.rds_mks hx
  subst e
  simp only[sortP] at he
  cases hl:decide (List.length x.1≤2147483648) with
  |false=>rw[hl] at he;cases he
  |true=>rw[hl] at he;exact⟨_,he,sort_cout hthere hC hN x.1 (by simpa using hl)⟩
 ·cases he
end Mf
namespace Go.Proofs
open Go.RowKit
abbrev Bk.Hd:=Int×Option Addr×Nat×Nat
def Bk.hv (h:Bk.Hd):Value:=.slice h.2.1 h.2.2.1 h.2.2.2
def Bk.enc (x:Int×Bk.Hd):Array Value:=#[.int .i64 x.1,.agg #[.int .i64 x.2.1,Bk.hv x.2]]
def Bk.at_ (len:Nat) (hd:Nat→Bk.Hd) (j:Nat):Int×Bk.Hd:=((len:Int)-1-j,hd (len-1-j))
def Bk.upto (len:Nat) (hd:Nat→Bk.Hd) (k:Nat):List (Int×Bk.Hd):=(List.range k).map (Bk.at_ len hd)
theorem Bk.upto_succ (len:Nat) (hd:Nat→Bk.Hd) (k:Nat):Bk.upto len hd (k+1)=Bk.upto len hd k++[Bk.at_ len hd k]:=by simp[Bk.upto,List.range_succ]
theorem Bk.upto_length (len:Nat) (hd:Nat→Bk.Hd) (k:Nat):(Bk.upto len hd k).length=k:=by simp[Bk.upto]
def Bk.Lies (n₀:Nat) (W:World) (A:Option Addr) (len:Nat) (hd:Nat→Bk.Hd):Prop:=
 0<len→∃ b off,A=some ⟨b,off,none⟩∧b<n₀∧∀ j,j<len→W.cell? ⟨b,off+j*2,none⟩=some (.int .i64 (hd j).1)∧W.cell? ⟨b,off+j*2+1,none⟩=some (Bk.hv (hd j))
theorem Bk.Lies.below {n₀:Nat} {V W:World} (h:Below n₀ V W) {A:Option Addr} {len:Nat} {hd:Nat→Bk.Hd} (hl:Bk.Lies n₀ V A len hd):Bk.Lies n₀ W A len hd:=fun h0=>by
 obtain⟨b,off,h1,h2,h3⟩:=hl h0
 exact⟨b,off,h1,h2,fun j hj=>⟨(h.cell (p:=⟨b,_,none⟩) h2).trans (h3 j hj).1,(h.cell (p:=⟨b,_,none⟩) h2).trans (h3 j hj).2⟩⟩
def Bk.last (hd:Nat→Bk.Hd) (at_:Int):Nat→Option Bk.Hd
 |0=>none
 |k+1=>if (hd k).1=at_ then some (hd k) else Bk.last hd at_ k
theorem Bk.last_upto (len:Nat) (hd:Nat→Bk.Hd) (at_:Int):∀ k,k≤len→(∀ y∈Bk.upto len hd k,y.2.1≠at_)→Bk.last hd at_ len=Bk.last hd at_ (len-k)
 |0,_,_=>rfl
 |k+1,hk,h=>by
  rw[Bk.upto_succ] at h
  rw[Bk.last_upto len hd at_ k (by omega) (fun y hy=>h y (List.mem_append_left _ hy))]
  have h2:=h (Bk.at_ len hd k) (by simp)
  have e:len-k=(len-(k+1))+1:=by omega
  have e2:len-1-k=len-(k+1):=by omega
  simp only[Bk.at_,e2] at h2
  rw[e,Bk.last,if_neg h2]
end Go.Proofs
namespace Mf
open Go Go.RowKit Go.Proofs
set_option linter.unusedVariables false
set_option linter.unusedSimpArgs false
variable {P:Program} {Z:W0}
abbrev tPutB:Ty:=.pair (.int .i64) (.pair (.sl (.int .i64)) .unit)
abbrev tDiskB:Ty:=.pair (.sl (.sl (.int .i64))) (.pair (.sl tPutB) .unit)
theorem lastIx_lt {ps:List (Int×List Int×Unit)} {at_:Int}:∀ {k j:Nat},lastIx ps at_ k=some j→j<k
 |k+1,j,h=>by
  unfold lastIx at h
  split at h
  ·cases h;omega
  ·exact Nat.lt_succ_of_lt (lastIx_lt h)
theorem last_ix {ps:List (Int×List Int×Unit)} {hd:Nat→Bk.Hd} {at_:Int}:∀ (k:Nat),(∀ j,j<k→(hd j).1=(ps.getD j (0,[],())).1)→Bk.last hd at_ k=(lastIx ps at_ k).map hd
 |0,_=>rfl
 |k+1,h=>by
  simp only[Bk.last,lastIx,h k (by omega)]
  split
  ·rfl
  ·exact last_ix k (fun j hj=>h j (by omega))
theorem str_below {Lf:TV→Value→Prop} {C:Cx} {w':World} (h:Below Z.w.heap.size Z.w w') (hx:∀ b,Z.X b→b<Z.w.heap.size) (hk:∀ b i,Z.K b i→b<Z.w.heap.size):Str Z Lf C noB (fun _=>none) w' where
 rep:=fun _ _ h=>by cases h
 reg:=fun _ _ h=>by cases h
 mem:=fun _ _ h=>by cases h
 bnd:=fun _ _ _ h=>by cases h
 gbnd:=fun _ h=>h.elim
 dis:=fun _ _ _ _ _ h=>by cases h
 gdis:=fun _ _ h=>by cases h
 plc:=fun _ _ h=>by cases h
 sz:=h.size
 old:=fun b hb _=>h.block b hb
 kp:=fun b i hh=>h.cell (p:=⟨b,i,none⟩) (hk b i hh)
 kf:=fun b i j hh=>h.frozen (p:=⟨b,j,none⟩) (hk b i hh)
 xb:=hx
 kb:=hk
 os:=h.os
 tape:=h.tape
 output:=h.output
theorem block_cout {f:FuncId} (hthere:FnThere P f)
  (hC:∀ (bd od:Nat) (at_:Int) (A C:Option Addr) (nB cB nC cC:Nat) (hd:Nat→Bk.Hd) (w:World) (v:Bk.Hd),bd<w.heap.size→w.cell? ⟨bd,od,none⟩=some (.slice A nB cB)→w.cell? ⟨bd,od+1,none⟩=some (.slice C nC cC)→
   nC≤1152921504606846976→Bk.Lies w.heap.size w C nC hd→
   (Bk.last hd at_ nC=none→∃ bB oB,A=some ⟨bB,oB,none⟩∧bB<w.heap.size∧0≤at_∧at_<nB∧w.cell? ⟨bB,oB+at_.toNat,none⟩=some (Bk.hv v))→
   Calls P f #[.pointer (some ⟨bd,od,none⟩),.int .i64 at_] w fun e W'=>e=.returned (Bk.hv ((Bk.last hd at_ nC).getD v))∧Below w.heap.size w W')
  (d:tDiskB.El) (at_:Int) (r:List Int) (hr:blockP d at_=some r) :
  COut P f [.sh,.sh] [.pt tDiskB d,.cl .sh (.int .i64) at_] ⟨[.cl .sh (.sl (.int .i64)) r],[]⟩ where
 there:=hthere
 calls:=by
  intro Z C us hl hnt hP1 hP2 I
  obtain⟨bs,ps,_⟩:=d
  have hus:us.size=2:=hl
  have hroot:(initSt [.pt tDiskB (bs,ps,()),.cl .sh (.int .i64) at_]).root=fun _=>none:=by
   funext r;rw[initSt_root];match r with | 0=>rfl | 1=>rfl | n+2=>rfl
  have h0:ValOk _ _ _ _ (.pt tDiskB (bs,ps,())) ((⟨us,[]⟩:Act).tmps.getD 0 undef):=I.tm 0 (.pt tDiskB (bs,ps,())) rfl
  have h1:ValOk _ _ _ _ (.cl .sh (.int .i64) at_) ((⟨us,[]⟩:Act).tmps.getD 1 undef):=I.tm 1 (.cl .sh (.int .i64) at_) rfl
  have e1:=h1.int
  obtain⟨bd,od,e0,hM,hbd,hrep⟩:=h0.leaf rfl
  obtain⟨F1,F2,hb,⟨F3,F4,hp,-⟩,-⟩:=hrep
  obtain⟨A,cB,a1,a2,a3⟩:=hb
  obtain⟨Cc,cC,c1,c2,c3⟩:=hp
  have hus2:us=#[.pointer (some ⟨bd,od,none⟩),.int .i64 at_]:=by
   apply Array.ext (by simp[hus])
   intro i h4 h5
   have:i=0∨i=1:=by omega
   rcases this with rfl | rfl
   ·have:us.getD 0 undef=.pointer (some ⟨bd,od,none⟩):=e0
    simpa [Array.getD,h4] using this
   ·have:us.getD 1 undef=.int .i64 at_:=e1
    simpa [Array.getD,h4] using this
  rw[hus2]
  have hput:∀ j,∃ h:Bk.Hd,h.1=(ps.getD j (0,[],())).1∧(j<ps.length→∀ b off,Cc=some ⟨b,off,none⟩→Z.w.cell? ⟨b,off+j*2,none⟩=some (.int .i64 h.1)∧Z.w.cell? ⟨b,off+j*2+1,none⟩=some (Bk.hv h)∧
    Rep Z.w (Mt Z C (fun _=>none) noB) (.sl (.int .i64)) .sh (ps.getD j (0,[],())).2.1 (.mem b (off+j*2+1)) noB):=by
   intro j
   by_cases hj:j<ps.length
   ·obtain⟨b,off,q1,q2,q3,q4⟩:=c3 (show ps≠[] from List.ne_nil_of_length_pos (by omega))
    obtain⟨G1,G2,r1,⟨G3,G4,r2,-⟩,-,s2,-⟩:=q4 j hj
    obtain⟨A',c',t1,t2,t3⟩:=r2
    refine⟨((ps.getD j (0,[],())).1,A',(ps.getD j (0,[],())).2.1.length,c'),rfl,fun _ b2 off2 e=>?_⟩
    rw[q1] at e;cases e
    have eg:ps.getD j (0,[],())=ps[j]:=by simp[List.getD,hj]
    rw[eg]
    have r1':Z.w.cell? ⟨b,off+j*2,none⟩=some (.int .i64 ps[j].1):=by
     have hs:tPutB.size=2:=rfl
     simp only[Rep,Src.cell,hs] at r1;simpa using r1
    have t1':Z.w.cell? ⟨b,off+j*2+1,none⟩=some (.slice A' ps[j].2.1.length c'):=by
     have hs:tPutB.size=2:=rfl
     have hs1:(Ty.int .i64).size=1:=rfl
     simp only[Src.cell,Src.sh,hs,hs1] at t1;simpa using t1
    refine⟨r1',t1',A',c',by simpa [Src.cell] using t1',t2,?_⟩
    rw[hroot] at t3
    exact t3
   ·exact⟨((ps.getD j (0,[],())).1,none,0,0),rfl,fun h=>absurd h hj⟩
  obtain⟨hd,hhd⟩:=Classical.axiomOfChoice hput
  have hlies:Bk.Lies Z.w.heap.size Z.w Cc ps.length hd:=fun hpos=>by
   obtain⟨b,off,q1,q2,q3,q4⟩:=c3 (show ps≠[] from List.ne_nil_of_length_pos hpos)
   exact⟨b,off,q1,q3,fun j hj=>⟨((hhd j).2 hj b off q1).1,((hhd j).2 hj b off q1).2.1⟩⟩
  have hlast:=last_ix (at_:=at_) ps.length (fun j _=>(hhd j).1)
  simp only[blockP] at hr
  cases hle:decide (ps.length≤2147483648) with
  |false=>rw[hle] at hr;cases hr
  |true=>
   rw[hle] at hr
   simp only[decide_eq_true_eq] at hle
   simp only[cond_true] at hr
   have key:∃ v:Bk.Hd,(Bk.last hd at_ ps.length=none→∃ bB oB,A=some ⟨bB,oB,none⟩∧bB<Z.w.heap.size∧0≤at_∧at_<bs.length∧Z.w.cell? ⟨bB,oB+at_.toNat,none⟩=some (Bk.hv v))∧
     Rep Z.w (Mt Z C (fun _=>none) noB) (.sl (.int .i64)) .sh r (.reg [Bk.hv ((Bk.last hd at_ ps.length).getD v)] 0) noB:=by
    cases hix:lastIx ps at_ ps.length with
    |some j=>
     rw[hix] at hr hlast
     simp only[Option.map_some] at hlast
     cases hr
     have hj:=lastIx_lt hix
     refine⟨(0,none,0,0),(fun h=>by rw[hlast] at h;cases h),?_⟩
     rw[hlast]
     obtain⟨b,off,q1,q2,q3,q4⟩:=c3 (show ps≠[] from List.ne_nil_of_length_pos (by omega))
     obtain⟨u1,u2,u3⟩:=(hhd j).2 hj b off q1
     refine u3.toSh (fun i hi=>?_)
     have:i=0:=by simp[Ty.size] at hi;omega
     subst this
     show some _=_
     simpa [Src.cell] using u2.symm
    |none=>
     rw[hix] at hr hlast
     simp only[Option.map_none] at hlast
     cases hin:inB at_ bs.length with
     |false=>rw[hin] at hr;cases hr
     |true=>
      rw[hin] at hr
      simp only[cond_true] at hr
      cases hr
      simp only[inB,Bool.and_eq_true,decide_eq_true_eq] at hin
      have hn:at_.toNat<bs.length:=by omega
      obtain⟨b,off,q1,q2,q3,q4⟩:=a3 (show bs≠[] from List.ne_nil_of_length_pos (by omega))
      have q5:=q4 at_.toNat hn
      obtain⟨A',c',t1,t2,t3⟩:=q5
      have t1':Z.w.cell? ⟨b,off+at_.toNat,none⟩=some (.slice A' bs[at_.toNat].length c'):=by simpa [Src.cell,Ty.size] using t1
      refine⟨(0,A',bs[at_.toNat].length,c'),fun _=>⟨b,off,q1,q3,hin.1,hin.2,t1'⟩,?_⟩
      rw[hlast]
      have eg:bs.getD at_.toNat []=bs[at_.toNat]:=by simp[List.getD,hn]
      rw[eg]
      rw[hroot] at t3
      exact⟨A',c',rfl,t2,t3⟩
   obtain⟨v,hv,hrep⟩:=key
   refine(hC bd od at_ A Cc bs.length cB ps.length cC hd Z.w v hbd (by simpa [Src.cell] using a1) (by simpa [Src.cell,Src.sh,Ty.size] using c1) (by omega) hlies hv).mono fun e w' ⟨he,hbel⟩=>?_
   subst he
   refine⟨_,rfl,C,noB,fun _=>none,noB,str_below hbel I.str.xb I.str.kb,trivial,fun _ h=>h,?_,rfl,rfl⟩
   refine⟨?_,rfl,?_⟩
   ·show Rep w' _ (.sl (.int .i64)) .sh r (.reg [Bk.hv ((Bk.last hd at_ ps.length).getD v)] 0) noB
    refine hrep.go ⟨hbel.size,fun _ h=>h.elim,fun b hb hlt=>⟨hbel.block b hlt,hb⟩⟩ (fun i hi=>rfl)
   ·exact⟨fun h=>(by cases h),fun⟨cs,h⟩=>(by cases h)⟩
theorem block_fs {f:FuncId} (hthere:FnThere P f)
  (hC:∀ (bd od:Nat) (at_:Int) (A C:Option Addr) (nB cB nC cC:Nat) (hd:Nat→Bk.Hd) (w:World) (v:Bk.Hd),bd<w.heap.size→w.cell? ⟨bd,od,none⟩=some (.slice A nB cB)→w.cell? ⟨bd,od+1,none⟩=some (.slice C nC cC)→
   nC≤1152921504606846976→Bk.Lies w.heap.size w C nC hd→
   (Bk.last hd at_ nC=none→∃ bB oB,A=some ⟨bB,oB,none⟩∧bB<w.heap.size∧0≤at_∧at_<nB∧w.cell? ⟨bB,oB+at_.toNat,none⟩=some (Bk.hv v))→
   Calls P f #[.pointer (some ⟨bd,od,none⟩),.int .i64 at_] w fun e W'=>e=.returned (Bk.hv ((Bk.last hd at_ nC).getD v))∧Below w.heap.size w W') :
  FsOk P f (mkFS [.sh,.sh] [.pt tDiskB,.cl .sh (.int .i64)] (fun x=>blockP x.1 x.2.1) fun y=>⟨[.cl .sh (.sl (.int .i64)) y],[]⟩):=by
 intro cs R k r he
 simp only[mkFS] at he
 split at he
 ·rename_i x hx
  have e:=PT.rds_mks hx
  subst e
  cases hb:blockP x.1 x.2.1 with
  |none=>rw[hb] at he;cases he
  |some t=>rw[hb] at he;exact⟨_,he,block_cout hthere hC x.1 x.2.1 t hb⟩
 ·cases he
end Mf
namespace Mf
open Go Go.RowKit
set_option linter.unusedVariables false
set_option linter.unusedSimpArgs false
variable {P:Program} {Z:W0}
theorem Rep.deepM {w:World} {M M':BSet}:∀ {t:Ty} {x:t.El} {s:Src} {F:BSet},Rep w M t .deep x s F→Rep w M' t .deep x s F:=by
 intro t
 induction t with
 |int k=>intro x s F h;exact h
 |bool=>intro x s F h;exact h
 |str=>intro x s F h;exact h
 |unit=>intro x s F h;trivial
 |pair a b iha ihb=>intro x s F h;obtain⟨F1,F2,h1,h2,h3⟩:=h;exact⟨F1,F2,iha h1,ihb h2,h3⟩
 |sl e ih=>
  intro x s F h
  obtain⟨A,c,h1,h2,h3⟩:=h
  refine⟨A,c,h1,h2,fun hc=>?_⟩
  obtain⟨b,off,Fs,e1,e2,e3,e4,e5⟩:=h3 hc
  exact⟨b,off,Fs,e1,e2,e3,fun i hi=>⟨ih (e4 i hi).1,(e4 i hi).2⟩,e5⟩
 |arr n e ih=>
  intro x s F h
  obtain⟨h1,Fs,h2,h3⟩:=h
  exact⟨h1,Fs,fun i hi=>⟨ih (h2 i hi).1,(h2 i hi).2⟩,h3⟩
def Fresh (w w':World) (F:BSet):Prop:=∀ b,F b→w.heap.size≤b∧b<w'.heap.size
def GivesRow (e:Ty) (o:Ow) (xs:List e.El) (w:World) (en:Ending) (w':World):Prop:=
 ∃ A c,en=.returned (.slice A xs.length c)∧Below w.heap.size w w'∧∃ F,Rep w' F (.sl e) o xs (.reg [.slice A xs.length c] 0) F∧Fresh w w' F
theorem empty_root {v:TV} (h:resRoot v=none):(initSt [v]).root=fun _=>none:=by
 funext r;rw[initSt_root];match r with | 0=>exact h | n+1=>rfl
theorem COut.callSh {f:FuncId} {e e':Ty} {o:Ow} {xs:List e.El} {ys:List e'.El} (h:COut P f [.sh] [.cl .sh (.sl e) xs] ⟨[.cl o (.sl e') ys],[]⟩) (ho:o≠.sh) (w:World) (A:Option Addr) (c:Nat)
  (hr:Rep w noB (.sl e) .sh xs (.reg [.slice A xs.length c] 0) noB):Calls P f #[.slice A xs.length c] w (GivesRow e' o ys w):=by
 let C:Cx:=⟨fun _=>.reg [] 0,fun _=>noB⟩
 let Z:W0:=⟨w,noB,fun _ _=>False,noB,fun i=>if i<1 then some (.reg [] 0) else none,1⟩
 have hroot:=empty_root (v:=.cl .sh (.sl e) xs) rfl
 have hM:BSub (Mt Z C (initSt [.cl .sh (.sl e) xs]).root noB) noB:=by
  rw[hroot]
  rintro b (⟨r,R,h,_⟩ | h | h)
  ·cases h
  ·exact h
  ·exact h
 have I:Inv Z (initSt [.cl .sh (.sl e) xs]) C ⟨#[.slice A xs.length c],[]⟩ Z.w:=by
  refine⟨?_,?_,rfl,rfl⟩
  ·rw[hroot];exact str_below (Below.refl _ _) (fun _ h=>h.elim) (fun _ _ h=>h.elim)
  ·intro i v hv
   rw[show(initSt [.cl .sh (.sl e) xs]).tm=[(0,.cl .sh (.sl e) xs)] from rfl,lk_consU] at hv
   split at hv
   ·rename_i e0
    subst e0
    cases hv
    refine⟨?_,rfl,⟨fun h=>(by cases h),fun⟨cs,h⟩=>(by cases h)⟩⟩
    show Rep w _ (.sl e) .sh xs _ noB
    have:=RepTV.mono (Lf:=fun _ _=>False) (tv:=.cl .sh (.sl e) xs) (hr:RepTV w noB _ (.cl .sh (.sl e) xs) _ noB) hM
    exact this
   ·cases hv
 refine(h.calls Z C #[.slice A xs.length c] rfl rfl (fun i hi=>?_) (fun i hi=>?_) I).mono ?_
 ·show(if i<1 then _ else _)=_
  rw[if_neg (by have:(1:Nat)≤i:=hi;omega)]
 ·show(if i<1 then _ else _)=_
  rw[if_pos (by have:i<1:=hi;omega)]
 ·rintro en w' ⟨v,rfl,C',G,ρ,Fr,hs,-,hF,hres,-,-⟩
  obtain⟨h1,h2,h3⟩:RepTV w' (Mt Z C' ρ G) (LfOk w' (Mt Z C' ρ G) C'.L ρ) (.cl o (.sl e') ys) (.reg v.cells.toList 0) Fr∧v.cells.size=1∧_:=hres
  have hagg:¬ ∃ cs,v=.agg cs:=fun h=>by have:=h3.2 h;cases this
  have hone:=one_of hagg
  have hrep:Rep w' (Mt Z C' ρ G) (.sl e') o ys (.reg v.cells.toList 0) Fr:=h1
  obtain⟨A',c',k1,k2,k3⟩:=hrep
  have hv:v=.slice A' ys.length c':=by
   have:(Src.reg v.cells.toList 0).cell w' 0=some v:=by rw[hone];rfl
   rw[this] at k1;exact Option.some.inj k1
  subst hv
  refine⟨A',c',rfl,⟨hs.os,hs.tape,hs.output,hs.sz,fun k hk=>hs.old k hk (fun h=>h)⟩,Fr,?_,fun b hb=>?_⟩
  ·have:=RepTV.mono (Lf:=fun _ _=>False) (tv:=.cl o (.sl e') ys) (M:=Mt Z C' ρ G) (M':=Fr) (F:=Fr) (s:=.reg [.slice A' ys.length c'] 0) (w:=w') ⟨A',c',rfl,k2,k3⟩ (fun b hb=>.inr (.inl (hF b hb)))
   exact this
  ·obtain⟨q1,q2,q3,q4⟩:=hs.gbnd b (hF b hb)
   exact⟨q4.resolve_left (fun h=>h),q1⟩
theorem cout_row {f:FuncId} {e e':Ty} {xs:List e.El} {ys:List e'.El} (ht:FnThere P f)
  (h:∀ (w:World) (A:Option Addr) (c:Nat),Rep w noB (.sl e) .sh xs (.reg [.slice A xs.length c] 0) noB→Calls P f #[.slice A xs.length c] w (GivesRow e' .deep ys w)) :
  COut P f [.sh] [.cl .sh (.sl e) xs] ⟨[.cl .deep (.sl e') ys],[]⟩ where
 there:=ht
 calls:=by
  intro Z C us hl hnt hP1 hP2 I
  have hus:us.size=1:=hl
  have hroot:=empty_root (v:=.cl .sh (.sl e) xs) rfl
  have h0:ValOk _ _ _ _ (.cl .sh (.sl e) xs) ((⟨us,[]⟩:Act).tmps.getD 0 undef):=I.tm 0 (.cl .sh (.sl e) xs) rfl
  have hrep:Rep Z.w (Mt Z C (initSt [.cl .sh (.sl e) xs]).root noB) (.sl e) .sh xs (.reg (us.getD 0 undef).cells.toList 0) noB:=h0.1
  have hone:=h0.one rfl
  have hrep0:=hrep
  obtain⟨A,c,k1,k2,k3⟩:=hrep
  have hv:us.getD 0 undef=.slice A xs.length c:=by
   have:(Src.reg (us.getD 0 undef).cells.toList 0).cell Z.w 0=some (us.getD 0 undef):=by
    rw[show(us.getD 0 undef).cells=#[us.getD 0 undef] from hone];rfl
   rw[this] at k1;exact Option.some.inj k1
  have hus2:us=#[.slice A xs.length c]:=by
   apply Array.ext (by simp[hus])
   intro i h4 h5
   have:i=0:=by omega
   subst this
   simpa [Array.getD,h4] using hv
  rw[hus2]
  have hr:Rep Z.w noB (.sl e) .sh xs (.reg [.slice A xs.length c] 0) noB:=by
   rw[hv] at hrep0
   exact RepTV.mono (Lf:=fun _ _=>False) (tv:=.cl .sh (.sl e) xs) (M':=noB) (hrep0:RepTV Z.w _ _ (.cl .sh (.sl e) xs) _ noB) (fun _ h=>h.elim)
  refine(h Z.w A c hr).mono ?_
  rintro en w' ⟨A',c',rfl,hb,F,hF,hfr⟩
  refine⟨_,rfl,C,F,fun _=>none,F,?_,trivial,fun _ h=>h,?_,rfl,rfl⟩
  ·refine {str_below (Lf:=LfOk w' (Mt Z C (fun _=>none) F) C.L (fun _=>none)) (C:=C) hb I.str.xb I.str.kb with gbnd:=?_,gdis:=(fun _ _ h=>by cases h),rep:=(fun _ _ h=>by cases h) }
   intro b hbF
   have:=hfr b hbF
   exact⟨this.2,fun i hk=>by have:=I.str.kb b i hk;omega,fun hx=>by have:=I.str.xb b hx;omega,.inr this.1⟩
  ·refine⟨?_,rfl,⟨fun h=>(by cases h),fun⟨cs,h⟩=>(by cases h)⟩⟩
   show Rep w' _ (.sl e') .deep ys _ F
   exact hF.deepM
end Mf
namespace Mf
open Go Go.RowKit
set_option linter.unusedVariables false
set_option linter.unusedSimpArgs false
abbrev PutsL:=List (Int×List Int×Unit)
structure CpI (w0 W:World) (l:PutsL) (b off cap k:Nat):Prop where
 bel:Below w0.heap.size w0 W
 b1:w0.heap.size≤b
 b2:b<W.heap.size
 room:Room W b off (cap*2)
 ats:∀ j (h:j<l.length),W.cell? ⟨b,off+j*2,none⟩=some (.int .i64 l[j].1)
 old:∀ j (h:j<l.length),k≤j→Rep W (fun x=>x=b) (.sl (.int .i64)) .sh l[j].2.1 (.mem b (off+j*2+1)) noB
 new:∃ s:Nat→Nat,b<s 0∧(∀ j,j<k→s j≤s (j+1))∧s k≤W.heap.size∧∀ j (h:j<l.length),j<k→Rep W noB (.sl (.int .i64)) .deep l[j].2.1 (.mem b (off+j*2+1)) (fun x=>s j≤x∧x<s (j+1))
theorem CpI.start {w0 w1:World} {l:PutsL} {A:Option Addr} {c:Nat} {F:BSet} (hb:Below w0.heap.size w0 w1) (h:Rep w1 F (.sl tPutB) .top l (.reg [.slice A l.length c] 0) F) (hf:Fresh w0 w1 F) (hc:c≠0) :
  ∃ b off,A=some ⟨b,off,none⟩∧l.length≤c∧CpI w0 w1 l b off c 0:=by
 obtain⟨A',c',k1,k2,k3⟩:=h
 have k1':some (Value.slice A l.length c)=some (.slice A' l.length c'):=k1
 simp only[Option.some.injEq,Value.slice.injEq] at k1'
 obtain⟨rfl,-,rfl⟩:=k1'
 obtain⟨b,off,Fs,rfl,hF,hroom,he,-⟩:=k3 hc
 refine⟨b,off,rfl,k2,hb,(hf b hF).1,(hf b hF).2,hroom,fun j hj=>?_,fun j hj _=>?_,fun _=>w1.heap.size,(hf b hF).2,fun _ _=>Nat.le_refl _,Nat.le_refl _,fun j hj h=>absurd h (Nat.not_lt_zero _)⟩
 ·obtain⟨G1,G2,r1,-,-⟩:=(he j hj).1
  have hs:tPutB.size=2:=rfl
  simp only[Rep,Src.cell,hs] at r1;simpa using r1
 ·obtain⟨G1,G2,-,⟨G3,G4,r2,-⟩,-,-,-⟩:=(he j hj).1
  obtain⟨A',c',t1,t2,t3⟩:=r2
  have hs:tPutB.size=2:=rfl
  have hs1:(Ty.int .i64).size=1:=rfl
  refine⟨A',c',?_,t2,fun hne=>?_⟩
  ·simp only[Src.cell,Src.sh,hs,hs1] at t1;simpa [Src.cell] using t1
  ·obtain⟨b',off',q1,q2,q3,q4⟩:=t3 hne
   exact⟨b',off',q1,fun e=>q2 (e▸hF),q3,fun i hi=>RepTV.mono (Lf:=fun _ _=>False) (tv:=.cl .sh (.int .i64) _) (q4 i hi) (fun x e=>by subst e;exact hF)⟩
theorem room_other {w:World} {p:Addr} {v:Value} {b off n:Nat} (h:Room w b off n):Room (w.setCell p v) b off n:=fun i hi=>by
 obtain⟨h1,h2⟩:=h i hi
 refine⟨?_,by rw[World.frozen?_setCell];exact h2⟩
 obtain⟨u,hu⟩:=Option.isSome_iff_exists.1 h1
 obtain⟨u',hu'⟩:=cell?_setCell_some (p:=p) (x:=v) hu
 rw[hu'];rfl
theorem CpI.step {w0 W W1 W2:World} {l:PutsL} {b off cap k:Nat} (I:CpI w0 W l b off cap k) (hk:k<l.length) (hcap:l.length≤cap) (h1:Below W.heap.size W W1) (h2:Below W1.heap.size W1 W2) {A:Option Addr} {c:Nat} {F:BSet}
  (hr:Rep W2 F (.sl (.int .i64)) .deep l[k].2.1 (.reg [.slice A l[k].2.1.length c] 0) F) (hf:Fresh W1 W2 F) :
  CpI w0 (W2.setCell ⟨b,off+k*2+1,none⟩ (.slice A l[k].2.1.length c)) l b off cap (k+1):=by
 have hB:Below W.heap.size W W2:=h1.trans (h2.mono h1.size)
 have hsz:(W2.setCell ⟨b,off+k*2+1,none⟩ (.slice A l[k].2.1.length c)).heap.size=W2.heap.size:=by simp[World.setCell]
 have hoth:∀ x,x≠b→x<W.heap.size→Same W (W2.setCell ⟨b,off+k*2+1,none⟩ (.slice A l[k].2.1.length c)) x:=fun x hx hlt=>(Below.heap_setCell _ _ _ _ hx).trans (hB.block x hlt)
 have hcell:∀ i,i≠off+k*2+1→(W2.setCell ⟨b,off+k*2+1,none⟩ (.slice A l[k].2.1.length c)).cell? ⟨b,i,none⟩=W.cell? ⟨b,i,none⟩:=fun i hi=>by
  rw[World.cell?_setCell_other (h:=fun e=>hi (by cases e;rfl))]
  exact hB.cell (p:=⟨b,i,none⟩) I.b2
 obtain⟨s,s0,s1,s2,s3⟩:=I.new
 refine⟨I.bel.trans ((hB.mono I.bel.size).setCell (p:=⟨b,_,none⟩) I.b1 _),I.b1,by rw[hsz];have:=hB.size;have:=I.b2;omega,room_other (fun i hi=>?_),fun j hj=>?_,fun j hj hkj=>?_,?_⟩
 ·rw[hB.cell (p:=⟨b,_,none⟩) I.b2,hB.frozen (p:=⟨b,_,none⟩) I.b2];exact I.room i hi
 ·rw[hcell _ (by omega)];exact I.ats j hj
 ·refine(I.old j hj (by omega)).go ⟨by rw[hsz];exact hB.size,fun _ h=>h.elim,fun x hx hlt=>⟨hoth x hx hlt,hx⟩⟩ (fun i hi=>?_)
  have:i=0:=by simp[Ty.size] at hi;omega
  subst this
  exact hcell _ (by omega)
 ·have sk:∀ j,j≤k→s j≤s k:=fun j hj=>by
   have:∀ d,j+d≤k→s j≤s (j+d):=fun d=>by
    induction d with
    |zero=>intro _;exact Nat.le_refl _
    |succ d ih=>intro h;exact Nat.le_trans (ih (by omega)) (s1 (j+d) (by omega))
   have:=this (k-j) (by omega)
   rwa [show j+(k-j)=k by omega] at this
  refine⟨fun j=>if j≤k then s j else W2.heap.size,by simpa using s0,fun j hj=>?_,by show(if k+1≤k then _ else _)≤_;rw[if_neg (by omega),hsz];exact Nat.le_refl _,fun j hj hjk=>?_⟩
  ·show(if j≤k then s j else W2.heap.size)≤(if j+1≤k then s (j+1) else W2.heap.size)
   rw[if_pos (by omega)]
   by_cases e:j+1≤k
   ·rw[if_pos e];exact s1 j (by omega)
   ·rw[if_neg e];have:=sk j (by omega);have:=hB.size;omega
  ·by_cases e:j=k
   ·subst e
    simp only[Nat.le_refl,if_true,Nat.not_succ_le_self,if_false]
    obtain⟨A',c',k1,k2,k3⟩:=hr
    have k1':some (Value.slice A l[j].2.1.length c)=some (.slice A' l[j].2.1.length c'):=k1
    simp only[Option.some.injEq,Value.slice.injEq] at k1'
    obtain⟨rfl,-,rfl⟩:=k1'
    refine⟨A,c,?_,k2,fun hc=>?_⟩
    ·show World.cell? _ _=_
     simp only[Nat.add_zero]
     refine World.cell?_setCell_same' _ _ _ ?_
     rw[hB.cell (p:=⟨b,_,none⟩) I.b2]
     exact(I.room (j*2+1) (by omega)).1
    ·obtain⟨b',off',Fs,q1,q2,q3,q4,q5⟩:=k3 hc
     have hb':=hf b' q2
     have hlt:=I.b2
     have hW1:=h1.size
     have hne:b'≠b:=by omega
     refine⟨b',off',fun _=>noB,q1,⟨by omega,hb'.2⟩,room_other q3,fun i hi=>⟨?_,fun _ h=>h.elim,fun h=>h⟩,fun _ _ _ _ _ h=>h.elim⟩
     have hi':=(q4 i hi).1
     show World.cell? _ _=_
     rw[World.cell?_setCell_other (h:=fun e=>hne (congrArg Addr.block e).symm)]
     exact hi'
   ·have hj2:j<k:=by omega
    simp only[show j≤k by omega,show j+1≤k by omega,if_true]
    have hsj:=sk (j+1) (by omega)
    have hb0:b<s j:=Nat.lt_of_lt_of_le s0 (by
     have:∀ d,d≤j→s 0≤s d:=fun d=>by
      induction d with
      |zero=>intro _;exact Nat.le_refl _
      |succ d ih=>intro h;exact Nat.le_trans (ih (by omega)) (s1 d (by omega))
     exact this j (Nat.le_refl _))
    refine(((s3 j hj hj2).deepM (M':=fun x=>x=b)).go (M':=fun x=>x=b) ⟨by rw[hsz];exact hB.size,fun x hx=>hoth x (by have:=hx.1;omega) (by have:=hx.2;omega),fun x hx hlt=>⟨hoth x hx hlt,hx⟩⟩ (fun i hi=>?_)).deepM
    ·have:i=0:=by simp[Ty.size] at hi;omega
     subst this
     exact hcell _ (by omega)
theorem CpI.done {w0 W:World} {l:PutsL} {b off cap:Nat} (I:CpI w0 W l b off cap l.length) (hcap:l.length≤cap):GivesRow tPutB .deep l w0 (.returned (.slice (some ⟨b,off,none⟩) l.length cap)) W:=by
 obtain⟨s,s0,s1,s2,s3⟩:=I.new
 have mono:∀ j d,j+d≤l.length→s j≤s (j+d):=fun j d=>by
  induction d with
  |zero=>intro _;exact Nat.le_refl _
  |succ d ih=>intro h;exact Nat.le_trans (ih (by omega)) (s1 (j+d) (by omega))
 refine⟨_,_,rfl,I.bel,fun x=>w0.heap.size≤x∧x<W.heap.size,⟨_,_,rfl,hcap,fun hc=>⟨b,off,fun j=>fun x=>s j≤x∧x<s (j+1)∧j<l.length,rfl,⟨I.b1,I.b2⟩,I.room,fun j hj=>⟨?_,?_,?_⟩,fun i j hij hj x hx hx'=>?_⟩⟩,fun x h=>h⟩
 ·have hs:tPutB.size=2:=rfl
  refine⟨noB,fun x=>s j≤x∧x<s (j+1)∧j<l.length,?_,⟨fun x=>s j≤x∧x<s (j+1)∧j<l.length,noB,?_,trivial,fun _ h=>h,fun _ h=>h.elim,fun _ _ h=>h⟩,fun _ h=>h.elim,fun _ h=>h,fun _ h=>h.elim⟩
  ·show World.cell? _ _=_
   simp only[hs,Nat.add_zero];exact I.ats j hj
  ·have h:=((s3 j hj hj).sub (G:=fun x=>s j≤x∧x<s (j+1)∧j<l.length) (fun x h=>⟨h.1,h.2,hj⟩)).deepM (M':=fun x=>w0.heap.size≤x∧x<W.heap.size)
   have e1:Ow.deep.elem=Ow.deep:=rfl
   rw[e1]
   simpa [Src.sh,hs,Ty.size] using h
 ·rintro x ⟨h1,h2,h3⟩
  have:=mono 0 j (by omega)
  have:=mono (j+1) (l.length-(j+1)) (by omega)
  rw[show j+1+(l.length-(j+1))=l.length by omega] at this
  have:=I.b1
  rw[Nat.zero_add] at *
  exact⟨by omega,by omega⟩
 ·rintro⟨h1,-,-⟩
  have:=mono 0 j (by omega)
  rw[Nat.zero_add] at this
  omega
 ·have:=mono (i+1) (j-(i+1)) (by omega)
  rw[show i+1+(j-(i+1))=j by omega] at this
  have:=hx.2.1
  have:=hx'.1
  omega
theorem CpI.arg {w0 W:World} {l:PutsL} {b off cap k:Nat} (I:CpI w0 W l b off cap k) (hk:k<l.length):∃ A c,W.cell? ⟨b,off+k*2+1,none⟩=some (.slice A l[k].2.1.length c)∧
  ∀ W1,Below W.heap.size W W1→Rep W1 noB (.sl (.int .i64)) .sh l[k].2.1 (.reg [.slice A l[k].2.1.length c] 0) noB:=by
 obtain⟨A,c,d1,d2,d3⟩:=I.old k hk (Nat.le_refl _)
 refine⟨A,c,d1,fun W1 h1=>⟨A,c,rfl,d2,fun hne=>?_⟩⟩
 obtain⟨b',off',q1,q2,q3,q4⟩:=d3 hne
 refine⟨b',off',q1,fun h=>h,Nat.lt_of_lt_of_le q3 h1.size,fun i hi=>?_⟩
 show World.cell? _ _=_
 rw[h1.cell (p:=⟨b',_,none⟩) q3]
 exact q4 i hi
theorem CpI.place {w0 W:World} {l:PutsL} {b off cap k:Nat} (I:CpI w0 W l b off cap k) (hk:k<l.length) (hcap:l.length≤cap) {W2:World} (h:Below W.heap.size W W2) :
  W2.cell? ⟨b,off+k*2+1,none⟩=W.cell? ⟨b,off+k*2+1,none⟩∧W2.frozen? ⟨b,off+k*2+1,none⟩=false:=
 ⟨h.cell (p:=⟨b,_,none⟩) I.b2,(h.frozen (p:=⟨b,_,none⟩) I.b2).trans (I.room (k*2+1) (by omega)).2⟩
theorem GivesRow.none {l:PutsL} {w W:World} {A:Option Addr} (hb:Below w.heap.size w W) {o:Ow} {G:BSet} (h:Rep W G (.sl tPutB) o l (.reg [.slice A l.length 0] 0) G):l.length=0∧GivesRow tPutB .deep l w (.returned (.slice A l.length 0)) W:=by
 obtain⟨A',c',k1,k2,k3⟩:=h
 have k1':some (Value.slice A l.length 0)=some (.slice A' l.length c'):=k1
 simp only[Option.some.injEq,Value.slice.injEq] at k1'
 obtain⟨rfl,-,rfl⟩:=k1'
 exact⟨Nat.le_zero.1 k2,A,0,rfl,hb,noB,⟨A,0,rfl,k2,fun h=>absurd rfl h⟩,fun _ h=>h.elim⟩
end Mf
namespace Mf
open Go Go.RowKit
set_option linter.unusedVariables false
set_option linter.unusedSimpArgs false
variable {P:Program}
theorem clone_calls {f:FuncId} {e:Ty} {o:Ow} (h:FsOk P f (mkFS [.sh] [.cl .sh (.sl e)] (fun x=>cloneP x.1) fun y=>⟨[.cl o (.sl e) y],[]⟩)) (ho:o≠.sh)
  (hrd:∀ xs:List e.El,PT.rds [.cl .sh (.sl e)] [.cl .sh (.sl e) xs]=some (xs,())) (w:World) (A:Option Addr) (c:Nat) (xs:List e.El) (hr:Rep w noB (.sl e) .sh xs (.reg [.slice A xs.length c] 0) noB) (hl:xs.length≤2147483648) :
  Calls P f #[.slice A xs.length c] w (GivesRow e o xs w):=by
 obtain⟨out,e1,hc⟩:=h [.cl .sh (.sl e) xs] Out some ⟨[.cl o (.sl e) xs],[]⟩ (by
  simp only[mkFS,hrd,cloneP,decide_eq_true hl,cond_true,Option.bind_some])
 cases e1
 exact hc.callSh ho w A c hr
theorem clonePuts_fs {f:FuncId} (ht:FnThere P f)
  (h:∀ (w:World) (A:Option Addr) (c:Nat) (l:PutsL),Rep w noB (.sl tPutB) .sh l (.reg [.slice A l.length c] 0) noB→l.length≤2147483648→(∀ x∈l,x.2.1.length≤2147483648)→Calls P f #[.slice A l.length c] w (GivesRow tPutB .deep l w)) :
  FsOk P f (mkFS [.sh] [.cl .sh (.sl tPutB)] (fun x=>clonePutsP x.1) fun y=>⟨[.cl .deep (.sl tPutB) y],[]⟩):=by
 intro cs R k r he
 simp only[mkFS] at he
 split at he
 ·rename_i x hx
  have e:=PT.rds_mks hx
  subst e
  cases hb:clonePutsP x.1 with
  |none=>rw[hb] at he;cases he
  |some t=>
   rw[hb] at he
   unfold clonePutsP at hb
   cases hd:(decide (x.1.length≤2147483648)&&x.1.all (fun x=>decide (x.2.1.length≤2147483648))) with
   |false=>rw[hd] at hb;cases hb
   |true=>
    rw[hd] at hb
    cases hb
    simp only[Bool.and_eq_true,decide_eq_true_eq,List.all_eq_true] at hd
    exact⟨_,he,cout_row ht (fun w A c hr=>h w A c x.1 hr hd.1 hd.2)⟩
 ·cases he
theorem rd_puts (xs:List tPutB.El):PT.rds [.cl .sh (.sl tPutB)] [.cl .sh (.sl tPutB) xs]=some (xs,()):=by rfl
theorem rd_ints (xs:List Int):PT.rds [.cl .sh (.sl (.int .i64))] [.cl .sh (.sl (.int .i64)) xs]=some (xs,()):=by rfl
end Mf
