import Derived.Test.YthaonimonnheeaaGreatMf3
import Derived.Below
import Derived.Calls
import Derived.ChangeSame
import Derived.ChangeShapes
import Derived.DataReads
import Derived.Deep.AppendSrc
import Derived.Deep.Draws
import Derived.Deep.MidRow
import Derived.Deep.Upon
import Derived.KernelRfl
import Derived.Laws.AppendOwn
import Derived.Laws.BytesString
import Derived.Laws.Entries
import Derived.Laws.IdiomCopy
import Derived.Laws.IdiomStrings
import Derived.Laws.Strings
import Derived.Laws.StructEq
import Derived.Laws.Tables
import Derived.Lay
import Derived.Lib.SliceRun
import Derived.Orders
import Derived.Sort.Grow
import Derived.Sort.Row
import GoSem.Core.Region
import GoSem.Core.View
set_option linter.unusedVariables false
set_option linter.unusedSimpArgs false
namespace Mf
open Go
set_option linter.unusedVariables false
set_option linter.unusedSimpArgs false
variable {Z:W0} {S:St} {C:Cx} {w w':World} {K:Yk} {G:Ya} {C1:Cx} {D:Dd} {a:Act}
variable {P:Program} {tb:Tb} {g:Gd} {o:Oper} {hn:Hint}
theorem Rep.share {w:World} {M M':Ya}:∀ {t:Ty} {o:Ow} {x:t.El} {s:Src} {F:Ya},Rep w M t o x s F→Ye M' M→(∀ b,F b→¬ M' b∧b<w.heap.size)→Rep w M' t .sh x s noB:=by
 intro t
 induction t with
 |int k=>intro o x s F h _ _;exact h
 |bool=>intro o x s F h _ _;exact h
 |str=>intro o x s F h _ _;exact h
 |unit=>intro o x s F h _ _;trivial
 |pair a b iha ihb=>
  intro o x s F h hm hf;obtain⟨F1,F2,h1,h2,h3,h4,h5⟩:=h
  exact⟨noB,noB,iha h1 hm (fun b hb=>hf b (h3 b hb)),ihb h2 hm (fun b hb=>hf b (h4 b hb)),fun _ x=>x.elim,fun _ x=>x.elim,fun _ x=>x.elim⟩
 |sl e ih=>
  intro o x s F h hm hf;obtain⟨A,c,h1,h2,h3⟩:=h;refine⟨A,c,h1,h2,fun hne=>?_⟩;have hl:0<x.length:=List.length_pos_iff.2 hne
  cases o with
  |sh=>
   obtain⟨b,off,q1,q2,q3,q4⟩:=h3 hne
   exact⟨b,off,q1,fun h=>q2 (hm b h),q3,fun i hi=>ih (q4 i hi) hm (fun _ x=>x.elim)⟩
  |top=>
   obtain⟨b,off,Fs,q1,q2,q3,q4,q5⟩:=h3 (by omega)
   exact⟨b,off,q1,(hf b q2).1,(hf b q2).2,fun i hi=>ih (q4 i hi).1 hm (fun b' hb=>hf b' ((q4 i hi).2.1 b' hb))⟩
  |deep=>
   obtain⟨b,off,Fs,q1,q2,q3,q4,q5⟩:=h3 (by omega)
   exact⟨b,off,q1,(hf b q2).1,(hf b q2).2,fun i hi=>ih (q4 i hi).1 hm (fun b' hb=>hf b' ((q4 i hi).2.1 b' hb))⟩
 |arr n e ih=>
  intro o x s F h hm hf;obtain⟨h1,Fs,h2,h3⟩:=h;exact⟨h1,fun _=>noB,fun i hi=>⟨ih (h2 i hi).1 hm (fun b' hb=>hf b' ((h2 i hi).2 b' hb)),fun _ x=>x.elim⟩,fun _ _ _ _ _ x=>x.elim⟩
structure Yv (w:World) (M:Ya) (e:Ty) (o:Ow) (xs:List e.El) (cs:List Value) (F:Ya):Prop where
 len:cs.length=xs.length*e.size
 one:∀ v∈cs,v.oneCell'=true
 rep:∃ Fs:Nat→Ya,(∀ i (h:i<xs.length),Rep w M e o (xs[i]'h) (.reg cs (i*e.size)) (Fs i)∧Ye (Fs i) F)∧(∀ i j,i<j→j<xs.length→Dis (Fs i) (Fs j))
theorem Yv.nil {M:Ya} {e:Ty} {o:Ow}:Yv w M e o ([]:List e.El) [] noB:=
 ⟨by simp,fun _ h=>(by cases h),fun _=>noB,fun i h=>absurd h (Nat.not_lt_zero _),fun _ _ _ h=>absurd h (Nat.not_lt_zero _)⟩
theorem Yv.sub {M:Ya} {e:Ty} {o:Ow} {xs:List e.El} {cs:List Value} {F F':Ya} (h:Yv w M e o xs cs F) (hs:Ye F F'):Yv w M e o xs cs F':=by
 obtain⟨h1,h2,Fs,h3,h4⟩:=h;exact⟨h1,h2,Fs,fun i hi=>⟨(h3 i hi).1,fun b hb=>hs b ((h3 i hi).2 b hb)⟩,h4⟩
theorem Yv.share {M M':Ya} {e:Ty} {o:Ow} {xs:List e.El} {cs:List Value} {F:Ya} (h:Yv w M e o xs cs F) (hm:Ye M' M) (hf:∀ b,F b→¬ M' b∧b<w.heap.size):Yv w M' e .sh xs cs noB:=by
 obtain⟨h1,h2,Fs,h3,h4⟩:=h;exact⟨h1,h2,fun _=>noB,fun i hi=>⟨(h3 i hi).1.share hm (fun b hb=>hf b ((h3 i hi).2 b hb)),fun _ x=>x.elim⟩,fun _ _ _ _ _ x=>x.elim⟩
theorem Yv.pure {M M':Ya} {e:Ty} {o o':Ow} {xs:List e.El} {cs:List Value} {F:Ya} (h:Yv w M e o xs cs F) (he:e.pure=true):Yv w' M' e o' xs cs noB:=by
 obtain⟨h1,h2,Fs,h3,h4⟩:=h;exact⟨h1,h2,fun _=>noB,fun i hi=>⟨Rep.pure he (h3 i hi).1 (fun _ _=>rfl),fun _ x=>x.elim⟩,fun _ _ _ _ _ x=>x.elim⟩
theorem Yv.go {M M':Ya} {e:Ty} {o:Ow} {xs:List e.El} {cs:List Value} {F:Ya} (h:Yv w M e o xs cs F) (hg:Goes w w' M M' F):Yv w' M' e o xs cs F:=by
 obtain⟨h1,h2,Fs,h3,h4⟩:=h;exact⟨h1,h2,Fs,fun i hi=>⟨(h3 i hi).1.go (hg.mono (h3 i hi).2) (fun _ _=>rfl),(h3 i hi).2⟩,h4⟩
theorem Yv.mono {M M':Ya} {e:Ty} {o:Ow} {xs:List e.El} {cs:List Value} {F:Ya} (h:Yv w M e o xs cs F) (hm:Ye M' M):Yv w M' e o xs cs F:=h.go (Yil hm)
theorem Yv.append {M:Ya} {e:Ty} {o:Ow} {xs ys:List e.El} {cs ds:List Value} {F F' H:Ya} (h:Yv w M e o xs cs F) (g:Yv w M e o ys ds F') (hd:Dis F F') (hF:Ye F H) (hF':Ye F' H) :
  Yv w M e o (xs++ys) (cs++ds) H:=by
 obtain⟨h1,h2,Fs,h3,h4⟩:=h;obtain⟨g1,g2,Gs,g3,g4⟩:=g
 have key:∀ i,i<xs.length→(fun i=>if i<xs.length then Fs i else Gs (i-xs.length)) i=Fs i:=fun i hi=>by simp[hi]
 have key':∀ i,¬ i<xs.length→(fun i=>if i<xs.length then Fs i else Gs (i-xs.length)) i=Gs (i-xs.length):=fun i hi=>by simp[hi]
 refine⟨by simp[h1,g1,Nat.add_mul],fun v hv=>(List.mem_append.1 hv).elim (h2 v) (g2 v),fun i=>if i<xs.length then Fs i else Gs (i-xs.length),fun i hi=>?_,fun i j hij hj=>?_⟩
 ·by_cases hlt:i<xs.length
  ·rw[key i hlt,List.getElem_append_left hlt]
   refine⟨(h3 i hlt).1.mv (fun k hk=>?_),fun b hb=>hF b ((h3 i hlt).2 b hb)⟩;have:=Yay (sz:=e.size) hlt;simp only[Src.cell]
   rw[List.getElem?_append_left (by rw[h1];omega)]
  ·have hj:i-xs.length<ys.length:=by simp at hi;omega
   rw[key' i hlt,List.getElem_append_right (by omega)]
   refine⟨(g3 _ hj).1.mv (fun k hk=>?_),fun b hb=>hF' b ((g3 _ hj).2 b hb)⟩
   have hge:xs.length*e.size≤i*e.size:=Nat.mul_le_mul_right _ (by omega)
   simp only[Src.cell]
   rw[List.getElem?_append_right (by rw[h1];omega),h1,show i*e.size+k-xs.length*e.size=(i-xs.length)*e.size+k by rw[Nat.sub_mul];omega]
 ·have hj':j<xs.length+ys.length:=by simpa using hj
  by_cases h1':j<xs.length
  ·rw[key j h1',key i (by omega)];exact h4 i j hij h1'
  ·rw[key' j h1']
   by_cases h2':i<xs.length
   ·rw[key i h2'];exact hd.sub (h3 i h2').2 (g3 _ (by omega)).2
   ·rw[key' i h2'];exact g4 _ _ (by omega) (by omega)
theorem Yq2 {M:Ya} {e:Ty} {o:Ow} {xs:List e.El} {b off:Nat} {F:Ya} {Fs:Nat→Ya} (h:∀ i (hi:i<xs.length),Rep w M e o (xs[i]'hi) (.mem b (off+i*e.size)) (Fs i)∧Ye (Fs i) F)
  (hd:∀ i j,i<j→j<xs.length→Dis (Fs i) (Fs j)):∃ cs,Yv w M e o xs cs F∧∀ k,k<xs.length*e.size→w.cell? ⟨b,off+k,none⟩=cs[k]?:=by
 have hc:∀ k,k<xs.length*e.size→∃ v,w.cell? ⟨b,off+k,none⟩=some v∧v.oneCell'=true:=by
  intro k hk
  have hs:0<e.size:=by
   rcases Nat.eq_zero_or_pos e.size with h0 | h0
   ·rw[h0] at hk;omega
   ·exact h0
  have hq:k / e.size<xs.length:=(Nat.div_lt_iff_lt_mul hs).2 hk;obtain⟨v,hv,h3⟩:=(h _ hq).1.cells (k % e.size) (Nat.mod_lt _ hs);simp only[Src.cell] at hv;rw[Nat.add_assoc,Nat.mul_comm,Nat.div_add_mod] at hv;exact⟨v,hv,h3⟩
 obtain⟨cs,h1,h2⟩:=Ydx b off (xs.length*e.size) (fun k hk=>let ⟨v,hv,_⟩:=hc k hk;⟨v,hv⟩)
 refine⟨cs,⟨h1,?_,Fs,fun i hi=>⟨(h i hi).1.mv (fun k hk=>?_),(h i hi).2⟩,hd⟩,h2⟩
 ·intro v hv
  obtain⟨k,hk,rfl⟩:=List.mem_iff_getElem.1 hv
  obtain⟨v,q1,q2⟩:=hc k (by omega)
  rw[h2 k (by omega),List.getElem?_eq_getElem hk] at q1;cases q1;exact q2
 ·have:=Yay (sz:=e.size) hi
  simp only[Src.cell]
  rw[←h2 (i*e.size+k) (by omega),Nat.add_assoc]
theorem Yv.row {M:Ya} {e:Ty} {oo:Ow} {zs:List e.El} {cs:List Value} {F H:Ya} {b off len cap:Nat} (h:Yv w M e oo.elem zs cs F) (ho:oo≠.sh) (hlen:zs.length=len) (hc:len≤cap)
  (hr:Room w b off (cap*e.size)) (hcell:∀ k,k<cs.length→w.cell? ⟨b,off+k,none⟩=cs[k]?) (hb:H b) (hF:Ye F H) (hFb:¬ F b) :
  Rep w M (.sl e) oo zs (.reg [.slice (some ⟨b,off,none⟩) len cap] 0) H:=by
 subst hlen;obtain⟨h1,h2,Fs,h3,h4⟩:=h;refine⟨_,cap,rfl,hc,?_⟩
 have own:cap≠0→∃ b' off',∃ Fs:Nat→Ya,(some ⟨b,off,none⟩:Option Addr)=some ⟨b',off',none⟩∧H b'∧Room w b' off' (cap*e.size)∧
   (∀ i (h:i<zs.length),Rep w M e oo.elem (zs[i]'h) (.mem b' (off'+i*e.size)) (Fs i)∧Ye (Fs i) H∧¬ Fs i b')∧(∀ i j,i<j→j<zs.length→Dis (Fs i) (Fs j)):=by
  intro _;refine⟨b,off,Fs,rfl,hb,hr,fun i hi=>⟨(h3 i hi).1.mv (fun k hk=>?_),fun x hx=>hF x ((h3 i hi).2 x hx),fun hx=>hFb ((h3 i hi).2 b hx)⟩,h4⟩;have:=Yay (sz:=e.size) hi;simp only[Src.cell]
  rw[Nat.add_assoc,hcell _ (by omega)]
 cases oo with
 |sh=>exact absurd rfl ho
 |top=>exact own
 |deep=>exact own
theorem Rep.rowOf {M:Ya} {e:Ty} {o:Ow} {xs:List e.El} {s:Src} {F:Ya} {A:Option Addr} {c:Nat} (h:Rep w M (.sl e) o xs s F) (hc:s.cell w 0=some (.slice A xs.length c)) (ho:o≠.sh) :
  xs.length≤c∧∃ cs Fr,Yv w M e o.elem xs cs Fr∧Ye Fr F∧
   (c≠0→∃ b off,A=some ⟨b,off,none⟩∧F b∧¬ Fr b∧Room w b off (c*e.size)∧∀ k,k<xs.length*e.size→w.cell? ⟨b,off+k,none⟩=cs[k]?):=by
 obtain⟨A0,c0,h1,h2,h3⟩:=h;rw[hc] at h1;cases h1;refine⟨h2,?_⟩;rcases Nat.eq_zero_or_pos c with h0 | h0
 ·have:xs=[]:=List.length_eq_zero_iff.1 (by omega)
  subst this;exact⟨[],noB,Yv.nil,fun _ h=>h.elim,fun h=>absurd h0 h⟩
 ·have h3':∃ b off,∃ Fs:Nat→Ya,A=some ⟨b,off,none⟩∧F b∧Room w b off (c*e.size)∧
    (∀ i (h:i<xs.length),Rep w M e o.elem (xs[i]'h) (.mem b (off+i*e.size)) (Fs i)∧Ye (Fs i) F∧¬ Fs i b)∧(∀ i j,i<j→j<xs.length→Dis (Fs i) (Fs j)):=by
   cases o with
   |sh=>exact absurd rfl ho
   |top=>exact h3 (by omega)
   |deep=>exact h3 (by omega)
  obtain⟨b,off,Fs,q1,q2,q3,q4,q5⟩:=h3';obtain⟨cs,r1,r2⟩:=Yq2 (F:=fun x=>F x∧x≠b) (fun i hi=>⟨(q4 i hi).1,fun x hx=>⟨(q4 i hi).2.1 x hx,fun e=>(q4 i hi).2.2 (e▸hx)⟩⟩) q5;exact⟨cs,_,r1,fun x hx=>hx.1,fun _=>⟨b,off,q1,q2,fun h=>h.2 rfl,q3,r2⟩⟩
end Mf
namespace Mf
open Go
set_option linter.unusedVariables false
set_option linter.unusedSimpArgs false
variable {Z:W0} {S:St} {C:Cx} {w w':World} {K:Yk} {G:Ya} {C1:Cx} {D:Dd} {a:Act}
variable {P:Program} {tb:Tb} {g:Gd} {o:Oper} {hn:Hint}
theorem Yk1.cells {M:Ya} {e:Ty} {sh:Bool} {xs:List e.El} {A:Option Addr} (h:Yk1 w M e sh xs A):∃ cs:List Value,cs.length=xs.length*e.size∧(∀ v∈cs,v.oneCell'=true)∧
  (∀ j u,cs[j]? = some u→∃ a,A=some a∧w.cell? (a.add j)=some u)∧(∀ i (hi:i<xs.length),∃ F o',Rep w M e o' (xs[i]'hi) (.reg cs (i*e.size)) F∧(sh=true→o'=.sh)):=by
 by_cases hne:xs=[]
 ·subst hne;exact⟨[],by simp,fun _ h=>(by cases h),fun j u h=>by simp at h,fun i hi=>absurd hi (Nat.not_lt_zero _)⟩
 obtain⟨b,off,q1,q2,q3⟩:=h hne
 have hc:∀ k,k<xs.length*e.size→∃ v,w.cell? ⟨b,off+k,none⟩=some v∧v.oneCell'=true:=by
  intro k hk
  have hs:0<e.size:=by
   rcases Nat.eq_zero_or_pos e.size with h0 | h0
   ·rw[h0] at hk;omega
   ·exact h0
  have hq:k / e.size<xs.length:=(Nat.div_lt_iff_lt_mul hs).2 hk;obtain⟨F,o',hr,_⟩:=q3 _ hq;obtain⟨v,hv,h3⟩:=hr.cells (k % e.size) (Nat.mod_lt _ hs);simp only[Src.cell] at hv;rw[Nat.add_assoc,Nat.mul_comm,Nat.div_add_mod] at hv;exact⟨v,hv,h3⟩
 obtain⟨cs,h1,h2⟩:=Ydx b off (xs.length*e.size) (fun k hk=>let ⟨v,hv,_⟩:=hc k hk;⟨v,hv⟩)
 refine⟨cs,h1,?_,?_,fun i hi=>?_⟩
 ·intro v hv
  obtain⟨k,hk,rfl⟩:=List.mem_iff_getElem.1 hv
  obtain⟨v,q1,q2⟩:=hc k (by omega)
  rw[h2 k (by omega),List.getElem?_eq_getElem hk] at q1;cases q1;exact q2
 ·intro j u hu
  have hj:j<cs.length:=by
   rcases Nat.lt_or_ge j cs.length with h | h
   ·exact h
   ·rw[List.getElem?_eq_none h] at hu;cases hu
  refine⟨_,q1,?_⟩
  rw[Addr.add_lit,h2 j (by omega)];exact hu
 ·obtain⟨F,o',hr,ho⟩:=q3 i hi
  refine⟨F,o',hr.mv (fun k hk=>?_),ho⟩;have:=Yay (sz:=e.size) hi;simp only[Src.cell]
  rw[←h2 (i*e.size+k) (by omega),Nat.add_assoc]
structure Ysd (P:Program) (Z:W0) (S:St) (C:Cx) (w:World) (k:Yk) (e:Ty) (o:Ow) (ys:List e.El) (u:Value) (C2:Cx) (D2:Dd) (F G2:Ya) (news:List Value):Prop where
 t:Yy Z S C w k G2 C2 D2
 f:Ye F G2
 m:Ye (Mt Z C2 (k.roots S) G2) (Mt Z C S.root noB)
 row:Yv w (Mt Z C2 (k.roots S) G2) e o ys news F
 src:∀ tx,((∃ e',P.underlying tx=some (.slice e'))∨P.underlying tx=some .string)→Go.Src P e.size tx u ys.length news w
 form:(∃ A c,u=.slice A ys.length c∧(∀ j v,news[j]? = some v→∃ a,A=some a∧w.cell? (a.add j)=some v))∨(∃ z:ByteArray,u=.string z∧e.size=1∧ys.length=z.size∧news=byteCells z)
theorem Yok {size:Nat} {tx:TypeId} {A:Option Addr} {n c:Nat} {news:List Value} (hk:(∃ e',P.underlying tx=some (.slice e'))∨P.underlying tx=some .string) (hl:news.length=n*size) (hnews:∀ j u,news[j]? = some u→∃ a,A=some a∧w.cell? (a.add j)=some u)
  (hA:A=none→n=0) (h1:∀ u∈news,u.oneCell'=true):Go.Src P size tx (.slice A n c) n news w:=by
 cases A with
 |none=>
  have:=hA rfl;subst this
  have hn:news=[]:=List.length_eq_zero_iff.1 (by simpa using hl)
  subst hn
  exact⟨hk,fun _=>rfl,run_firstCells_none w size 0 0 c,run_firstCells_none w.drew size 0 0 c,by simp,fun _ h=>(by cases h)⟩
 |some a=>
  have hn:∀ j u,news[j]? = some u→w.cell? (a.add j)=some u:=fun j u h=>by obtain⟨a',e,h⟩:=hnews j u h;cases e;exact h
  exact⟨hk,fun _=>rfl,run_firstCells_some w size n a n c news hl hn,run_firstCells_some w.drew size n a n c news hl (by simpa using hn),hl,h1⟩
theorem Yf1 (I:Inv Z S C a w) {np:Nat} {v:TV} {u:Value} {e:Ty} {ys:List e.El} {oy:Ow} {k:Yk} (hv:VOk w (Mt Z C S.root noB) C.L S.root v u) (h:(Yiw np v).run S=some (.mk e ys oy,k)) :
  (oy=.deep∨oy=.sh)∧∃ C2 D2 F G2 news,Ysd P Z S C w k e oy ys u C2 D2 F G2 news:=by
 have plain:∀ o,(els v).run S=some (.mk e ys o)→k=.none→((e.pure=true∧oy=.deep)∨((v.Yut=true∨o=.top∨o=.sh)∧oy=.sh))→(oy=.deep∨oy=.sh)∧∃ C2 D2 F G2 news,Ysd P Z S C w k e oy ys u C2 D2 F G2 news:=by
  intro o he hk hcase;subst hk
  refine⟨by rcases hcase with ⟨_,h⟩ | ⟨_,h⟩<;>simp[h],?_⟩
  have hm:Mt Z C ((Yk.none).roots S) noB=Mt Z C S.root noB:=rfl;obtain⟨A,c,hu,hc,hrow⟩:=Yf6 I hv he
  have hA:A=none→ys.length=0:=fun h=>by
   by_cases hne:ys=[]
   ·rw[hne];rfl
   ·obtain⟨b,off,q1,_⟩:=hrow hne;rw[h] at q1;cases q1
  obtain⟨cs,c1,c2,c3,c4⟩:=hrow.cells
  refine⟨C,Dd.none,noB,noB,cs,Yy.start I,fun _ h=>h,fun _ h=>h,?_,fun tx ht=>by rw[hu];exact Yok ht c1 c3 hA c2,.inl ⟨A,c,hu,c3⟩⟩
  rcases hcase with ⟨hp,rfl⟩ | ⟨hcl,rfl⟩
  ·exact⟨c1,c2,fun _=>noB,fun i hi=>by obtain⟨F,o',hr,_⟩:=c4 i hi;exact⟨Rep.pure hp hr (fun _ _=>rfl),fun _ x=>x.elim⟩,fun _ _ _ _ _ x=>x.elim⟩
  ·
   have hsh:∀ i (hi:i<ys.length),∃ F,Rep w (Mt Z C S.root noB) e .sh (ys[i]'hi) (.reg cs (i*e.size)) F:=by
    rcases hcl with hcl | ho
    ·intro i hi;obtain⟨F,o',hr,ho⟩:=c4 i hi;rw[ho hcl] at hr;exact⟨F,hr⟩
    ·intro i hi
     have hne:ys≠[]:=fun h=>by rw[h] at hi;exact absurd hi (Nat.not_lt_zero _)
     obtain⟨b,off,q1,_,_⟩:=hrow hne
     have hcs:∀ j,j<cs.length→w.cell? ⟨b,off+j,none⟩=cs[j]?:=fun j hj=>by
      obtain⟨a',e1,e2⟩:=c3 j _ (List.getElem?_eq_getElem hj);rw[q1] at e1;cases e1;rw[Addr.add_lit] at e2;rw[e2,List.getElem?_eq_getElem hj]
     have fin:∀ F,Rep w (Mt Z C S.root noB) e .sh (ys[i]'hi) (.mem b (off+i*e.size)) F→∃ F,Rep w (Mt Z C S.root noB) e .sh (ys[i]'hi) (.reg cs (i*e.size)) F:=fun F hr=>by
      refine⟨F,hr.mv (fun k hk=>?_)⟩;have:=Yay (sz:=e.size) hi;simp only[Src.cell]
      rw[←hcs (i*e.size+k) (by omega),Nat.add_assoc]
     rcases Yb4 he with ⟨o',rfl,_⟩ | ⟨r,p,R,rfl,hR,hg⟩ | ⟨r,p,lo,n,R,zs,rfl,hR,hg,rfl⟩
     ·obtain⟨F,o',hr,ho⟩:=c4 i hi;rw[ho rfl] at hr;exact⟨F,hr⟩
     ·obtain⟨s,A',c',F,e1,e2,e3,e4,e5⟩:=Yc7 I ((hv:Yd _ _ _ _ _ _).leaf rfl) hR hg
      rw[hu] at e3;cases e3;obtain⟨A2,c2',k1,k2,k3⟩:=e5;rw[e2] at k1;cases k1;have hl:0<ys.length:=List.length_pos_iff.2 hne;rcases ho with rfl | rfl
      ·obtain⟨b',off',Fs,r1,r2,r3,r4,r5⟩:=k3 (by omega)
       rw[q1] at r1;cases r1;exact fin _ (r4 i hi).1
      ·obtain⟨b',off',r1,r2,r3,r4⟩:=k3 hne
       rw[q1] at r1;cases r1;exact fin _ (r4 i hi)
     ·obtain⟨R',s,o2,e',xs',A0,len,c0,A',c',h1,h2,h3,h4,h5,h6,h7,h8,h9⟩:=(hv:Yd _ _ _ _ _ _).leaf rfl
      rw[hR] at h1;cases h1;rw[Yeb hg] at h3;cases h3
      obtain⟨F,hF,hr⟩:=focus p (I.str.rep r R hR) h2 hg
      obtain⟨A2,c2',k1,k2,k3⟩:=(hr:Rep w _ (.sl e) o zs s F);rw[h4] at k1;cases k1;rw[hu] at h5
      have hlen:((zs.drop lo).take n).length=n:=by simp;omega
      have hn:0<n:=by rw[←hlen];exact List.length_pos_iff.2 hne
      rw[hlen] at h5;cases h5
      have hi':i<n:=by rw[←hlen];exact hi
      have hz:zs≠[]:=by intro h0;subst h0;simp at h6;omega
      have hez:((zs.drop lo).take n)[i]'hi=zs[lo+i]'(by omega):=by simp
      rw[hez]
      have hoff:∀ b' off',(some ⟨b,off,none⟩:Option Addr)=(some (⟨b',off',none⟩:Addr)).map (fun ad=>ad.add (lo*e.size))→b=b'∧off=off'+lo*e.size:=by
       intro b' off' h;simp[Addr.add_mid] at h;exact h
      rcases ho with rfl | rfl
      ·obtain⟨b',off',Fs,r1,r2,r3,r4,r5⟩:=k3 (by omega)
       have hx:=h9 (by omega);rw[q1,r1] at hx
       obtain⟨rfl,rfl⟩:=hoff _ _ hx
       have:=(r4 (lo+i) (by omega)).1
       rw[show off'+(lo+i)*e.size=off'+lo*e.size+i*e.size by rw[Nat.add_mul];omega] at this
       have:=fin (Fs (lo+i)) (by rw[hez];exact this)
       rw[hez] at this;exact this
      ·obtain⟨b',off',r1,r2,r3,r4⟩:=k3 hz
       have hx:=h9 (by omega);rw[q1,r1] at hx
       obtain⟨rfl,rfl⟩:=hoff _ _ hx
       have:=(r4 (lo+i) (by omega))
       rw[show off'+(lo+i)*e.size=off'+lo*e.size+i*e.size by rw[Nat.add_mul];omega] at this
       have:=fin noB (by rw[hez];exact this)
       rw[hez] at this;exact this
   exact⟨c1,c2,fun _=>noB,fun i hi=>by obtain⟨F,hr⟩:=hsh i hi;exact⟨hr.Yg4 (fun _ _=>rfl),fun _ x=>x.elim⟩,fun _ _ _ _ _ x=>x.elim⟩
 have ntd:∀ o:Ow,(o=.deep→False)→(v.Yut=true∨o=.top∨o=.sh):=by
  intro o h
  cases o with
  |deep=>exact absurd rfl h
  |top=>exact .inr (.inl rfl)
  |sh=>exact .inr (.inr rfl)
 have other:∀ v',v'=v→(∀ r p,v≠.seg r p)→((els v').bind fun | .mk e xs o=>match e.pure,o with
   |true,_=>(RD.ret (.mk e xs .deep,.none):RD (Els×Yk))
   |false,.deep=>.fail
   |false,_=>.ret (.mk e xs .sh,.none)).run S=some (.mk e ys oy,k)→(oy=.deep∨oy=.sh)∧∃ C2 D2 F G2 news,Ysd P Z S C w k e oy ys u C2 D2 F G2 news:=by
  rintro v' rfl hns h;replace h:=RD.bind_some h;obtain⟨⟨e',ys',o⟩,h1,h⟩:=h;simp only at h
  split at h
  ·rename_i hp;cases h;exact plain _ h1 rfl (.inl ⟨hp,rfl⟩)
  ·cases h
  ·rename_i hp hd
   cases h;exact plain _ h1 rfl (.inr ⟨ntd _ hd,rfl⟩)
 cases v with
 |nl=>cases h
 |seg r p=>
  simp only[Yiw] at h;replace h:=RD.bind_some h;obtain⟨⟨e',ys',o⟩,h1,h⟩:=h;simp only at h
  split at h
  ·rename_i hp;cases h;exact plain _ h1 rfl (.inl ⟨hp,rfl⟩)
  ·rename_i hp
   split at h
   ·cases h
   ·replace h:=RD.bind_some h;obtain⟨⟨c,k'⟩,h2,h⟩:=h
    cases h;refine⟨.inl rfl,?_⟩;have hlf:=(hv:Yd _ _ _ _ _ _).leaf rfl;obtain⟨⟨C2,D2,F,G',t1,t2,t3,t4,t5,t6,t7,t8⟩,o',e2,x',ho,rfl,R1,o1,hR1,hg1⟩:=Ycj (Yy.start I) (s':=.reg [u] 0) hlf rfl h2;rcases Yb4 h1 with ⟨o',hh,_⟩ | ⟨r',p',R,hh,hR,hg⟩ | ⟨r',p',lo,n,R,zs,hh,hR,hg,_⟩
    ·cases hh
    ·cases hh
     rw[hR] at hR1;cases hR1;rw[hg] at hg1;cases hg1
     have ho':o'=.deep:=by
      simp only[Ybv,Yk.none,lk] at h2;simp only[RD.run,hR,Yhb,hg] at h2;unfold takeC Ym6 at h2
      split at h2
      ·cases h2;rfl
      ·split at h2
       ·cases h2;rfl
       ·cases h2
     subst ho';obtain⟨s0,A,c,F0,_,_,hu,_,_⟩:=Yc7 I hlf hR hg;have hre:Rep w (Mt Z C2 (k'.roots S) G') (.sl e) .deep ys (.reg [u] 0) F:=t6
     obtain⟨hle,cs,Fr,rr,rF,hblk⟩:=hre.rowOf (A:=A) (c:=c) (by rw[hu];rfl) (by simp)
     have hfm:∀ j v,cs[j]? = some v→∃ a,A=some a∧w.cell? (a.add j)=some v:=by
      intro j v hj
      have hj':j<cs.length:=by
       rcases Nat.lt_or_ge j cs.length with h | h
       ·exact h
       ·rw[List.getElem?_eq_none h] at hj;cases hj
      obtain⟨b,off,q1,_,_,_,q5⟩:=hblk (by
       intro h0;have:=rr.len
       have hz:ys.length=0:=by omega
       rw[hz,Nat.zero_mul] at this;omega)
      refine⟨_,q1,?_⟩
      rw[Addr.add_lit,q5 j (by rw[←rr.len];exact hj')];exact hj
     refine⟨C2,D2,Fr,G',cs,t1,fun b hb=>t3 b (rF b hb),t7,rr,fun tx ht=>?_,.inl ⟨A,c,hu,hfm⟩⟩;rw[hu];refine Yok ht rr.len hfm (fun hA=>?_) rr.one;rcases Nat.eq_zero_or_pos c with h0 | h0
     ·omega
     ·obtain⟨b,off,q1,_⟩:=hblk (by omega);rw[hA] at q1;cases q1
    ·cases hh
  ·rename_i hp hd
   cases h
   exact plain _ h1 rfl (.inr ⟨ntd _ hd,rfl⟩)
 |cl o t x=>
  cases t with
  |str=>
   simp only[Yiw,RD.run] at h;cases h;refine⟨.inl rfl,?_⟩;obtain⟨z,rfl,hz⟩:=(hv:Yd _ _ _ _ _ _).str;have hl:(byteCells z).length=z.size:=byteCells_length z
   have hx:(x.map fun b=>(b.toNat:Int)).length=z.size:=by rw[←hz];simp
   refine⟨C,Dd.none,noB,noB,byteCells z,Yy.start I,fun _ h=>h,fun _ h=>h,⟨by rw[hl,hx];simp[Ty.size],?_,fun _=>noB,fun i hi=>⟨?_,fun _ x=>x.elim⟩,fun _ _ _ _ _ x=>x.elim⟩,fun tx ht=>?_,.inr ⟨z,rfl,rfl,hx,rfl⟩⟩
   ·intro v hv;obtain⟨_,_,rfl⟩:=List.mem_map.1 hv;rfl
   ·show(byteCells z)[i*1+0]? = _
    subst hz;simp[byteCells] at hi ⊢;exact⟨_,Array.getElem?_eq_getElem hi,rfl⟩
   ·rw[hx]
    exact⟨ht,fun _=>rfl,firstCells_string z w,firstCells_string z w.drew,by rw[hl];simp[Ty.size],fun u hu=>by obtain⟨_,_,rfl⟩:=List.mem_map.1 hu;rfl⟩
  |_=>exact other _ rfl (fun _ _=>by simp) h
 |_=>exact other _ rfl (fun _ _=>by simp) h
end Mf
namespace Mf
open Go
set_option linter.unusedVariables false
set_option linter.unusedSimpArgs false
variable {Z:W0} {S:St} {C:Cx} {w w':World} {K K':Yk} {G:Ya} {C1:Cx} {D:Dd} {a:Act}
variable {P:Program} {tb:Tb} {g:Gd} {o:Oper} {hn:Hint}
theorem Ylx (I:Inv Z S C a w) (T:Yy Z S C w K G C1 D) {v:TV} {u:Value} {e:Ty} {xs:List e.El} {ow:Ow} (hv:VOk w (Mt Z C S.root noB) C.L S.root v u) (h:(Ylw K e v).run S=some (xs,ow,K')) :
  ow≠.sh∧∃ C3 D3 F G3,Yy Z S C w K' G3 C3 D3∧Ye G G3∧Ye F G3∧Dis F G∧Ye (Mt Z C3 (K'.roots S) G3) (Mt Z C1 (K.roots S) G)∧
   ∃ A c,u=.slice A xs.length c∧Rep w (Mt Z C3 (K'.roots S) G3) (.sl e) ow xs (.reg [u] 0) F:=by
 cases v with
 |nl=>
  simp only[Ylw,RD.run] at h;cases h;obtain⟨A,rfl⟩:=(hv:Yd _ _ _ _ _ _).leaf rfl
  exact⟨by simp,C1,D,noB,G,T,fun _ h=>h,fun _ h=>h.elim,fun _ h=>h.elim,fun _ h=>h,A,0,rfl,Rep.nil rfl⟩
 |seg r p=>
  simp only[Ylw] at h;replace h:=RD.bind_some h;obtain⟨⟨c,k⟩,h1,h⟩:=h;have hlf:=(hv:Yd _ _ _ _ _ _).leaf rfl;obtain⟨⟨C2,D2,F,G',t1,t2,t3,t4,t5,t6,t7,t8⟩,o',e2,x',ho,rfl,R1,o1,hR1,hg1⟩:=Ycj T (s':=.reg [u] 0) hlf rfl h1;simp only at h
  split at h
  ·rename_i he _;subst he
   cases h;obtain⟨s0,A,c,F0,_,_,hu,_,_⟩:=Yc7 I hlf hR1 hg1;exact⟨ho,C2,D2,F,G',t1,t2,t3,t4,t7,A,c,hu,t6⟩
  ·cases h
 |_=>cases h
theorem Yks (need:Nat):∀ (r c:Nat),Builtin.growBy need r c≤2 ^ r*(c+768)
 |0,c=>by simp[Builtin.growBy]
 |r+1,c=>by
  unfold Builtin.growBy
  split
  ·have:1≤2 ^ (r+1):=Nat.one_le_two_pow
   calc c≤1*(c+768):=by omega
    _≤2 ^ (r+1)*(c+768):=Nat.mul_le_mul_right _ this
  ·refine Nat.le_trans (Yks need r _) ?_
   rw[Nat.pow_succ,Nat.mul_assoc]
   exact Nat.mul_le_mul_left _ (by omega)
theorem Yom {need c:Nat} (h1:c<need) (h2:need≤2147483648):Builtin.nextslicecap need c≤34359750656:=by
 unfold Builtin.nextslicecap
 split
 ·omega
 ·split
  ·omega
  ·refine Nat.le_trans (Yks need 4 c) ?_
   omega
theorem Ygw (t tx ty e:TypeId) (i:TypeInfo) (ht:P.underlying t=some (.slice e)) (hi:P.info? e=some i) (A:Option Addr) (sLen sCap:Nat) (x:Value) (n:Nat) (hs:Go.Src P i.size tx x n [] w)
  (hroom:sLen+n≤sCap):(Builtin.append_ #[t,tx] ty #[.slice A sLen sCap,x]).run P w=.ok (.slice A (sLen+n) sCap) w:=by
 cases A<;>rcases hs.kind with ⟨e',hk⟩ | hk<;>simp[Builtin.append_,run_underlying ht,run_underlying hk,Go.sizeOf,typeInfo,hi,hs.len,hroom,hs.cells,storeCells]
theorem Yv.join {M3 M:Ya} {e:Ty} {ow oy:Ow} {xs ys:List e.El} {olds news:List Value} {Fr F2:Ya} (h1:Yv w M3 e ow.elem xs olds Fr) (h2:Yv w M3 e oy ys news F2) (ho:ow≠.sh) (hy:oy=.deep∨oy=.sh)
  (hd:Dis Fr F2) (hM:Ye M (fun b=>M3 b∨w.heap.size≤b)) (hlt:∀ b,Fr b∨F2 b→b<w.heap.size) (hsh:¬ (ow=.deep∧oy=.deep)→∀ b,Fr b∨F2 b→¬ M b)
  (hs:∀ b,b<w.heap.size→(Fr b∨F2 b∨¬ M b)→Same w w' b) (hsz:w.heap.size≤w'.heap.size) :
  ∃ F0,Yv w' M e (match ow,oy with | .deep,.deep=>Ow.deep | _,_=>.top).elem (xs++ys) (olds++news) F0∧(∀ b,F0 b→(ow=.deep∧oy=.deep)∧(Fr b∨F2 b)):=by
 have hm:Ye (fun b=>M b∧b<w.heap.size) M3:=fun b ⟨h,hl⟩=>(hM b h).elim id (fun h=>by omega)
 have go:∀ F,(∀ b,F b→Fr b∨F2 b)→Goes w w' (fun b=>M b∧b<w.heap.size) M F:=fun F hF=>
  ⟨hsz,fun b hb=>hs b (hlt b (hF b hb)) ((hF b hb).elim .inl (fun h=>.inr (.inl h))),fun b h1 h2=>⟨hs b h2 (.inr (.inr (fun h=>h1 ⟨h,h2⟩))),fun h=>h1 ⟨h,h2⟩⟩⟩
 by_cases hdd:ow=.deep∧oy=.deep
 ·obtain⟨rfl,rfl⟩:=hdd
  exact⟨fun b=>Fr b∨F2 b,((h1.mono hm).append (h2.mono hm) hd (fun _ h=>.inl h) (fun _ h=>.inr h)).go (go _ (fun b h=>h)),fun b h=>⟨⟨rfl,rfl⟩,h⟩⟩
 ·have hsh:=hsh hdd
  have s1:=h1.share hm (fun b hb=>⟨fun h=>hsh b (.inl hb) h.1,hlt b (.inl hb)⟩);have s2:=h2.share hm (fun b hb=>⟨fun h=>hsh b (.inr hb) h.1,hlt b (.inr hb)⟩);refine⟨noB,?_,fun b h=>h.elim⟩;have:=(s1.append s2 (fun _ h=>h.elim) (fun _ h=>h.elim) (fun _ h=>h.elim)).go (go noB (fun b h=>h.elim))
  rcases hy with rfl | rfl<;>cases ow<;>first | exact absurd rfl ho | exact absurd ⟨rfl,rfl⟩ hdd | exact this
theorem Yqt (ht:Yag P tb) (I:Inv Z S C a w) (hg:Yax a g) {np d:Nat} {args:Array Operand} {ats:Array TypeId} (ho:o.op=.call ⟨.builtin .append,args,ats⟩) (hd:o.dst=some d) (hnp:∀ i,np≤i→Z.P i=none) (hgd:Yw S (some d)) (hdn:d<Z.nt) {b:Option Bool} {p:Patch}
  (h:(doR tb hn np g o).run S=some (.step b p)) (hb:b≠some false):Done P o a w fun u w'=>∃ C',Inv Z (S.ap p) C' (a.put o.dst u) w':=by
 simp only[doR,ho,hd] at h
 split at h
 ·rename_i s x ts tx hargs hats
  replace h:=RD.bind_some h;obtain⟨i,h1,h⟩:=h;replace h:=RD.bind_some h;obtain⟨ix,h2,h⟩:=h
  split at h
  ·rename_i e _ hi hix
   replace h:=RD.bind_some h;obtain⟨vs,h3,h⟩:=h;replace h:=RD.bind_some h;obtain⟨vx,h4,h⟩:=h;replace h:=RD.bind_some h;obtain⟨⟨⟨e',ys,oy⟩,k'⟩,h5,h⟩:=h;replace h:=RD.bind_some h;obtain⟨⟨xs,ow,k⟩,h6,h⟩:=h;simp only at h
   split at h
   ·rename_i hee _;subst hee
    replace h:=RD.bind_some h;obtain⟨p',h7,h⟩:=h;cases h
    have hlen:(xs++ys).length≤2147483648:=by simpa using hb
    rw[List.length_append] at hlen;obtain⟨⟨ds,hds,hsk,_⟩,_⟩:=ht ts i (Yp h1);obtain⟨ee,rfl,te,j,q1,q2,q3,q4,⟨z,hz,hzc⟩,hby⟩:=Ym8 hsk hi;rw[hi] at q1;cases q1;obtain⟨⟨dx,hdx,hxk,_⟩,_⟩:=ht tx ix (Yp h2)
    have hkind:(∃ e',P.underlying tx=some (.slice e'))∨P.underlying tx=some .string:=by
     cases hd':ix.d with
     |sl e''=>rw[hd'] at hxk;obtain⟨rfl,_⟩:=hxk;exact .inl ⟨_,hdx⟩
     |str=>rw[hd'] at hxk;obtain⟨rfl,_⟩:=hxk;exact .inr hdx
     |_=>rw[hd'] at hix;cases hix
    have hvx:=Yg I hg h4;have hvs:=Yg I hg h3;obtain⟨hoy,C2,D2,F2,G2,news,ST⟩:=Yf1 (P:=P) I hvx h5;obtain⟨how,C3,D3,F3,G3,T3,g1,g2,g3,g4,A,c,hu,hrep⟩:=Ylx I ST.t hvs h6
    have hargs':args=#[s,x]:=by rw[←Array.toArray_toList (xs:=args),hargs]
    have hats':ats=#[ts,tx]:=by rw[←Array.toArray_toList (xs:=ats),hats]
    have hsrc:Go.Src P j.size tx (a.eval x) ys.length news w:=by rw[q3];exact ST.src tx hkind
    obtain⟨hle,olds,Fr,rold,rF,hblk⟩:=hrep.rowOf (A:=A) (c:=c) (by rw[hu];rfl) how
    have rnew:=ST.row.mono g4
    have hexec:∀ v w',(Builtin.append_ #[ts,tx] o.type #[.slice A xs.length c,a.eval x]).run P w=.ok v w'→(execOp a.eval o).run P w=.ok (.value v) w':=by
     intro v w' hr;subst hargs';subst hats';simp[execOp,ho,resolve,invoke,builtin,hu,hr]
    have hdd:Dis Fr F2:=fun b x y=>g3 b (rF b x) (ST.f b y);have hg3:∀ b,Fr b∨F2 b→G3 b:=fun b h=>h.elim (fun h=>g2 b (rF b h)) (fun h=>g1 b (ST.f b h));have hlt:∀ b,Fr b∨F2 b→b<w.heap.size:=fun b h=>(T3.str.gbnd b (hg3 b h)).1;rw[hd];have hbnd:∀ b,G3 b→b<w.heap.size:=fun b h=>(T3.str.gbnd b h).1;have hnews:news.length=ys.length*e'.size:=ST.row.len;have holds:olds.length=xs.length*e'.size:=rold.len;have hzlen:(xs++ys).length=xs.length+ys.length:=List.length_append
    by_cases hroom:xs.length+ys.length≤c
    ·rcases Nat.eq_zero_or_pos c with hc0 | hc0
     ·
      have hx0:xs=[]:=List.length_eq_zero_iff.1 (by omega)
      have hy0:ys=[]:=List.length_eq_zero_iff.1 (by omega)
      subst hx0 hy0
      have hn0:news=[]:=List.length_eq_zero_iff.1 (by simpa using hnews)
      subst hn0;refine .inl ⟨_,w,.inl (hexec _ _ (Ygw ts tx o.type ee j hds q2 A _ c (a.eval x) _ hsrc hroom)),?_⟩;subst hc0;exact Yer I T3 (Fn:=noB) h7 hnp hgd hdn (Yb8.refl w _) rfl (fun M hM=>Rep.nil rfl) (fun _ h=>h.elim)
     ·
      obtain⟨bb,off,rfl,hFb,hFrb,hRoom,hcell⟩:=hblk (by omega)
      have hmul:(xs.length+ys.length)*e'.size≤c*e'.size:=Nat.mul_le_mul_right _ hroom;rw[Nat.add_mul] at hmul
      have hin:∀ k,k<news.length→xs.length*e'.size+k<c*e'.size:=fun k hk=>by omega
      have hrm:∀ k,k<news.length→(w.cell? ⟨bb,off+xs.length*e'.size+k,none⟩).isSome=true∧w.frozen? ⟨bb,off+xs.length*e'.size+k,none⟩=false:=fun k hk=>by
       have:=hRoom _ (hin k hk);rwa [←Nat.add_assoc] at this
      have hrun:=run_append_room_src (P:=P) w ts tx o.type ee j hds q2 bb off xs.length c (a.eval x) ys.length news hsrc hroom (fun k hk=>by rw[q3];exact(hrm k hk).1) (fun k hk=>by rw[q3];exact(hrm k hk).2)
      rw[q3] at hrun;refine .inl ⟨_,_,.inl (hexec _ _ hrun),?_⟩;generalize hw':w.setCells bb (off+xs.length*e'.size) news=w'
      have hsame:∀ b,b≠bb→Same w w' b:=fun b hb=>by rw[←hw'];exact Ya3 bb hb _ _ w
      have hsize:w'.heap.size=w.heap.size:=by rw[←hw'];exact setCells_size _ _ _ _
      have hbb3:G3 bb:=g2 bb hFb;have hF2b:¬ F2 bb:=fun h=>g3 bb hFb (ST.f bb h)
      have hcellw:∀ k,k<(olds++news).length→w'.cell? ⟨bb,off+k,none⟩=(olds++news)[k]?:=by
       intro k hk;rw[List.length_append] at hk;rcases Nat.lt_or_ge k olds.length with hlt' | hge'
       ·rw[←hw',World.cell?_setCells_out bb _ _ _ _ (fun _ _=>.inl (by show off+k<_;omega)),List.getElem?_append_left hlt']
        exact hcell k (by omega)
       ·have hk':k-olds.length<news.length:=by omega
        rw[List.getElem?_append_right hge',List.getElem?_eq_getElem hk',←hw',←World.cell?_setCells_in bb news (off+xs.length*e'.size) w (fun j hj=>(hrm j hj).1) _ hk']
        congr 2;omega
      have hroomw:Room w' bb off (c*e'.size):=by
       intro k hk;have:=hRoom k hk
       refine⟨?_,by rw[←hw',World.frozen?_setCells];exact this.2⟩
       rcases Nat.lt_or_ge k (olds++news).length with h1 | h1
       ·rw[hcellw k h1,List.getElem?_eq_getElem h1];rfl
       ·rw[List.length_append] at h1
        rw[←hw',World.cell?_setCells_out bb _ _ _ _ (fun _ _=>.inr (by show _≤off+k;omega))]
        exact this.1
      have hand:∀ G1:Ya,Ye G1 G3→Yb8 w w' G3 G1:=fun G1 h=>⟨by rw[hsize];exact Nat.le_refl _,fun b _ hb=>hsame b (fun e=>hb (e▸hbb3)),fun b hb=>.inl (h b hb),
       by rw[←hw'];exact World.os_setCells _ _ _ _,by rw[←hw'];exact Yb0 _ _ _ _,by rw[←hw'];exact World.output_setCells _ _ _ _⟩
      refine Yis I T3 (Fn:=fun b=>b=bb∨((ow=.deep∧oy=.deep)∧(Fr b∨F2 b))) (G1:=fun b=>b=bb∨((ow=.deep∧oy=.deep)∧(Fr b∨F2 b))) h7 hnp hgd hdn
       (hand _ (fun b h=>h.elim (fun h=>h▸hbb3) (fun h=>hg3 b h.2))) rfl (fun M hM hex hin'=>?_) (fun _ h=>h)
      obtain⟨F0,r0,hF0⟩:=rold.join (w':=w') (M:=M) rnew how hoy hdd hM hlt (fun hnd b hb=>hex b (hg3 b hb) (fun h=>h.elim (fun h=>by subst h;exact hb.elim hFrb hF2b) (fun h=>hnd h.1)))
       (fun b _ hb=>hsame b (fun e=>by subst e;exact hb.elim hFrb (fun h=>h.elim hF2b (fun h=>h (hin' b (.inl rfl)))))) (by rw[hsize];exact Nat.le_refl _)
      refine r0.row ?_ hzlen hroom hroomw hcellw (.inl rfl) (fun b h=>.inr (hF0 b h)) (fun h=>(hF0 _ h).2.elim hFrb hF2b)
      split<;>simp
    ·
     have hfit:Builtin.nextslicecap (xs.length+ys.length) c*j.bytes≤281474976710656:=by
      have h1:=Yom (need:=xs.length+ys.length) (c:=c) (by omega) hlen
      calc _≤34359750656*4096:=Nat.mul_le_mul h1 hby
       _≤_:=by omega
     have hold:(Builtin.firstCells j.size xs.length (.slice A xs.length c)).run P w.drew=.ok olds.toArray w.drew:=by
      rw[q3];have hs:=Yok (P:=P) (w:=w) (size:=e'.size) (tx:=ts) (A:=A) (n:=xs.length) (c:=c) (news:=olds) (.inl ⟨ee,hds⟩) holds (fun k v hk=>?_) (fun hA=>?_) rold.one
      ·exact hs.cellsD
      ·have hk':k<olds.length:=by
        rcases Nat.lt_or_ge k olds.length with h | h
        ·exact h
        ·rw[List.getElem?_eq_none h] at hk;cases hk
       have hx0:xs.length≠0:=fun h0=>by rw[h0,Nat.zero_mul] at holds;omega
       obtain⟨bb,off,e1,_,_,_,hcell⟩:=hblk (by omega)
       exact⟨_,e1,by rw[Addr.add_lit,hcell k (by omega)];exact hk⟩
      ·rcases Nat.eq_zero_or_pos xs.length with h0 | h0
       ·exact h0
       ·obtain⟨bb,off,e1,_⟩:=hblk (by omega);rw[hA] at e1;cases e1
     have hrun:=run_append_grow_src (P:=P) w ts tx o.type ee j z hds q2 hz A xs.length c olds hold (a.eval x) ys.length news hsrc (by omega) (by omega) hfit
     refine .inl ⟨_,_,.inl (hexec _ _ hrun),?_⟩;generalize hcap:grownCap w (xs.length+ys.length) c ee=cap
     have hge:xs.length+ys.length≤cap:=by rw[←hcap];exact Nat.le_add_right _ _
     generalize hcs:(olds++news).toArray++Builtin.zeroCells z.cells (cap-(xs.length+ys.length))=cs
     have hzs:z.cells.size=e'.size:=by rw[←Yr,←hzc];simp
     have hcsz:cs.size=cap*e'.size:=by
      rw[←hcs];simp only[Array.size_append,Builtin.zeroCells,Array.size_map,Array.size_range,List.size_toArray,List.length_append,holds,hnews,hzs];rw[←Nat.add_mul,←Nat.add_mul];congr 1;omega
     have hpush:Ya8 w (w.drew.alloc (.cells cs ee)) cs:=⟨⟨ee,(0,0),rfl,fun i hi=>by simp⟩,rfl,rfl,rfl⟩
     generalize w.drew.alloc (.cells cs ee)=w' at hpush
     have hcellw:∀ k,k<(olds++news).length→w'.cell? ⟨w.heap.size,0+k,none⟩=(olds++news)[k]?:=by
      intro k hk
      rw[Nat.zero_add,hpush.cell,←hcs,Array.getElem?_append_left (by simpa using hk)]
      simp
     have hFnew:∀ b,Fr b∨F2 b→b≠w.heap.size:=fun b h e=>by have:=hlt b h;omega
     have hdeepG:∀ b,(fun b=>b=w.heap.size∨((ow=.deep∧oy=.deep)∧(Fr b∨F2 b))) b→G3 b∨b=w.heap.size:=fun b h=>h.elim .inr (fun h=>.inl (hg3 b h.2))
     refine Yis I T3 (Fn:=fun b=>b=w.heap.size∨((ow=.deep∧oy=.deep)∧(Fr b∨F2 b))) (G1:=fun b=>b=w.heap.size∨((ow=.deep∧oy=.deep)∧(Fr b∨F2 b))) h7 hnp hgd hdn
      ⟨(hpush.hand G3).sz,(hpush.hand G3).same,fun b hb=>(hpush.hand G3).g b (hdeepG b hb),hpush.os,hpush.tape,hpush.output⟩ rfl (fun M hM hex hin'=>?_) (fun _ h=>h)
     obtain⟨F0,r0,hF0⟩:=rold.join (w':=w') (M:=M) rnew how hoy hdd hM hlt (fun hnd b hb=>hex b (hg3 b hb) (fun h=>h.elim (fun h=>hFnew b hb h) (fun h=>hnd h.1)))
      (fun b hb _=>hpush.same hb) (by rw[hpush.size];omega)
     refine r0.row ?_ hzlen hge (hpush.room (by rw[hcsz];exact Nat.le_refl _)) hcellw (.inl rfl) (fun b h=>.inr (hF0 b h)) (fun h=>hFnew _ (hF0 _ h).2 rfl)
     split<;>simp
   ·cases h
  ·cases h
 ·cases h
end Mf
namespace Mf
open Go
set_option linter.unusedVariables false
set_option linter.unusedSimpArgs false
variable {Z:W0} {S:St} {C:Cx} {w w':World} {K K':Yk} {G:Ya} {C1:Cx} {D:Dd} {a:Act}
variable {P:Program} {tb:Tb} {g:Gd} {o:Oper} {hn:Hint}
theorem Yjb:∀ (v:List Value) (pre mid post:List Value) (off k:Nat),mid.length=v.length→pre.length=off+k→
  (v.zipIdx k).foldl (fun cs (x:Value×Nat)=>cs.setIfInBounds (off+x.2) x.1) (pre++mid++post).toArray=(pre++v++post).toArray
 |[],pre,mid,post,off,k,h,hp=>by
  have:mid=[]:=List.length_eq_zero_iff.1 (by simpa using h)
  subst this;simp
 |x::v,pre,[],post,off,k,h,hp=>by simp at h
 |x::v,pre,m::mid,post,off,k,h,hp=>by
  simp only[List.zipIdx_cons,List.foldl_cons]
  have e:(pre++m::mid++post).toArray.setIfInBounds (off+k) x=((pre++[x])++mid++post).toArray:=by
   rw[←hp];simp
  rw[e,Yjb v (pre++[x]) mid post off (k+1) (by simpa using h) (by simp;omega)]
  simp
def Yac (f:Nat→List Value):Nat→Ty→List Value
 |i,.pair _ b=>f i++Yac f (i+1) b
 |_,_=>[]
def Yjy (f:Nat→List Value) (i:Nat) (v:List Value):Nat→List Value:=fun j=>if j=i then v else f j
def Ydm:Nat→List Nat→Ty→Prop
 |k,o::os,.pair a b=>o=k∧Ydm (k+a.size) os b
 |_,[],.unit=>True
 |_,_,_=>False
theorem Yf2 {f f':Nat→List Value}:∀ (t:Ty) (i:Nat),(∀ j,i≤j→f j=f' j)→Yac f i t=Yac f' i t:=by
 intro t
 induction t with
 |pair a b iha ihb=>intro i h;simp only[Yac];rw[h i (Nat.le_refl _),ihb (i+1) (fun j hj=>h j (by omega))]
 |_=>intro i h;rfl
theorem Yll:∀ (offs:List Nat) (t:Ty) (k i n:Nat) {f:Nat→List Value},Ydm k offs t→(∀ j,j<offs.length→(f (i+j)).length=(Y7 t j).size)→n<offs.length→
  ∃ pre post off,Yac f i t=pre++f (i+n)++post∧offs[n]? = some off∧off=k+pre.length∧∀ v:List Value,v.length=(Y7 t n).size→Yac (Yjy f (i+n) v) i t=pre++v++post:=by
 intro offs
 induction offs with
 |nil=>intro t k i n f h hf hn;simp at hn
 |cons o os ih=>
  intro t k i n f h hf hn
  cases t with
  |pair a b=>
   obtain⟨rfl,h⟩:=h
   cases n with
   |zero=>
    refine⟨[],Yac f (i+1) b,o,by simp[Yac],by simp,by simp,fun v hv=>?_⟩
    simp only[Yac,Nat.add_zero]
    rw[Yf2 b (i+1) (f':=f) (fun j hj=>by simp[Yjy];omega)]
    simp[Yjy]
   |succ n=>
    obtain⟨pre,post,off,e1,e2,e3,e4⟩:=ih b (o+a.size) (i+1) n (f:=f) h (fun j hj=>by
     have:=hf (j+1) (by simp;omega)
     rw[show i+1+j=i+(j+1) by omega];exact this) (by simpa using hn)
    have h0:=hf 0 (by simp)
    simp only[Nat.add_zero,Y7] at h0
    refine⟨f i++pre,post,off,?_,by simpa using e2,by simp[h0];omega,fun v hv=>?_⟩
    ·simp only[Yac];rw[e1,show i+1+n=i+(n+1) by omega];simp
    ·simp only[Yac]
     rw[show i+(n+1)=i+1+n by omega,e4 v hv]
     have:Yjy f (i+1+n) v i=f i:=by simp[Yjy];omega
     rw[this];simp
  |_=>exact h.elim
theorem Yoj:∀ (offs:List Nat) (t:Ty) (k i:Nat) {f:Nat→List Value},Ydm k offs t→(∀ j,j<offs.length→(f (i+j)).length=(Y7 t j).size)→(Yac f i t).length=t.size:=by
 intro offs
 induction offs with
 |nil=>intro t k i f h hf;cases t<;>first | exact h.elim | rfl
 |cons o os ih=>
  intro t k i f h hf
  cases t with
  |pair a b=>
   obtain⟨rfl,h⟩:=h;simp only[Yac,List.length_append,Ty.size]
   have h0:=hf 0 (by simp)
   simp only[Nat.add_zero,Y7] at h0
   rw[h0,ih b _ (i+1) h (fun j hj=>by
    have:=hf (j+1) (by simp;omega)
    rw[show i+1+j=i+(j+1) by omega];exact this)]
  |_=>exact h.elim
def Yky (i:Nat):List (Nat×Value)→Option Value
 |[]=>none
 |(j,x)::l=>match Yky i l with | some y=>some y | none=>if j=i then some x else none
def Yg0 (f:Nat→List Value) (parts:List (Nat×Value)):Nat→List Value:=fun i=>match Yky i parts with | some v=>v.cells.toList | none=>f i
theorem Yhp (offs:List Nat) (t:Ty) (place:Nat→Option (Nat×Nat)) (hF:Ydm 0 offs t) (hp:∀ n off,offs[n]? = some off→place n=some (off,(Y7 t n).size)) :
  ∀ (parts:List (Nat×Value)) (f:Nat→List Value),(∀ j,j<offs.length→(f j).length=(Y7 t j).size)→(∀ x∈parts,x.1<offs.length∧x.2.cells.size=(Y7 t x.1).size)→
   Instr.fill place (Yac f 0 t).toArray parts=some (Yac (Yg0 f parts) 0 t).toArray
 |[],f,hf,hx=>by simp only[Instr.fill];rfl
 |(n,v)::parts,f,hf,hx=>by
  obtain⟨hn,hv⟩:=hx (n,v) List.mem_cons_self
  obtain⟨pre,post,off,e1,e2,e3,e4⟩:=Yll offs t 0 0 n (f:=f) hF (fun j hj=>by rw[Nat.zero_add];exact hf j hj) hn
  rw[Nat.zero_add] at e1 e3 e4;have hfn:=hf n hn;simp only[Instr.fill,hp n off e2]
  have hsz:¬ (v.cells.size≠(Y7 t n).size):=by simp[hv]
  have hb:¬ ((Yac f 0 t).toArray.size<off+v.cells.size):=by
   rw[e1];simp only[List.size_toArray,List.length_append];dsimp only at hv;omega
  have hcond:(decide (v.cells.size≠(Y7 t n).size) || decide (off+v.cells.size>(Yac f 0 t).toArray.size))=false:=by
   simp only[Bool.or_eq_false_iff,decide_eq_false_iff_not];exact⟨hsz,hb⟩
  rw[if_neg (by rw[hcond];simp)]
  have hfold:v.cells.zipIdx.foldl (fun cs (x:Value×Nat)=>cs.setIfInBounds (off+x.2) x.1) (Yac f 0 t).toArray=(Yac (Yjy f n v.cells.toList) 0 t).toArray:=by
   rw[←Array.foldl_toList,Array.toList_zipIdx,e4 _ (by simpa using hv),e1]
   exact Yjb v.cells.toList pre (f n) post off 0 (by rw[hfn];simpa using hv.symm) (by omega)
  have:=Yhp offs t place hF hp parts (Yjy f n v.cells.toList) (fun j hj=>by
   unfold Yjy;split
   ·rename_i e;subst e;simpa using hv
   ·exact hf j hj) (fun x hm=>hx x (List.mem_cons_of_mem _ hm))
  refine Eq.trans (congrArg (fun z=>Instr.fill place z parts) hfold) (this.trans ?_)
  congr 2
  refine Yf2 t 0 (fun j _=>?_);simp only[Yg0,Yky]
  cases Yky j parts with
  |some y=>rfl
  |none=>
   simp only
   by_cases e:n=j
   ·subst e;simp[Yjy]
   ·simp[Yjy,e,Ne.symm e]
end Mf
namespace Mf
open Go
set_option linter.unusedVariables false
set_option linter.unusedSimpArgs false
variable {Z:W0} {S:St} {C:Cx} {w w':World} {K K':Yk} {G:Ya} {C1:Cx} {D:Dd} {a:Act}
variable {P:Program} {tb:Tb} {g:Gd} {o:Oper} {hn:Hint}
theorem Yqs {M:Ya} {Lf:TV→Value→Prop} {x y:TV} {s:Src} (h:Yc w M Lf (.pr x y) s noB):Yc w M Lf (Ypm x y) s noB:=by
 cases x with
 |cl o t x=>
  cases y with
  |cl o' u y=>
   obtain⟨F1,F2,h1,h2,h3,h4,h5⟩:=h
   exact⟨noB,noB,Rep.share h1 (fun _ h=>h) (fun b hb=>(h3 b hb).elim),Rep.share h2 (fun _ h=>h) (fun b hb=>(h4 b hb).elim),fun _ x=>x.elim,fun _ x=>x.elim,fun _ x=>x.elim⟩
  |_=>exact h
 |_=>exact h
theorem Ynu (x y:TV):(Ypm x y).size=x.size+y.size:=by cases x<;>cases y<;>rfl
theorem Yq3 (x y:TV):(Ypm x y).isAgg=true:=by cases x<;>cases y<;>rfl
theorem Ys0:∀ t:Ty,(Yc0 t).Ysl=true:=by
 intro t
 cases t with
 |pair a b=>simp only[Yc0];split<;>rfl
 |_=>rfl
def Ykw (a:Act) (parts:List (Nat×Operand)) (t:Ty) (i j:Nat):List Value:=match partAt (i+j) parts with
 |some x=>(a.eval x).cells.toList
 |none=>Yx (Y7 t j)
theorem Yr6 {v:TV} (h:v.Ysl=true):∀ l,v≠.tup l:=by rintro l rfl;cases h
theorem Yl6 (I:Inv Z S C a w) (hg:Yax a g) (parts:List (Nat×Operand)):∀ (offs:List Nat) (t:Ty) (i k:Nat) {v:TV},(Yik g parts i k offs t).run S=some v→
  Ydm k offs t∧(∀ j,j<offs.length→∀ x,partAt (i+j) parts=some x→(a.eval x).cells.size=(Y7 t j).size)∧
   ∀ f:Nat→List Value,(∀ j,j<offs.length→f (i+j)=Ykw a parts t i j)→Yc w (Mt Z C S.root noB) (Yi w (Mt Z C S.root noB) C.L S.root) v (.reg (Yac f i t) 0) noB∧v.size=t.size∧v.isAgg=true:=by
 intro offs
 induction offs with
 |nil=>
  intro t i k v h
  cases t with
  |unit=>
   simp only[Yik,RD.run] at h;cases h
   exact⟨trivial,fun j hj=>absurd hj (by simp),fun f _=>⟨trivial,rfl,rfl⟩⟩
  |_=>cases h
 |cons o os ih=>
  intro t i k v h
  cases t with
  |pair t1 t2=>
   simp only[Yik] at h
   split at h
   ·rename_i hok
    have hok:o=k:=by simpa using hok
    replace h:=RD.bind_some h;obtain⟨v1,h1,h⟩:=h
    split at h
    ·rename_i hsz
     simp only[Bool.and_eq_true,Nat.beq_eq] at hsz;replace h:=RD.bind_some h;obtain⟨v2,h2,h⟩:=h;cases h;obtain⟨f1,f2,f3⟩:=ih t2 (i+1) (k+t1.size) h2;subst hok
     have hfst:(∀ x,partAt i parts=some x→(a.eval x).cells.size=t1.size)∧Yc w (Mt Z C S.root noB) (Yi w (Mt Z C S.root noB) C.L S.root) v1 (.reg (Ykw a parts (.pair t1 t2) i 0) 0) noB∧(Ykw a parts (.pair t1 t2) i 0).length=t1.size:=by
      unfold Ykw;rw[Nat.add_zero]
      cases hp:partAt i parts with
      |some x=>
       rw[hp] at h1;obtain⟨r1,r2⟩:=(Yg I hg h1).rep (Yr6 hsz.2);refine⟨fun y e=>?_,r1,?_⟩
       ·cases e;rw[r2,hsz.1]
       ·show(a.eval x).cells.toList.length=_;rw[Array.length_toList,r2,hsz.1]
      |none=>
       rw[hp] at h1;simp only[RD.run] at h1;cases h1
       exact⟨fun y e=>(by cases e),Yn0 t1 (fun j hj=>by simp only[Src.cell,Nat.zero_add,Y7]),by simp only[Y7];rw[Yr]⟩
     refine⟨⟨rfl,f1⟩,fun j hj x hx=>?_,fun f hf=>?_⟩
     ·cases j with
      |zero=>exact hfst.1 x (by simpa using hx)
      |succ j=>exact f2 j (by simpa using hj) x (by rw[show i+1+j=i+(j+1) by omega];exact hx)
     ·have hf0:=hf 0 (by simp)
      rw[Nat.add_zero] at hf0
      obtain⟨r1,r2,r3⟩:=f3 f (fun j hj=>by
       have:=hf (j+1) (by simp;omega)
       rw[show i+1+j=i+(j+1) by omega,this]
       unfold Ykw
       rw[show i+1+j=i+(j+1) by omega]
       rfl)
      refine⟨Yqs ⟨noB,noB,?_,?_,fun _ x=>x.elim,fun _ x=>x.elim,fun _ x=>x.elim⟩,by rw[Ynu,hsz.1,r2];rfl,Yq3 _ _⟩
      ·refine hfst.2.1.mv (fun j hj=>?_)
       simp only[Src.cell,Nat.zero_add,Yac]
       rw[hf0,List.getElem?_append_left (by rw[hfst.2.2,←hsz.1];exact hj)]
      ·refine r1.mv (fun j hj=>?_)
       simp only[Src.cell,Src.sh,Nat.zero_add,Yac]
       rw[hf0,hsz.1,List.getElem?_append_right (by rw[hfst.2.2];omega),hfst.2.2,Nat.add_sub_cancel_left]
    ·cases h
   ·cases h
  |_=>cases h
theorem Yon {i:Nat} {x:Operand}:∀ {parts:List (Nat×Operand)} {n:Nat},Yev n parts=true→(i,x)∈parts→partAt i parts=some x∧i<n:=by
 intro parts
 induction parts with
 |nil=>intro n _ h;cases h
 |cons y l ih=>
  intro n h hm;obtain⟨j,z⟩:=y;simp only[Yev,Bool.and_eq_true] at h;obtain⟨⟨h1,h2⟩,h3⟩:=h;rcases List.mem_cons.1 hm with e | hm
  ·cases e
   refine⟨?_,by simpa using h1⟩
   simp only[partAt];rw[show Nat.beq i i=true by simp]
  ·obtain⟨e1,e2⟩:=ih h3 hm
   refine⟨?_,e2⟩;simp only[partAt]
   split
   ·rename_i hb
    have hb:i=j:=by simpa using hb
    subst hb;rw[e1] at h2;cases h2
   ·exact e1
theorem Yj5 (a:Act):∀ {parts:List (Nat×Operand)} {n:Nat},Yev n parts=true→∀ i,Yky i (parts.map fun x=>(x.1,a.eval x.2))=(partAt i parts).map a.eval:=by
 intro parts
 induction parts with
 |nil=>intro n _ i;rfl
 |cons y l ih=>
  intro n h i;obtain⟨j,z⟩:=y;simp only[Yev,Bool.and_eq_true] at h;obtain⟨⟨h1,h2⟩,h3⟩:=h;simp only[List.map_cons,Yky,partAt];rw[ih h3 i]
  by_cases e:i=j
  ·subst e
   rw[show Nat.beq i i=true by simp]
   cases hp:partAt i l with
   |some x=>rw[hp] at h2;cases h2
   |none=>simp
  ·rw[show Nat.beq i j=false by cases hb:Nat.beq i j with | false=>rfl | true=>exact absurd (Nat.eq_of_beq_eq_true hb) e]
   cases hp:partAt i l with
   |some x=>rfl
   |none=>simp[Ne.symm e]
theorem Yjs:∀ (offs:List Nat) (t:Ty) (k i:Nat) {f:Nat→List Value},Ydm k offs t→(∀ j,j<offs.length→f (i+j)=Yx (Y7 t j))→Yac f i t=Yx t:=by
 intro offs
 induction offs with
 |nil=>intro t k i f h hf;cases t<;>first | exact h.elim | rfl
 |cons o os ih=>
  intro t k i f h hf
  cases t with
  |pair a b=>
   obtain⟨rfl,h⟩:=h;simp only[Yac,Yx]
   have h0:=hf 0 (by simp)
   rw[Nat.add_zero] at h0
   rw[h0,ih b _ (i+1) h (fun j hj=>by
    have:=hf (j+1) (by simp;omega)
    rw[show i+1+j=i+(j+1) by omega];exact this)]
   rfl
  |_=>exact h.elim
theorem Yp2:∀ (fs:List Field) (t:Ty),(∀ i f,fs[i]? = some f→∃ j,P.info? f.type=some j∧j.size=(Y7 t i).size)→
  ∃ places,fs.mapM (fun f=>(P.info? f.type).map fun i=>(f.offset,i.size))=some places∧∀ (n:Nat) (f:Field),fs[n]? = some f→places[n]? = some (f.offset,(Y7 t n).size):=by
 intro fs
 have gen:∀ (fs:List Field) (sz:Nat→Nat),(∀ i f,fs[i]? = some f→∃ j,P.info? f.type=some j∧j.size=sz i)→
   ∃ places,fs.mapM (fun f=>(P.info? f.type).map fun i=>(f.offset,i.size))=some places∧∀ (n:Nat) (f:Field),fs[n]? = some f→places[n]? = some (f.offset,sz n):=by
  intro fs
  induction fs with
  |nil=>intro sz _;exact⟨[],rfl,fun n f h=>by simp at h⟩
  |cons f fs ih=>
   intro sz h;obtain⟨j,h1,h2⟩:=h 0 f rfl
   obtain⟨ps,p1,p2⟩:=ih (fun n=>sz (n+1)) (fun i f' hf=>h (i+1) f' (by simpa using hf))
   refine⟨(f.offset,j.size)::ps,by simp[List.mapM_cons,h1,p1],fun n f' hf=>?_⟩
   cases n with
   |zero=>simp at hf;subst hf;simp[h2]
   |succ n=>simp at hf;simpa using p2 n f' hf
 intro t h;exact gen fs (fun n=>(Y7 t n).size) h
theorem Yr4 (ht:Yag P tb) (I:Inv Z S C a w) (hg:Yax a g) {np d:Nat} {t:TypeId} {parts:Array (Nat×Operand)} (ho:o.op=.build t parts) (hd:o.dst=some d) (hgd:Yw S (some d)) (hdn:d<Z.nt) {b:Option Bool} {p:Patch}
  (h:(doR tb hn np g o).run S=some (.step b p)):Done P o a w fun u w'=>∃ C',Inv Z (S.ap p) C' (a.put o.dst u) w':=by
 simp only[doR,ho,hd] at h;replace h:=RD.bind_some h;obtain⟨i,h1,h⟩:=h
 split at h
 ·rename_i offs hid
  split at h
  ·rename_i hpo
   replace h:=RD.bind_some h;obtain⟨v,h2,h⟩:=h;cases h;obtain⟨⟨dd,hdd,hdk,hda⟩,⟨it,hit,hits,z,hz,hzc⟩⟩:=ht t i (Yp h1);rw[hid] at hdk;obtain⟨fs,rfl,hagg,hoffs,hfs⟩:=hdk;obtain⟨f1,f2,f3⟩:=Yl6 I hg parts.toList offs i.ty 0 0 h2
   obtain⟨places,pl1,pl2⟩:=Yp2 (P:=P) fs.toList i.ty (fun n f hf=>by
    obtain⟨j,de,q1,_,q3,_⟩:=hfs n f (by simpa using hf);exact⟨j,q1,q3⟩)
   have hplace:∀ n off,offs[n]? = some off→places.toArray[n]? = some (off,(Y7 i.ty n).size):=by
    intro n off hn;rw[←hoffs] at hn;simp only[Array.toList_map,List.getElem?_map,Option.map_eq_some_iff] at hn;obtain⟨f,hf,rfl⟩:=hn
    simpa using pl2 n f hf
   have hz0:Yac (fun n=>Yx (Y7 i.ty n)) 0 i.ty=Yx i.ty:=Yjs offs i.ty 0 0 f1 (fun j _=>by rw[Nat.zero_add])
   have hfill:=Yhp offs i.ty (places.toArray[·]?) f1 hplace (parts.toList.map fun x=>(x.1,a.eval x.2)) (fun n=>Yx (Y7 i.ty n)) (fun j _=>Yr _) (fun x hx=>by
    obtain⟨y,hy,rfl⟩:=List.mem_map.1 hx;obtain⟨q1,q2⟩:=Yon (i:=y.1) (x:=y.2) hpo hy
    exact⟨q2,f2 y.1 q2 y.2 (by rw[Nat.zero_add];exact q1)⟩)
   rw[hz0] at hfill
   have hzarr:(Yx i.ty).toArray=z.cells:=by rw[←hzc]
   rw[hzarr] at hfill;generalize hcs:(Yac (Yg0 (fun n=>Yx (Y7 i.ty n)) (parts.toList.map fun x=>(x.1,a.eval x.2))) 0 i.ty)=cs at hfill
   have hbuilt:P.built t (parts.map fun x=>(x.1,a.eval x.2)).toList=some cs.toArray:=by
    rw[Array.toList_map];unfold Program.built;simp only[hit,hdd,hz,pl1];exact hfill
   have hrun:=run_build (P:=P) w t (parts.map fun x=>(x.1,a.eval x.2)) cs.toArray hbuilt
   refine .inl ⟨.agg cs.toArray,w,.inl (by simp only[execOp,ho,Sem.run_bind,hrun,Result.andThen_ok];rfl),C,?_⟩
   rw[hd]
   obtain⟨r1,r2,r3⟩:=f3 (Yg0 (fun n=>Yx (Y7 i.ty n)) (parts.toList.map fun x=>(x.1,a.eval x.2))) (fun j hj=>by
    unfold Yg0 Ykw;rw[Nat.zero_add,Yj5 a hpo j]
    cases partAt j parts.toList<;>rfl)
   rw[hcs] at r1
   have hlen:cs.length=i.ty.size:=by
    rw[←hcs];refine Yoj offs i.ty 0 0 f1 (fun j hj=>?_);rw[Nat.zero_add];unfold Yg0;rw[Yj5 a hpo j]
    cases hp:partAt j parts.toList with
    |none=>exact Yr _
    |some x=>have:=f2 j hj x (by rw[Nat.zero_add];exact hp);simpa using this
   refine I.slot hgd hdn ?_
   have hval:Yd w (Mt Z C S.root noB) C.L S.root v (.agg cs.toArray):=⟨by simpa [Value.cells] using r1,by simp[Value.cells,hlen,r2],by rw[r3];exact⟨fun _=>⟨_,rfl⟩,fun _=>rfl⟩⟩
   have hpl:v.plain=true:=by
    rcases hval.1.Ypv (fun _ h=>h) with ⟨n,rfl⟩ | h
    ·cases r3
    ·exact h
   exact(hval.v hpl).tm _
  ·cases h
 ·cases h
end Mf
namespace Mf
open Go
set_option linter.unusedVariables false
set_option linter.unusedSimpArgs false
variable {Z:W0} {S:St} {C:Cx} {w w':World} {K K':Yk} {G:Ya} {C1:Cx} {D:Dd} {a:Act}
variable {P:Program} {tb:Tb} {g:Gd} {o:Oper} {hn:Hint}
def Yvc (i:Nat):List (Nat×Operand)→Prop
 |[]=>True
 |(j,_)::ps=>i=j∧Yvc (i+1) ps
def cellsS (a:Act) (ps:List (Nat×Operand)):List Value:=(ps.map fun x=>(a.eval x.2).cells.toList).flatten
theorem Yiz (sz:Nat):∀ (ps:List (Nat×Operand)) (i:Nat) (pre rest:List Value),Yvc i ps→(∀ x∈ps,(a.eval x.2).cells.size=sz)→pre.length=i*sz→rest.length=ps.length*sz→
  Instr.fill (fun i=>some (i*sz,sz)) (pre++rest).toArray (ps.map fun x=>(x.1,a.eval x.2))=some (pre++cellsS a ps).toArray
 |[],i,pre,rest,ho,hs,hp,hr=>by
  have:rest=[]:=List.length_eq_zero_iff.1 (by simpa using hr)
  subst this;simp[Instr.fill,cellsS]
 |(j,x)::ps,i,pre,rest,ho,hs,hp,hr=>by
  obtain⟨rfl,ho⟩:=ho;have hx:=hs (i,x) List.mem_cons_self
  dsimp only at hx
  rw[List.length_cons,Nat.add_mul,Nat.one_mul] at hr;simp only[List.map_cons,Instr.fill]
  have hcond:(decide ((a.eval x).cells.size≠sz) || decide (i*sz+(a.eval x).cells.size>(pre++rest).toArray.size))=false:=by
   simp only[Bool.or_eq_false_iff,decide_eq_false_iff_not,List.size_toArray,List.length_append]
   exact⟨by simp[hx],by omega⟩
  rw[if_neg (by rw[hcond];simp)]
  have hrest:rest=rest.take sz++rest.drop sz:=(List.take_append_drop sz rest).symm
  have hfold:(a.eval x).cells.zipIdx.foldl (fun cs (y:Value×Nat)=>cs.setIfInBounds (i*sz+y.2) y.1) (pre++rest).toArray=((pre++(a.eval x).cells.toList)++rest.drop sz).toArray:=by
   rw[←Array.foldl_toList,Array.toList_zipIdx]
   conv=>lhs;rw[hrest,←List.append_assoc]
   exact Yjb (a.eval x).cells.toList pre (rest.take sz) (rest.drop sz) (i*sz) 0 (by rw[List.length_take,Array.length_toList (xs:=(a.eval x).cells),hx];omega) (by omega)
  refine Eq.trans (congrArg (fun z=>Instr.fill (fun i=>some (i*sz,sz)) z (ps.map fun x=>(x.1,a.eval x.2))) hfold) ?_
  rw[Yiz sz ps (i+1) _ _ ho (fun y hy=>hs y (List.mem_cons_of_mem _ hy)) (by simp[hp,hx,Nat.add_mul]) (by rw[List.length_drop];omega)]
  simp[cellsS]
theorem Yv.Ywm {M:Ya} {e:Ty} {oo:Ow} {x:e.El} {cs:List Value} {F:Ya} (h:Rep w M e oo x (.reg cs 0) F) (hl:cs.length=e.size):Yv w M e oo [x] cs F:=by
 refine⟨by simp[hl],fun v hv=>?_,fun _=>F,fun i hi=>?_,fun i j hij hj=>?_⟩
 ·obtain⟨k,hk,rfl⟩:=List.mem_iff_getElem.1 hv
  obtain⟨v,e1,e2⟩:=h.cells k (by omega)
  simp only[Src.cell,Nat.zero_add] at e1;rw[List.getElem?_eq_getElem hk] at e1;cases e1;exact e2
 ·have:i=0:=by simp at hi;exact hi
  subst this
  exact⟨by simpa using h,fun _ h=>h⟩
 ·simp at hj;omega
theorem Yl2 (I:Inv Z S C a w) (hg:Yax a g) (np:Nat) (e:Ty):∀ (ps:List (Nat×Operand)) (i:Nat) {K K':Yk} {G:Ya} {C1:Cx} {D:Dd} {l:List e.El} {b:Bool},Yy Z S C w K G C1 D→Ye (Mt Z C1 (K.roots S) G) (Mt Z C S.root noB)→
  (Yie hn g np e K i ps).run S=some (l,b,K')→
  Yvc i ps∧(∀ x∈ps,(a.eval x.2).cells.size=e.size)∧l.length=ps.length∧∃ C2 D2 G2 F,Yy Z S C w K' G2 C2 D2∧Ye G G2∧Ye F G2∧Dis F G∧Ye (Mt Z C2 (K'.roots S) G2) (Mt Z C1 (K.roots S) G)∧
   (b=true→Yv w (Mt Z C2 (K'.roots S) G2) e .deep l (cellsS a ps) F)∧∀ M',Ye M' (Mt Z C2 (K'.roots S) G2)→(∀ x,F x→¬ M' x)→Yv w M' e .sh l (cellsS a ps) noB:=by
 intro ps
 induction ps with
 |nil=>
  intro i K K' G C1 D l b T hm h;simp only[Yie,RD.run] at h;cases h
  exact⟨trivial,fun x hx=>(by cases hx),rfl,C1,D,G,noB,T,fun _ h=>h,fun _ h=>h.elim,fun _ h=>h.elim,fun _ h=>h,fun _=>Yv.nil,fun _ _ _=>Yv.nil⟩
 |cons q ps ih=>
  obtain⟨j,x⟩:=q;intro i K K' G C1 D l b T hm h;simp only[Yie] at h
  split at h
  ·rename_i hij
   have hij:i=j:=by simpa using hij
   replace h:=RD.bind_some h;obtain⟨v,h1,h⟩:=h;replace h:=RD.bind_some h;obtain⟨⟨c,K1⟩,h2,h⟩:=h;simp only at h
   split at h
   ·rename_i oo t y
    split at h
    ·rename_i hte _;subst hte
     replace h:=RD.bind_some h;obtain⟨⟨l',b',K2⟩,h3,h⟩:=h;cases h
     obtain⟨hr,hsz⟩:=(Yg I hg h1).rep (fun l e=>by subst e;exact Ydw _ _ _ _ _ h2)
     obtain⟨C2,D2,F,G',t1,t2,t3,t4,t5,rc,m,sc⟩:=Yck _ np v _ T hm hr h2
     have hcl:(a.eval x).cells.toList.length=t.size:=by rw[Array.length_toList,hsz,←sc];rfl
     obtain⟨f1,f2,f3,C3,D3,G3,F3,u1,u2,u3,u4,u5,u6,u7⟩:=ih (i+1) t1 (fun b hb=>hm b (m b hb)) h3
     refine⟨⟨hij,f1⟩,fun z hz=>(List.mem_cons.1 hz).elim (fun e=>by subst e;simpa using hcl) (f2 z),by simp[f3],C3,D3,G3,fun b=>F b∨F3 b,u1,fun b hb=>u2 b (t2 b hb),
      fun b hb=>hb.elim (fun h=>u2 b (t3 b h)) (u3 b),fun b hb hg=>hb.elim (fun h=>t4 b h hg) (fun h=>u4 b h (t2 b hg)),fun b hb=>m b (u5 b hb),?_,?_⟩
     ·intro hb
      simp only[Bool.and_eq_true] at hb;have hrep:Rep w (Mt Z C3 (K2.roots S) G3) t oo y (.reg (a.eval x).cells.toList 0) F:=Yc.mono (tv:=.cl oo t y) rc u5
      have hdeep:Rep w (Mt Z C3 (K2.roots S) G3) t .deep y (.reg (a.eval x).cells.toList 0) F:=by
       have h1:=hb.1;unfold Yju at h1
       cases hp:t.pure with
       |true=>exact(Rep.pure hp hrep (fun _ _=>rfl)).sub (fun _ x=>x.elim)
       |false=>rw[hp] at h1;cases oo<;>first | exact hrep | cases h1
      exact(Yv.Ywm hdeep hcl).append (u6 hb.2) (fun b h1 h2=>u4 b h2 (t3 b h1)) (fun _ h=>.inl h) (fun _ h=>.inr h)
     ·intro M' hM' hF
      have hrep:Rep w (Mt Z C3 (K2.roots S) G3) t oo y (.reg (a.eval x).cells.toList 0) F:=Yc.mono (tv:=.cl oo t y) rc u5;have hlt:∀ b,F b→b<w.heap.size:=fun b hb=>(u1.str.gbnd b (u2 b (t3 b hb))).1;exact(Yv.Ywm (hrep.share hM' (fun b hb=>⟨hF b (.inl hb),hlt b hb⟩)) hcl).append (u7 M' hM' (fun b hb=>hF b (.inr hb))) (fun _ h=>h.elim) (fun _ h=>h.elim) (fun _ h=>h.elim)
    ·cases h
   ·cases h
  ·cases h
theorem Yjr (ht:Yag P tb) (I:Inv Z S C a w) (hg:Yax a g) {np d n:Nat} {t:TypeId} {parts:Array (Nat×Operand)} (ho:o.op=.buildSlice t n parts) (hd:o.dst=some d) (hnp:∀ i,np≤i→Z.P i=none) (hgd:Yw S (some d)) (hdn:d<Z.nt) {b:Option Bool} {p:Patch}
  (h:(doR tb hn np g o).run S=some (.step b p)):Done P o a w fun u w'=>∃ C',Inv Z (S.ap p) C' (a.put o.dst u) w':=by
 simp only[doR,ho,hd] at h;replace h:=RD.bind_some h;obtain⟨i,h1,h⟩:=h
 split at h
 ·rename_i e hie
  split at h
  ·rename_i hn hsz24
   have hn:n=parts.toList.length:=by simpa using hn
   have hsz24:n*e.size≤16777216:=by simpa using hsz24
   replace h:=RD.bind_some h;obtain⟨⟨l,bd,k⟩,h2,h⟩:=h;replace h:=RD.bind_some h;obtain⟨p',h3,h⟩:=h;cases h;obtain⟨⟨dd,hdd,hdk,hda⟩,_⟩:=ht t i (Yp h1);obtain⟨ee,rfl,te,j,q1,q2,q3,q4,⟨z,hz,hzc⟩,hby⟩:=Ym8 hdk hie;rw[hie] at q1;cases q1;obtain⟨f1,f2,f3,C2,D2,G2,F,u1,u2,u3,u4,u5,u6,u7⟩:=Yl2 I hg np _ parts.toList 0 (Yy.start I) (fun _ h=>h) h2
   have hlen:l.length=n:=by rw[f3,hn]
   have hcl:(cellsS a parts.toList).length=n*e.size:=by
    cases hbd:bd with
    |true=>have:=(u6 hbd).len;rw[hlen] at this;exact this
    |false=>have:=(u7 noB (fun _ h=>h.elim) (fun _ _ h=>h)).len;rw[hlen] at this;exact this
   have hrun:(Instr.buildSlice t n (parts.map fun x=>(x.1,a.eval x.2))).run P w=.ok (.slice (some ⟨w.heap.size,0,none⟩) n n) (Yad w (cellsS a parts.toList).toArray ee):=by
    have hfill:∀ zr:Array Value,zr.size=n*e.size→Instr.fill (fun i=>some (i*e.size,e.size)) zr (parts.toList.map fun x=>(x.1,a.eval x.2))=some (cellsS a parts.toList).toArray:=by
     intro zr hzr
     have:=Yiz (a:=a) e.size parts.toList 0 [] zr.toList f1 f2 (by simp) (by rw[Array.length_toList,hzr,hn])
     simpa using this
    have hb24:¬ (16777216<n*e.size):=by omega
    simp only[Instr.buildSlice,Sem.run_bind,run_underlying hdd,Result.andThen_ok,Y1 q2,q3]
    by_cases h0:n*e.size=0
    ·have hf:=hfill ((Array.range (n*e.size)).map (#[][· % (#[]:Array Value).size]!)) (by simp)
     simp[hb24,h0,newRow,Yad] at hf ⊢;rw[hf];simp
    ·have hf:=hfill ((Array.range (n*e.size)).map (z.cells[· % z.cells.size]!)) (by simp)
     simp[hb24,h0,newRow,Yad,zeroValue,typeInfo,q2,hz] at hf ⊢;rw[hf];simp
   refine .inl ⟨_,_,.inl (by simp only[execOp,ho,Sem.run_bind];rw[show(parts.map fun x=>match x with | (i,x)=>(i,a.eval x))=parts.map fun x=>(x.1,a.eval x.2) from rfl,hrun];rfl),?_⟩
   rw[hd];generalize hcs:(cellsS a parts.toList)=cs at *;have hlt:∀ b,F b→b<w.heap.size:=fun b hb=>(u1.str.gbnd b (u3 b hb)).1
   have hpush:Ya8 w (Yad w cs.toArray ee) cs.toArray:=⟨⟨ee,(0,0),rfl,fun i hi=>by simp⟩,rfl,rfl,rfl⟩
   generalize Yad w cs.toArray ee=w1 at hpush;have hG1:∀ b,(b=w.heap.size∨(bd=true∧F b))→G2 b∨b=w.heap.size:=fun b h=>h.elim .inr (fun h=>.inl (u3 b h.2))
   refine Yis I u1 (Fn:=fun b=>b=w.heap.size∨(bd=true∧F b)) (G1:=fun b=>b=w.heap.size∨(bd=true∧F b)) h3 hnp hgd hdn
    ⟨(hpush.hand G2).sz,(hpush.hand G2).same,fun b hb=>(hpush.hand G2).g b (hG1 b hb),hpush.os,hpush.tape,hpush.output⟩ rfl (fun M hM hex hin'=>?_) (fun _ h=>h)
   have hm:Ye (fun b=>M b∧b<w.heap.size) (Mt Z C2 (k.roots S) G2):=fun b ⟨h,hl⟩=>(hM b h).elim id (fun h=>by omega)
   have go:∀ F':Ya,(∀ b,F' b→b<w.heap.size)→Goes w w1 (fun b=>M b∧b<w.heap.size) M F':=fun F' hF'=>
    ⟨by rw[hpush.size];omega,fun b hb=>hpush.same (hF' b hb),fun b h1 h2=>⟨hpush.same h2,fun h=>h1 ⟨h,h2⟩⟩⟩
   have hcellw:∀ k,k<cs.length→w1.cell? ⟨w.heap.size,0+k,none⟩=cs[k]?:=by
    intro k hk;rw[Nat.zero_add,hpush.cell];simp
   cases hbd:bd with
   |true=>
    subst hbd
    exact Yv.row (oo:=.deep) (((u6 rfl).mono hm).go (go F hlt)) (by simp) hlen (Nat.le_refl _) (hpush.room (by simp[hcl])) hcellw (.inl rfl) (fun b h=>.inr ⟨rfl,h⟩) (fun h=>Nat.lt_irrefl _ (hlt _ h))
   |false=>
    subst hbd
    have hr:=(u7 _ hm (fun b hb hmb=>hex b (u3 b hb) (fun h=>h.elim (fun e=>by have:=hlt b hb;omega) (fun h=>by cases h.1)) hmb.1)).go (go noB (fun b h=>h.elim))
    exact Yv.row (oo:=.top) hr (by simp) hlen (Nat.le_refl _) (hpush.room (by simp[hcl])) hcellw (.inl rfl) (fun b h=>h.elim) (fun h=>h)
  ·cases h
 ·cases h
end Mf
namespace Mf
open Go
set_option linter.unusedVariables false
set_option linter.unusedSimpArgs false
variable {Z:W0} {S:St} {C:Cx} {w w':World} {K K':Yk} {G:Ya} {C1:Cx} {D:Dd} {a:Act}
variable {P:Program} {tb:Tb} {g:Gd} {o:Oper} {hn:Hint}
theorem Str.inside {Lf:TV→Value→Prop} {ρ:Yb} (I:Str Z Lf C noB ρ w) {r b0:Nat} {R R':Root} (hR:ρ r=some R) (hk:R.k=.reg) (hk':R'.k=.reg) (hb0:C.F r b0) (hsz:w'.heap.size=w.heap.size) (hs:∀ b,b≠b0→Same w w' b)
  (hrep:Yc w' (Mt Z C ρ noB) Lf R'.tv (C.L r) (C.F r)) (hos:w'.os=w.os) (htape:w'.tape=w.tape) (hout:w'.output=w.output)
  (hl:∀ q b off,nav w R.tv (C.L r) q=some (.mem b off)→nav w' R'.tv (C.L r) q=some (.mem b off))
  (hq:∀ q s,nav w R.tv (C.L r) q=some s→∀ o e,∀ xs:List e.El,R.tv.gr q=some (.cl o (.sl e) xs)→
   nav w' R'.tv (C.L r) q=some s∧s.cell w' 0=s.cell w 0∧∃ o',∃ xs':List e.El,R'.tv.gr q=some (.cl o' (.sl e) xs')∧xs'.length=xs.length) :
  Str Z Lf C noB (ρ.set r (some R')) w'∧Gs w w' (Mt Z C ρ noB) (Mt Z C (ρ.set r (some R')) noB) ρ (ρ.set r (some R')) C.L C.L Dd.none:=by
 have hto:Tot C r R'=Tot C r R:=by unfold Tot;rw[hk,hk']
 have hM:Mt Z C (ρ.set r (some R')) noB=Mt Z C ρ noB:=by
  funext b;unfold Mt;congr 1;apply propext;constructor
  ·rintro⟨i,Q,h1,h2⟩
   by_cases e:i=r
   ·subst e;rw[Yb.Yo] at h1;cases h1;exact⟨i,R,hR,hto▸h2⟩
   ·rw[Yb.Ym _ _ e] at h1;exact⟨i,Q,h1,h2⟩
  ·rintro⟨i,Q,h1,h2⟩
   by_cases e:i=r
   ·subst e;rw[hR] at h1;cases h1;exact⟨i,R',Yb.Yo _ _ _,hto.symm▸h2⟩
   ·exact⟨i,Q,by rw[Yb.Ym _ _ e];exact h1,h2⟩
 have hm0:Mt Z C ρ noB b0:=.inl ⟨r,R,hR,.inl hb0⟩;have hst:∀ b,¬ Mt Z C ρ noB b→b<w.heap.size→Same w w' b∧¬ Mt Z C ρ noB b:=fun b h _=>⟨hs b (fun e=>h (e▸hm0)),h⟩
 have hoth:∀ i Q,i≠r→ρ i=some Q→∀ b,Tot C i Q b→Same w w' b:=fun i Q hne h b hb=>hs b (fun e=>by subst e;exact I.dis i r Q R hne h hR b hb (.inl hb0))
 have hcell:∀ i Q,i≠r→ρ i=some Q→∀ k,(C.L i).cell w' k=(C.L i).cell w k:=by
  intro i Q hne h k
  cases hkk:Q.k with
  |reg=>obtain⟨cs,e⟩:=I.reg i Q h hkk;rw[e];rfl
  |mem=>
   obtain⟨b,off,e,_⟩:=I.mem i Q h hkk;rw[e];exact Same.cell (hoth i Q hne h b (.inr ⟨hkk,off,e⟩)) _
 have hgo:∀ i Q,i≠r→ρ i=some Q→Goes w w' (Mt Z C ρ noB) (Mt Z C ρ noB) (C.F i):=fun i Q hne h=>⟨by rw[hsz];exact Nat.le_refl _,fun b hb=>hoth i Q hne h b (.inl hb),hst⟩
 obtain⟨_,_,hb3,hb4⟩:=I.bnd r R b0 hR hb0;have hK0:∀ i,¬ Z.K b0 i:=(I.bnd r R b0 hR hb0).2.1
 refine⟨⟨?_,?_,?_,?_,fun _ h=>h.elim,?_,fun _ _ _ _ _ h=>h,?_,by rw[hsz];exact I.sz,?_,?_,?_,I.xb,I.kb,by rw[hos,I.os],by rw[htape,I.tape],by rw[hout,I.output]⟩,⟨by rw[hsz];exact Nat.le_refl _,?_,?_,?_⟩⟩
 ·intro i Q h
  rw[hM]
  by_cases e:i=r
  ·subst e;rw[Yb.Yo] at h;cases h;exact hrep
  ·rw[Yb.Ym _ _ e] at h;exact(I.rep i Q h).go (hgo i Q e h) (fun k _=>hcell i Q e h k) (fun _ _ x=>x)
 ·intro i Q h hkk
  by_cases e:i=r
  ·subst e;exact I.reg i R hR hk
  ·rw[Yb.Ym _ _ e] at h;exact I.reg i Q h hkk
 ·intro i Q h hkk
  by_cases e:i=r
  ·subst e;rw[Yb.Yo] at h;cases h;rw[hk'] at hkk;cases hkk
  ·rw[Yb.Ym _ _ e] at h
   obtain⟨b,off,e1,e2,e3,e4,e5⟩:=I.mem i Q h hkk;have hb:=hoth i Q e h b (.inr ⟨hkk,off,e1⟩)
   exact⟨b,off,e1,e2,by rw[hsz];exact e3,fun k hk=>by rw[hb.cell,hb.frozen];exact e4 k hk,e5⟩
 ·intro i Q b h hb
  by_cases e:i=r
  ·subst e;rw[hsz];exact I.bnd i R b hR hb
  ·rw[Yb.Ym _ _ e] at h;rw[hsz];exact I.bnd i Q b h hb
 ·intro i j Q1 Q2 hne h1 h2
  by_cases e:i=r
  ·subst e;rw[Yb.Yo] at h1;cases h1;rw[Yb.Ym _ _ (Ne.symm hne)] at h2;rw[hto];exact I.dis i j R Q2 hne hR h2
  ·rw[Yb.Ym _ _ e] at h1
   by_cases e':j=r
   ·subst e';rw[Yb.Yo] at h2;cases h2;rw[hto];exact I.dis i j Q1 R hne h1 hR
   ·rw[Yb.Ym _ _ e'] at h2;exact I.dis i j Q1 Q2 hne h1 h2
 ·intro i Q h
  by_cases e:i=r
  ·subst e;rw[Yb.Yo] at h;cases h;have:=I.plc i R hR;rw[hk] at this;exact⟨this.1,fun e=>by rw[hk'] at e;cases e⟩
  ·rw[Yb.Ym _ _ e] at h;exact I.plc i Q h
 ·intro b hb hm
  refine(I.old b hb hm).trans (hs b (fun e=>?_))
  subst e;rcases hb4 with h | h
  ·exact hm h
  ·omega
 ·intro b i hkk
  rw[←I.kp b i hkk]
  exact Same.cell (hs b (fun e=>by subst e;exact hK0 i hkk)) _
 ·intro b i j hkk
  rw[←I.kf b i j hkk]
  exact Same.frozen (hs b (fun e=>by subst e;exact hK0 i hkk)) _
 ·intro b h1 h2;rw[hM];exact hst b h1 h2
 ·intro i q Q b off _ h1 h2
  by_cases e:i=r
  ·subst e;rw[hR] at h1;cases h1;exact⟨R',Yb.Yo _ _ _,hl q b off h2⟩
  ·exact⟨Q,by rw[Yb.Ym _ _ e];exact h1,(Ybt q (I.rep i Q h1) (hgo i Q e h1) (fun k _=>hcell i Q e h1 k) h2).1⟩
 ·intro i q Q s _ h1 h2 o e xs h3
  by_cases e':i=r
  ·subst e';rw[hR] at h1;cases h1
   obtain⟨n1,n2,o',xs',n3,n4⟩:=hq q s h2 o e xs h3;exact⟨R',Yb.Yo _ _ _,n1,n2,o',xs',n3,n4⟩
  ·obtain⟨n1,n2⟩:=Ybt q (I.rep i Q h1) (hgo i Q e' h1) (fun k _=>hcell i Q e' h1 k) h2
   exact⟨Q,by rw[Yb.Ym _ _ e'];exact h1,n1,n2 o e xs h3,o,xs,h3,rfl⟩
end Mf
namespace Mf
open Go
set_option linter.unusedVariables false
set_option linter.unusedSimpArgs false
variable {Z:W0} {S:St} {C:Cx} {w w':World} {K K':Yk} {G:Ya} {C1:Cx} {D:Dd} {a:Act}
variable {P:Program} {tb:Tb} {g:Gd} {o:Oper} {hn:Hint}
theorem Yi4 {α:Type} (xs:List α) (lo:Nat) (ys:List α) (h:lo+ys.length≤xs.length):(splice xs lo ys).length=xs.length:=by
 unfold splice;simp;omega
theorem Yqe {α:Type} (xs:List α) (lo:Nat) (ys:List α) (h:lo+ys.length≤xs.length) (i:Nat) (hi:i<(splice xs lo ys).length) :
  (∃ hj:i-lo<ys.length,lo≤i∧(splice xs lo ys)[i]'hi=ys[i-lo]'hj)∨((i<lo∨lo+ys.length≤i)∧∃ hx:i<xs.length,(splice xs lo ys)[i]'hi=xs[i]'hx):=by
 have hl:=Yi4 xs lo ys h
 have hi':i<xs.length:=by omega
 unfold splice at hi ⊢
 by_cases h1:i<lo
 ·right;refine⟨.inl h1,hi',?_⟩
  rw[List.getElem_append_left (by simp;omega),List.getElem_append_left (by simp;omega)];simp
 ·by_cases h2:i<lo+ys.length
  ·left;refine⟨by omega,by omega,?_⟩
   rw[List.getElem_append_left (by simp;omega),List.getElem_append_right (by simp;omega)]
   congr 1;simp;omega
  ·right;refine⟨.inr (by omega),hi',?_⟩
   rw[List.getElem_append_right (by simp;omega)]
   simp;congr 1;omega
def Yir (w:World) (A:Option Addr) (cs:List Value):World:=match A with | some ad=>w.setCells ad.block ad.off cs | none=>w
theorem setCells_nil (w:World) (b off:Nat):w.setCells b off []=w:=rfl
theorem Ysm (w:World) (A:Option Addr):Yir w A []=w:=by cases A<;>rfl
theorem Yne (I:Inv Z S C a w) {vs:TV} {u:Value} (hv:VOk w (Mt Z C S.root noB) C.L S.root vs u) {v:TV} {f:(e:Ty)→(n:Nat)→Option (List e.El)} {b:Option Bool} {p:Patch}
  (h:(over o.dst v vs f).run S=some (.step b p)) (hgd:Yw S o.dst) (hd:∀ d,o.dst=some d→d<Z.nt) :
  b=none∧∃ e n ys A c,f e n=some ys∧e.pure=true∧u=.slice A n c∧(n≠0→∃ bb off,A=some ⟨bb,off,none⟩∧Room w bb off (n*e.size))∧
   ∀ (cs:List Value) (x:Value),Yv w noB e .sh ys cs noB→ys.length≤n→(∀ (w':World) M L ρ,VOk w' M L ρ v x)→∃ C',Inv Z (S.ap p) C' (a.put o.dst x) (Yir w A cs):=by
 have key:∀ (r lo n:Nat) (R:Root) (ow:Ow) (e:Ty) (xs ys:List e.El) (A A':Option Addr) (c c':Nat),S.root r=some R→R=⟨.reg,.cl ow (.sl e) xs⟩→ow≠.sh→e.pure=true→f e n=some ys→
   (C.L r).cell w 0=some (.slice A xs.length c)→u=.slice A' n c'→lo+n≤xs.length→(n≠0→A'=A.map (fun ad=>ad.add (lo*e.size)))→b=none→
   p=⟨match o.dst with | some d=>[(d,v)] | none=>[],[(r,some ⟨.reg,.cl ow (.sl e) (splice xs lo ys)⟩)],[]⟩→
   b=none∧∃ e n ys A c,f e n=some ys∧e.pure=true∧u=.slice A n c∧(n≠0→∃ bb off,A=some ⟨bb,off,none⟩∧Room w bb off (n*e.size))∧
   ∀ (cs:List Value) (x:Value),Yv w noB e .sh ys cs noB→ys.length≤n→(∀ (w':World) M L ρ,VOk w' M L ρ v x)→∃ C',Inv Z (S.ap p) C' (a.put o.dst x) (Yir w A cs):=by
  intro r lo n R ow e xs ys A A' c c' hR hRR how hpure hf hcell hu hle hA hb hp;subst hRR;have hrep:Rep w (Mt Z C S.root noB) (.sl e) ow xs (C.L r) (C.F r):=I.str.rep r _ hR;obtain⟨A0,c0,q1,q2,q3⟩:=id hrep;rw[hcell] at q1;cases q1
  have q3':c≠0→∃ b off,∃ Fs:Nat→Ya,A=some ⟨b,off,none⟩∧C.F r b∧Room w b off (c*e.size)∧
    (∀ i (h:i<xs.length),Rep w (Mt Z C S.root noB) e ow.elem (xs[i]'h) (.mem b (off+i*e.size)) (Fs i)):=by
   intro hc
   cases ow with
   |sh=>exact absurd rfl how
   |top=>obtain⟨b,off,Fs,r1,r2,r3,r4,_⟩:=q3 hc;exact⟨b,off,Fs,r1,r2,r3,fun i hi=>(r4 i hi).1⟩
   |deep=>obtain⟨b,off,Fs,r1,r2,r3,r4,_⟩:=q3 hc;exact⟨b,off,Fs,r1,r2,r3,fun i hi=>(r4 i hi).1⟩
  have hroots:p.roots S=Yb.set S.root r (some ⟨.reg,.cl ow (.sl e) (splice xs lo ys)⟩):=by
   subst hp;funext i;unfold Patch.roots Yb.set
   by_cases h:i=r
   ·subst h;rw[Yl,if_pos rfl]
   ·rw[Yu h,if_neg h];rfl
  have hks:p.ks=[]:=by rw[hp]
  have hptm:p.tm=match o.dst with | some d=>[(d,v)] | none=>[]:=by rw[hp]
  refine⟨hb,e,n,ys,A',c',hf,hpure,hu,fun hn=>?_,fun cs x hrow hyn hvx=>?_⟩
  ·obtain⟨bb,off,Fs,r1,r2,r3,r4⟩:=q3' (by omega)
   refine⟨bb,off+lo*e.size,by rw[hA hn,r1];simp[Addr.add_mid],fun i hi=>?_⟩
   have h1:(lo+n)*e.size≤c*e.size:=Nat.mul_le_mul_right _ (by omega)
   rw[Nat.add_mul] at h1
   have:=r3 (lo*e.size+i) (by omega)
   rwa [←Nat.add_assoc] at this
  ·
   have fin:∀ (w':World),Str Z (Yi w (Mt Z C S.root noB) C.L S.root) C noB (p.roots S) w'→Gs w w' (Mt Z C S.root noB) (Mt Z C (p.roots S) noB) S.root (p.roots S) C.L C.L Dd.none→∃ C',Inv Z (S.ap p) C' (a.put o.dst x) w':=by
    intro w' J Gw;refine⟨C,Inv.ap (Q:=fun _ _=>False) I (J.lf (fun _ _ h=>.inl h)) Gw (fun _ _ h=>h.elim) (fun _ _ _ _ h=>h.elim) (fun _ _ _ _ h=>h.elim) hgd ?_ ?_⟩
    ·intro d e';refine⟨hd d e',v,?_⟩;rw[hptm,e'];exact Yl _ _ _
    ·intro i v' hl
     rw[hptm] at hl
     cases hdst:o.dst with
     |none=>rw[hdst] at hl;cases hl
     |some d=>
      rw[hdst] at hl
      by_cases e':i=d
      ·subst e';rw[Yl] at hl;cases hl;exact⟨rfl,(hvx _ _ _ _).tm _⟩
      ·rw[Yu e'] at hl;cases hl
   rcases Nat.eq_zero_or_pos ys.length with h0 | h0
   ·have hy0:ys=[]:=List.length_eq_zero_iff.1 h0
    subst hy0
    have hcs:cs=[]:=List.length_eq_zero_iff.1 (by have:=hrow.len;simpa using this)
    subst hcs
    have hsp:splice xs lo ([]:List e.El)=xs:=by simp[splice]
    have hsame:p.roots S=S.root:=by
     rw[hroots,hsp];funext i;unfold Yb.set
     by_cases h:i=r
     ·subst h;rw[if_pos rfl,hR]
     ·rw[if_neg h]
    rw[Ysm]
    exact fin w (by rw[hsame];exact I.str) (by rw[hsame];exact Gs.refl _ _ _ _)
   ·obtain⟨bb,off,Fs,r1,r2,r3,r4⟩:=q3' (by omega)
    have hA':A'=some ⟨bb,off+lo*e.size,none⟩:=by rw[hA (by omega),r1];simp[Addr.add_mid]
    have hcl:=hrow.len
    have hmul:(lo+ys.length)*e.size≤c*e.size:=Nat.mul_le_mul_right _ (by omega)
    rw[Nat.add_mul] at hmul
    have hrm:∀ k,k<cs.length→(w.cell? ⟨bb,off+lo*e.size+k,none⟩).isSome=true∧w.frozen? ⟨bb,off+lo*e.size+k,none⟩=false:=fun k hk=>by
     have:=r3 (lo*e.size+k) (by omega);rwa [←Nat.add_assoc] at this
    have hwr:Yir w A' cs=w.setCells bb (off+lo*e.size) cs:=by rw[hA'];rfl
    rw[hwr];generalize hw':w.setCells bb (off+lo*e.size) cs=w'
    have hsame:∀ b,b≠bb→Same w w' b:=fun b hb=>by rw[←hw'];exact Ya3 bb hb _ _ w
    have hsize:w'.heap.size=w.heap.size:=by rw[←hw'];exact setCells_size _ _ _ _
    have hspl:=Yi4 xs lo ys (by omega)
    have cin:∀ k,k<cs.length→w'.cell? ⟨bb,off+lo*e.size+k,none⟩=cs[k]?:=fun k hk=>by
     rw[←hw',World.cell?_setCells_in bb cs _ w (fun j hj=>(hrm j hj).1) k hk,List.getElem?_eq_getElem hk]
    have cout:∀ k,(k<lo*e.size∨lo*e.size+cs.length≤k)→w'.cell? ⟨bb,off+k,none⟩=w.cell? ⟨bb,off+k,none⟩:=fun k hk=>by
     rw[←hw',World.cell?_setCells_out bb _ _ _ _ (fun _ _=>by show off+k<_∨_≤off+k;omega)]
    have hroomw:Room w' bb off (c*e.size):=by
     intro k hk;have:=r3 k hk
     refine⟨?_,by rw[←hw',World.frozen?_setCells];exact this.2⟩
     by_cases hin:lo*e.size≤k∧k<lo*e.size+cs.length
     ·have:=cin (k-lo*e.size) (by omega)
      rw[show off+lo*e.size+(k-lo*e.size)=off+k by omega] at this
      rw[this,List.getElem?_eq_getElem (by omega)];rfl
     ·rw[cout k (by omega)];exact this.1
    obtain⟨_,_,Fs2,hr2,_⟩:=hrow
    have helt:∀ i (hi:i<(splice xs lo ys).length),Rep w' (Mt Z C S.root noB) e ow.elem ((splice xs lo ys)[i]'hi) (.mem bb (off+i*e.size)) noB:=by
     intro i hi
     rcases Yqe xs lo ys (by omega) i hi with ⟨hj,hlo,e1⟩ | ⟨hout,hx,e1⟩
     ·rw[e1]
      refine Rep.pure hpure (hr2 _ hj).1 (fun k hk=>?_);have h1:=Yay (sz:=e.size) hj
      have h2:lo*e.size+(i-lo)*e.size=i*e.size:=by rw[←Nat.add_mul];congr 1;omega
      simp only[Src.cell]
      have:=cin ((i-lo)*e.size+k) (by omega)
      rw[show off+lo*e.size+((i-lo)*e.size+k)=off+i*e.size+k by omega] at this
      exact this
     ·rw[e1]
      refine Rep.pure hpure (r4 i hx) (fun k hk=>?_);simp only[Src.cell]
      have:=cout (i*e.size+k) (by
       rcases hout with h | h
       ·left
        have:(i+1)*e.size≤lo*e.size:=Nat.mul_le_mul_right _ (by omega)
        rw[Nat.add_mul] at this;omega
       ·right
        have:(lo+ys.length)*e.size≤i*e.size:=Nat.mul_le_mul_right _ h
        rw[Nat.add_mul] at this;omega)
      rwa [←Nat.add_assoc] at this
    obtain⟨csr,hreg⟩:=I.str.reg r _ hR rfl
    have hhead:(C.L r).cell w' 0=(C.L r).cell w 0:=by rw[hreg];rfl
    have hnav:∀ q s1,nav w (.cl ow (.sl e) xs) (C.L r) q=some s1→nav w' (.cl ow (.sl e) (splice xs lo ys)) (C.L r) q=some s1:=by
     intro q s1 hn
     cases q with
     |nil=>rw[Yf] at hn ⊢;exact hn
     |cons t q=>
      cases t with
      |el i=>
       simp only[nav] at hn ⊢;rw[hspl,hhead]
       split at hn
       ·rename_i hi
        rw[if_pos hi];rw[hcell] at hn ⊢;subst r1
        exact Yf4 q hpure (by rfl) hn
       ·cases hn
      |f1=>simp[nav] at hn
      |f2=>simp[nav] at hn
    have hrow':Rep w' (Mt Z C S.root noB) (.sl e) ow (splice xs lo ys) (C.L r) (C.F r):=by
     refine⟨A,c,by rw[hhead,hcell,hspl],by rw[hspl];exact q2,?_⟩
     have own:c≠0→∃ b off,∃ Fs:Nat→Ya,A=some ⟨b,off,none⟩∧C.F r b∧Room w' b off (c*e.size)∧
       (∀ i (h:i<(splice xs lo ys).length),Rep w' (Mt Z C S.root noB) e ow.elem ((splice xs lo ys)[i]'h) (.mem b (off+i*e.size)) (Fs i)∧Ye (Fs i) (C.F r)∧¬ Fs i b)∧(∀ i j,i<j→j<(splice xs lo ys).length→Dis (Fs i) (Fs j)):=
      fun _=>⟨bb,off,fun _=>noB,r1,r2,hroomw,fun i hi=>⟨helt i hi,fun _ h=>h.elim,fun h=>h⟩,fun _ _ _ _ _ h=>h.elim⟩
     cases ow with
     |sh=>exact absurd rfl how
     |top=>exact own
     |deep=>exact own
    obtain⟨J,Gw⟩:=I.str.inside (w':=w') (R':=⟨.reg,.cl ow (.sl e) (splice xs lo ys)⟩) hR rfl rfl r2 hsize hsame hrow' (by rw[←hw'];exact World.os_setCells _ _ _ _) (by rw[←hw'];exact Yb0 _ _ _ _) (by rw[←hw'];exact World.output_setCells _ _ _ _)
     (fun q b off' hn=>hnav q _ hn) (fun q s1 hn o' e' xs' hg=>by
      rw[Yg8] at hg
      cases q with
      |nil=>
       rw[TV.get_nil] at hg;cases hg;rw[Yf] at hn;cases hn
       exact⟨Yf _ _ _,hhead,ow,_,Yeb (TV.get_nil _),hspl⟩
      |cons t q=>
       cases t with
       |el i=>exact(Ym0 q hpure hg).elim
       |f1=>cases hg
       |f2=>cases hg)
    exact fin w' (by rw[hroots];exact J) (by rw[hroots];exact Gw)
 have viaR:∀ (r lo n:Nat) (n? : Option Nat) (R:Root),S.root r=some R→(∀ ow e,∀ xs:List e.El,R=⟨.reg,.cl ow (.sl e) xs⟩→n?.getD xs.length=n∧∃ A A' c c',(C.L r).cell w 0=some (.slice A xs.length c)∧u=.slice A' n c'∧lo+n≤xs.length∧(n≠0→A'=A.map (fun ad=>ad.add (lo*e.size))))→
   (ovR o.dst v r lo n? R f).run S=some (.step b p)→b=none∧∃ e n ys A c,f e n=some ys∧e.pure=true∧u=.slice A n c∧(n≠0→∃ bb off,A=some ⟨bb,off,none⟩∧Room w bb off (n*e.size))∧
   ∀ (cs:List Value) (x:Value),Yv w noB e .sh ys cs noB→ys.length≤n→(∀ (w':World) M L ρ,VOk w' M L ρ v x)→∃ C',Inv Z (S.ap p) C' (a.put o.dst x) (Yir w A cs):=by
  intro r lo n n? R hR hfacts h;unfold ovR at h
  split at h
  ·rename_i ow e xs hk htv
   have hRR:R=⟨.reg,.cl ow (.sl e) xs⟩:=by cases R;simp only at hk htv;rw[hk,htv]
   obtain⟨hn,A,A',c,c',f1,f2,f3,f4⟩:=hfacts ow e xs hRR;rw[hn] at h
   split at h
   ·cases h
   ·rename_i ys hns hpure hf
    cases h;exact key r lo n R _ _ _ _ _ _ _ _ hR hRR (fun h=>hns h) hpure hf f1 f2 f3 f4 rfl rfl
   ·cases h
  ·cases h
 unfold over at h
 split at h
 ·rename_i r
  simp only[RD.run] at h
  split at h
  ·rename_i R hR
   obtain⟨R',s,o1,e1,xs1,k1,k2,k3,k4,_⟩:=(hv:Yd _ _ _ _ _ _).leaf rfl;rw[hR] at k1;cases k1;rw[Yf] at k2;cases k2;refine viaR r 0 xs1.length none R hR (fun ow e xs hRR=>?_) h;subst hRR;rw[Yg8,TV.get_nil] at k3;cases k3;have hrep:Rep w (Mt Z C S.root noB) (.sl e1) o1 xs1 (C.L r) (C.F r):=I.str.rep r _ hR;obtain⟨A0,c0,q1,q2,q3⟩:=hrep
   refine⟨rfl,A0,A0,c0,c0,q1,?_,by omega,fun _=>by cases A0<;>simp[Addr.add]⟩
   rw[q1] at k4;exact(Option.some.inj k4).symm
  ·cases h
 ·rename_i r lo n
  simp only[RD.run] at h
  split at h
  ·rename_i R hR
   obtain⟨R',s,o1,e1,xs1,A,len,c,A',c',k1,k2,k3,k4,k5,k6,k7,k8,k9⟩:=(hv:Yd _ _ _ _ _ _).leaf rfl;rw[hR] at k1;cases k1;rw[Yf] at k2;cases k2;refine viaR r lo n (some n) R hR (fun ow e xs hRR=>?_) h;subst hRR;rw[Yg8,TV.get_nil] at k3;cases k3;have hrep:Rep w (Mt Z C S.root noB) (.sl e1) o1 xs1 (C.L r) (C.F r):=I.str.rep r _ hR;obtain⟨A0,c0,q1,q2,q3⟩:=hrep;rw[k4] at q1;cases q1
   exact⟨rfl,A,A',c,c',k4,k5,k6,fun hn=>k9 (by omega)⟩
  ·cases h
 ·cases h
end Mf
namespace Mf
open Go
set_option linter.unusedVariables false
set_option linter.unusedSimpArgs false
variable {Z:W0} {S:St} {C:Cx} {w w':World} {K K':Yk} {G:Ya} {C1:Cx} {D:Dd} {a:Act}
variable {P:Program} {tb:Tb} {g:Gd} {o:Oper} {hn:Hint}
theorem Yv.take {M:Ya} {e:Ty} {oo:Ow} {xs:List e.El} {cs:List Value} {F:Ya} (h:Yv w M e oo xs cs F) (n:Nat):Yv w M e oo (xs.take n) (cs.take (n*e.size)) F:=by
 obtain⟨h1,h2,Fs,h3,h4⟩:=h
 refine⟨?_,fun v hv=>h2 v (List.mem_of_mem_take hv),Fs,fun i hi=>?_,fun i j hij hj=>h4 i j hij (by simp at hj;omega)⟩
 ·rw[List.length_take,List.length_take,h1]
  rcases Nat.le_total n xs.length with hle | hle
  ·rw[Nat.min_eq_left hle,Nat.min_eq_left (Nat.mul_le_mul_right _ hle)]
  ·rw[Nat.min_eq_right hle,Nat.min_eq_right (Nat.mul_le_mul_right _ hle)]
 ·have hi':i<n∧i<xs.length:=by rw[List.length_take] at hi;omega
  rw[List.getElem_take];refine⟨(h3 i hi'.2).1.mv (fun k hk=>?_),(h3 i hi'.2).2⟩;have:=Yay (sz:=e.size) hi'.1;simp only[Src.cell]
  rw[List.getElem?_take,if_pos (by omega)]
theorem Yrt {A:Option Addr} {n:Nat} {e:Ty} {cs:List Value} (hA:n≠0→∃ bb off,A=some ⟨bb,off,none⟩∧Room w bb off (n*e.size)) (hl:cs.length≤n*e.size) (h1:∀ v∈cs,v.oneCell'=true) :
  (match A with | some a=>storeCells a cs | none=>pure ()).run P w=.ok () (Yir w A cs):=by
 cases A with
 |none=>
  cases cs with
  |nil=>rfl
  |cons v l=>
   have:n≠0:=by rintro rfl;simp at hl
   obtain⟨bb,off,e,_⟩:=hA this;cases e
 |some ad=>
  cases cs with
  |nil=>rfl
  |cons v l=>
   have:n≠0:=by rintro rfl;simp at hl
   obtain⟨bb,off,e,hr⟩:=hA this;cases e
   have:=run_storeCells_cells (P:=P) bb off (v::l) 0 w (fun j hj=>by simpa using (hr j (by omega)).1) (fun j hj=>by simpa using (hr j (by omega)).2) h1
   simpa [Yir] using this
theorem Yt0 (ht:Yag P tb) (I:Inv Z S C a w) (hg:Yax a g) {np:Nat} {args:Array Operand} {ats:Array TypeId} (ho:o.op=.call ⟨.builtin .copy,args,ats⟩) (hgd:Yw S o.dst) (hd:∀ d,o.dst=some d→d<Z.nt) {b:Option Bool} {p:Patch}
  (h:(doR tb hn np g o).run S=some (.step b p)):Done P o a w fun u w'=>∃ C',Inv Z (S.ap p) C' (a.put o.dst u) w':=by
 simp only[doR,ho] at h
 split at h
 ·rename_i s x t ts hargs hats
  replace h:=RD.bind_some h;obtain⟨i,h1,h⟩:=h;replace h:=RD.bind_some h;obtain⟨vs,h2,h⟩:=h;replace h:=RD.bind_some h;obtain⟨vx,h3,h⟩:=h;replace h:=RD.bind_some h;obtain⟨⟨⟨e',ys,oy⟩,k⟩,h4,h⟩:=h;simp only at h
  split at h
  ·rename_i hty _
   replace h:=RD.bind_some h;obtain⟨n,h5,h⟩:=h;have hvs:=Yg I hg h2;obtain⟨hb,e,n',ys',A,c,hf,hpure,hu,hA,hfin⟩:=Yne I hvs h hgd hd
   split at hf
   ·rename_i he _;subst he
    cases hf;obtain⟨hoy,C2,D2,F2,G2,news,ST⟩:=Yf1 (P:=P) I (Yg I hg h3) h4;obtain⟨⟨ds,hds,hsk,_⟩,_⟩:=ht t i (Yp h1);obtain⟨ee,rfl,te,j,q1,q2,q3,q4,⟨z,hz,hzc⟩,hby⟩:=Ym8 hsk hty.symm;rw[←hty] at q1;cases q1
    have hargs':args=#[s,x]:=by rw[←Array.toArray_toList (xs:=args),hargs]
    have hat0:ats[0]? = some t:=by rw[←Array.getElem?_toList,hats];rfl
    have hn:n=n':=by
     have hns:∀ o x,vs≠.cl o .str x:=by
      rintro o x rfl;have:=(hvs:Yd _ _ _ _ _ _).str;obtain⟨z,e1,_⟩:=this;rw[hu] at e1;cases e1
     obtain⟨A',c',e1⟩:=Yed I hvs h5 hns;rw[hu] at e1;cases e1;rfl
    subst hn
    have hsrcl:(Builtin.lenOf (a.eval x)).run P w=.ok ys.length w:=by
     rcases ST.form with ⟨A',c',e1,_⟩ | ⟨z',e1,_,e3,_⟩
     ·rw[e1];rfl
     ·rw[e1,e3];rfl
    have hcells:(Builtin.firstCells e'.size (Nat.min ys.length n) (a.eval x)).run P w=.ok (news.take (Nat.min ys.length n*e'.size)).toArray w:=by
     have hl:=ST.row.len;have hle:Nat.min ys.length n≤ys.length:=Nat.min_le_left _ _;have hm:Nat.min ys.length n*e'.size≤ys.length*e'.size:=Nat.mul_le_mul_right _ hle;rcases ST.form with ⟨A',c',e1,h⟩ | ⟨z',e1,e2,e3,rfl⟩
     ·rw[e1]
      cases A' with
      |none=>
       have:news=[]:=by
        cases news with
        |nil=>rfl
        |cons v l=>obtain⟨a,e,_⟩:=h 0 v rfl;cases e
       subst this
       simp[Builtin.firstCells]
      |some ad=>
       exact run_firstCells_some w e'.size _ ad ys.length c' _ (by rw[List.length_take];omega) (fun j u hj=>by
        rw[List.getElem?_take] at hj
        split at hj
        ·obtain⟨a',e,h⟩:=h j u hj;cases e;exact h
        ·cases hj)
     ·rw[e1,e2]
      simp[Builtin.firstCells,byteCells];apply Array.ext';simp[List.map_take]
    have htk:ys.take n=ys.take (Nat.min ys.length n):=by
     show _=ys.take (min ys.length n);rcases Nat.le_total n ys.length with hle | hle
     ·rw[Nat.min_eq_right hle]
     ·rw[Nat.min_eq_left hle,List.take_of_length_le hle,List.take_length]
    have hrow:Yv w noB e' .sh (ys.take n) (news.take (Nat.min ys.length n*e'.size)) noB:=by
     rw[htk];exact(ST.row.take _).pure hpure
    have hlen:=hrow.len
    have hln:(ys.take n).length≤n:=by rw[List.length_take];exact Nat.min_le_left _ _
    have hst:=Yrt (P:=P) (w:=w) (e:=e') (cs:=news.take (Nat.min ys.length n*e'.size)) hA (by rw[hlen];exact Nat.mul_le_mul_right _ hln) hrow.one
    have hrun:(Builtin.copy_ ats o.type #[a.eval s,a.eval x]).run P w=.ok (goInt (Nat.min ys.length n)) (Yir w A (news.take (Nat.min ys.length n*e'.size))):=by
     simp only[Builtin.copy_,hat0,hu];simp[run_underlying hds,hsrcl,Y1 q2,q3,hcells]
     cases A with
     |none=>simp at hst ⊢;simpa using hst
     |some ad=>simp at hst ⊢;simp[hst]
    subst hargs';obtain⟨C',hI⟩:=hfin _ (.int .i64 ((min ys.length n:Nat):Int)) hrow hln (fun w' M L ρ=>Yd.Ycb _ _ _)
    exact .inl ⟨_,_,.inl (by simp[execOp,ho,resolve,invoke,builtin,hrun];rfl),C',hI⟩
   ·cases hf
  ·cases h
 ·cases h
theorem Ysb (ht:Yag P tb) (I:Inv Z S C a w) (hg:Yax a g) {np:Nat} {args:Array Operand} {ats:Array TypeId} (ho:o.op=.call ⟨.builtin .clear,args,ats⟩) (hgd:Yw S o.dst) (hd:∀ d,o.dst=some d→d<Z.nt) {b:Option Bool} {p:Patch}
  (h:(doR tb hn np g o).run S=some (.step b p)):Done P o a w fun u w'=>∃ C',Inv Z (S.ap p) C' (a.put o.dst u) w':=by
 simp only[doR,ho] at h
 split at h
 ·rename_i s t ts hargs hats
  replace h:=RD.bind_some h;obtain⟨i,h1,h⟩:=h;replace h:=RD.bind_some h;obtain⟨vs,h2,h⟩:=h;have hvs:=Yg I hg h2;obtain⟨hb,e,n,ys',A,c,hf,hpure,hu,hA,hfin⟩:=Yne I hvs h hgd hd
  split at hf
  ·rename_i hty _
   cases hf;obtain⟨⟨ds,hds,hsk,_⟩,_⟩:=ht t i (Yp h1);obtain⟨ee,rfl,te,j,q1,q2,q3,q4,⟨z,hz,hzc⟩,hby⟩:=Ym8 hsk hty.symm;rw[←hty] at q1;cases q1
   have hargs':args=#[s]:=by rw[←Array.toArray_toList (xs:=args),hargs]
   have hat0:ats[0]? = some t:=by rw[←Array.getElem?_toList,hats];rfl
   have hzs:z.cells.size=e.size:=by rw[←Yr,←hzc];simp
   have hrow:Yv w noB e .sh (List.replicate n e.zero) (Builtin.zeroCells z.cells n).toList noB:=by
    refine⟨by simp[Builtin.zeroCells,hzs],fun v hv=>?_,fun _=>noB,fun i hi=>⟨?_,fun _ x=>x.elim⟩,fun _ _ _ _ _ x=>x.elim⟩
    ·simp only[Builtin.zeroCells,Array.toList_map,List.mem_map] at hv
     obtain⟨k,hk,rfl⟩:=hv
     have hk':k<n*z.cells.size:=by simpa using hk
     have hpos:0<z.cells.size:=by
      rcases Nat.eq_zero_or_pos z.cells.size with h | h
      ·rw[h] at hk';omega
      ·exact h
     have hm:k % z.cells.size<z.cells.size:=Nat.mod_lt _ hpos;rw[getElem!_pos z.cells _ hm]
     have hzr:Rep w noB e .sh e.zero (.reg z.cells.toList 0) noB:=Ybe e (fun i _=>by simp only[Src.cell,Nat.zero_add];rw[hzc])
     obtain⟨v,e1,e2⟩:=hzr.cells (k % z.cells.size) (by rw[←hzs];exact hm)
     simp only[Src.cell,Nat.zero_add] at e1;rw[Array.getElem?_toList,Array.getElem?_eq_getElem hm] at e1;cases e1;exact e2
    ·have hi':i<n:=by simpa using hi
     rw[List.getElem_replicate];refine Ybe e (fun k hk=>?_);simp only[Src.cell];rw[Array.getElem?_toList];have:=Ymt (z:=z.cells) (e:=e) (n:=n) hzc hi' hk;rw[←hzs] at this
     simpa [Builtin.zeroCells,hzs] using this
   have hlen:=hrow.len
   have hst:=Yrt (P:=P) (w:=w) (e:=e) (cs:=(Builtin.zeroCells z.cells n).toList) hA (by rw[hlen];simp) hrow.one
   have hrun:(Builtin.clear_ ats o.type #[a.eval s]).run P w=.ok (.tuple #[]) (Yir w A (Builtin.zeroCells z.cells n).toList):=by
    simp only[Builtin.clear_,hat0,hu]
    cases A with
    |none=>
     have hn0:n=0:=by
      rcases Nat.eq_zero_or_pos n with h | h
      ·exact h
      ·obtain⟨_,_,e1,_⟩:=hA (by omega);cases e1
     simp[run_underlying hds,Yir]
    |some ad=>
     cases n with
     |zero=>
      have:(Builtin.zeroCells z.cells 0).toList=[]:=by simp[Builtin.zeroCells]
      rw[this]
      simp[run_underlying hds,Yir,setCells_nil]
     |succ n=>
      simp at hst;simp[run_underlying hds,zeroValue,typeInfo,q2,hz,hst]
   subst hargs'
   obtain⟨C',hI⟩:=hfin _ (.tuple #[]) hrow (by simp) (fun w' M L ρ=>⟨#[],rfl,trivial⟩)
   exact .inl ⟨_,_,.inl (by simp[execOp,ho,resolve,invoke,builtin,hrun]),C',hI⟩
  ·cases hf
 ·cases h
end Mf
namespace Mf
open Go
set_option linter.unusedVariables false
set_option linter.unusedSimpArgs false
variable {Z:W0} {S:St} {C:Cx} {w w':World} {K K':Yk} {G:Ya} {C1:Cx} {D:Dd} {a:Act}
variable {P:Program} {tb:Tb} {g:Gd} {o:Oper} {hn:Hint}
theorem Yrq (ht:Yag P tb) (I:Inv Z S C a w) (hg:Yax a g) {np:Nat} (hnp:∀ i,np≤i→Z.P i=none) (hgd:Yw S o.dst) (hd:∀ d,o.dst=some d→d<Z.nt) {b:Option Bool} {p:Patch}
  (h:(doR tb hn np g o).run S=some (.step b p)) (hb:b≠some false):Done P o a w fun u w'=>∃ C',Inv Z (S.ap p) C' (a.put o.dst u) w':=by
 have pureC:(doR tb hn np g o)=Yhj tb none g o→Done P o a w fun u w'=>∃ C',Inv Z (S.ap p) C' (a.put o.dst u) w':=fun e=>
  Ypa ht I hg hgd hd (by rw[←e];exact h) hb
 cases ho:o.op with
 |assign x=>
  cases hdst:o.dst with
  |none=>simp only[doR,ho,hdst] at h;cases h
  |some d=>
   rw[hdst] at hgd hd;rw[←hdst]
   by_cases hx:x=.const (.slice none 0 0)
   ·subst hx;exact Yu1 ht I ho hdst hnp hgd (hd d rfl) h
   ·by_cases hq:x=.const (.pointer none)
    ·subst hq
     simp only[doR,ho,hdst,RD.run,Option.some.injEq] at h;exact Ytw I ho hdst hgd (hd d rfl) h
    ·have h':((opv g x).bind fun v=>Yga np d v).run S=some (.step b p):=by
      simp only[doR,ho,hdst,hx,hq] at h
      first | exact h | (split at h
                         ·exact absurd rfl hx
                         ·exact absurd rfl hq
                         ·exact h)
     replace h':=RD.bind_some h';obtain⟨v,h1,h2⟩:=h'
     exact Yqg I hg ho hdst hnp hgd (hd d rfl) h1 h2
 |alloc t=>
  cases hdst:o.dst with
  |none=>simp only[doR,ho,hdst] at h;cases h
  |some d=>rw[hdst] at hgd hd;rw[←hdst];exact Yrs ht I ho hdst hnp hgd (hd d rfl) h
 |box t x=>
  cases hdst:o.dst with
  |none=>simp only[doR,ho,hdst] at h;cases h
  |some d=>rw[hdst] at hgd hd;rw[←hdst];exact Yu3 I ho hdst hnp hgd (hd d rfl) hg h
 |build t parts=>
  cases hdst:o.dst with
  |none=>simp only[doR,ho,hdst] at h;cases h
  |some d=>rw[hdst] at hgd hd;rw[←hdst];exact Yr4 ht I hg ho hdst hgd (hd d rfl) h
 |buildSlice t n parts=>
  cases hdst:o.dst with
  |none=>simp only[doR,ho,hdst] at h;cases h
  |some d=>rw[hdst] at hgd hd;rw[←hdst];exact Yjr ht I hg ho hdst hnp hgd (hd d rfl) h
 |makeSlice t l c=>
  cases hdst:o.dst with
  |none=>simp only[doR,ho,hdst] at h;cases h
  |some d=>rw[hdst] at hgd hd;rw[←hdst];exact Yk7 ht I ho hdst hnp hgd (hd d rfl) hg h hb
 |store t ad x=>exact Ysa ht I ho hg h hb
 |convert src dst x=>
  cases hdst:o.dst with
  |none=>simp only[doR,ho,hdst] at h;cases h
  |some d=>rw[←hdst];exact Ysw ht I hg ho hdst hnp hgd (hd d hdst) h hb
 |call c=>
  obtain⟨callee,args,ats⟩:=c
  cases callee with
  |builtin bi=>
   cases bi with
   |append=>
    cases hdst:o.dst with
    |none=>simp only[doR,ho,hdst] at h;cases h
    |some d=>rw[hdst] at hgd hd;rw[←hdst];exact Yqt ht I hg ho hdst hnp hgd (hd d rfl) h hb
   |copy=>exact Yt0 ht I hg ho hgd hd h
   |clear=>exact Ysb ht I hg ho hgd hd h
   |_=>exact pureC (by simp only[doR,ho])
  |_=>exact pureC (by simp only[doR,ho])
 |_=>exact pureC (by simp only[doR,ho])
end Mf
namespace Mf
open Go
set_option linter.unusedVariables false
variable {Z:W0} {Lf:TV→Value→Prop} {C:Cx} {G:Ya} {ρ:Yb} {w:World}
structure Wr2 (w w':World) (s':Src) (n:Nat) (H:Ya):Prop where
 size:w.heap.size≤w'.heap.size
 kp:∀ b,b<w.heap.size→¬ H b→Kp w w' s' n b
theorem Str.Yxh (I:Str Z Lf C G ρ w) {r:Nat} {R:Root} {p:Path} {s':Src} {old:TV} (hR:ρ r=some R) (hn:nav w R.tv (C.L r) p=some s') (hg:R.tv.get p=some old)
  {n tv':TV} (hset:R.tv.set p n=some tv') (hlay:n.lay=old.lay) :
  ∃ Fo Fr,Ye Fo (C.F r)∧Ye Fr (C.F r)∧Dis Fo Fr∧Yc w (Mt Z C ρ G) Lf old s' Fo∧Yjt (C.L r) s' old.size R.tv.size Fr∧tv'.lay=R.tv.lay∧
   ∀ (Lf':TV→Value→Prop),(∀ v u,Lf v u→Lf' v u)→∀ w' Fn G' (D:Dd),Wr2 w w' s' old.size (fun b=>G b∨Fo b)→
    Yc w' (Mt Z (C.Ydf r (fun b=>Fr b∨Fn b)) (ρ.set r (some ⟨R.k,tv'⟩)) G') Lf' n s' Fn→(∀ b,Fn b→(G b∨Fo b∨w.heap.size≤b)∧b<w'.heap.size)→
    (∀ b,G' b→((G b∨Fo b∨w.heap.size≤b)∧b<w'.heap.size)∧¬ Fn b)→w'.os=w.os→w'.tape=w.tape→w'.output=w.output→
    (∀ t b off,¬ D.l r (p++t)→nav w old s' t=some (.mem b off)→nav w' n s' t=some (.mem b off))→
    (∀ t s1,¬ D.s r (p++t)→nav w old s' t=some s1→∀ o e,∀ xs:List e.El,old.gr t=some (.cl o (.sl e) xs)→
     nav w' n s' t=some s1∧s1.cell w' 0=s1.cell w 0∧∃ o',∃ xs':List e.El,n.gr t=some (.cl o' (.sl e) xs')∧xs'.length=xs.length)→
    Str Z Lf' (C.Ydf r (fun b=>Fr b∨Fn b)) G' (ρ.set r (some ⟨R.k,tv'⟩)) w'∧
    Gs w w' (Mt Z C ρ G) (Mt Z (C.Ydf r (fun b=>Fr b∨Fn b)) (ρ.set r (some ⟨R.k,tv'⟩)) G') ρ (ρ.set r (some ⟨R.k,tv'⟩)) C.L C.L D:=by
 have hs:∀ bs offs,C.L r=.mem bs offs→R.k=.mem∧¬ C.F r bs:=by
  intro bs offs e
  cases hk:R.k with
  |reg=>obtain⟨cs,e'⟩:=I.reg r R hR hk;rw[e] at e';cases e'
  |mem=>obtain⟨b,off,e',h,_⟩:=I.mem r R hR hk;rw[e] at e';cases e';exact⟨rfl,h⟩
 obtain⟨Fo,Fr,b1,b2,d1,ro,hl,hly,hc⟩:=upd p (I.rep r R hR) (fun bs offs e=>(hs bs offs e).2) hn hg hset hlay;refine⟨Fo,Fr,b1,b2,d1,ro,hl,hly,fun Lf' hlf w' Fn G' D hw hrn hFn hG' hos htape hout hdl hds=>?_⟩
 have hblk:∀ b0 off0,s'=.mem b0 off0→Tot C r R b0:=by
  intro b0 off0 e;rcases hl with ⟨k,e',_⟩ | ⟨b1,o1,e',hf⟩
  ·rw[e] at e';obtain⟨o,e1,_⟩:=Src.Yar e'.symm
   exact .inr ⟨(hs _ _ e1).1,o,e1⟩
  ·rw[e] at e';cases e';exact .inl (b2 _ hf)
 have hsame:∀ b,b<w.heap.size→¬ G b→¬ Tot C r R b→Same w w' b:=by
  intro b hlt hg hb;have hkp:=hw.kp b hlt (fun h=>h.elim hg (fun h=>hb (.inl (b1 b h))))
  cases e:s' with
  |reg cs o=>rw[e] at hkp;exact hkp
  |mem b0 off0=>
   rw[e] at hkp;refine hkp.same ?_;rintro rfl;exact hb (hblk _ _ e)
 have hM0:Ye (Tot C r R) (Mt Z C ρ G):=fun b h=>.inl ⟨r,R,hR,h⟩;generalize hC':C.Ydf r (fun b=>Fr b∨Fn b)=C';generalize hρ':ρ.set r (some ⟨R.k,tv'⟩)=ρ'
 have cL:C'.L=C.L:=by rw[←hC'];rfl
 have cFr:C'.F r=fun b=>Fr b∨Fn b:=by rw[←hC'];simp[Cx.Ydf]
 have cFo:∀ i,i≠r→C'.F i=C.F i:=fun i h=>by rw[←hC'];simp[Cx.Ydf,h]
 have rr:ρ' r=some ⟨R.k,tv'⟩:=by rw[←hρ',Yb.Yo]
 have ro':∀ i,i≠r→ρ' i=ρ i:=fun i h=>by rw[←hρ',Yb.Ym _ _ h]
 have tot:∀ i,i≠r→∀ R',Tot C' i R'=Tot C i R':=fun i h R'=>by unfold Tot;rw[cFo i h,cL]
 have totr:∀ b,Tot C' r ⟨R.k,tv'⟩ b→Tot C r R b∨G b∨w.heap.size≤b:=by
  rintro b (h | h)
  ·rw[cFr] at h
   rcases h with h | h
   ·exact .inl (.inl (b2 b h))
   ·rcases(hFn b h).1 with h | h | h
    ·exact .inr (.inl h)
    ·exact .inl (.inl (b1 b h))
    ·exact .inr (.inr h)
  ·rw[cL] at h;exact .inl (.inr h)
 have hm:∀ b,Mt Z C' ρ' G' b→Mt Z C ρ G b∨w.heap.size≤b:=by
  rintro b (⟨i,R',h1,h2⟩ | h | h)
  ·by_cases e:i=r
   ·subst e;rw[rr] at h1;cases h1
    rcases totr b h2 with h | h | h
    ·exact .inl (hM0 b h)
    ·exact .inl (.inr (.inl h))
    ·exact .inr h
   ·rw[ro' i e] at h1;rw[tot i e] at h2;exact .inl (.inl ⟨i,R',h1,h2⟩)
  ·rcases(hG' b h).1.1 with h | h | h
   ·exact .inl (.inr (.inl h))
   ·exact .inl (hM0 b (.inl (b1 b h)))
   ·exact .inr h
  ·exact .inl (.inr (.inr h))
 have hst:∀ b,¬ Mt Z C ρ G b→b<w.heap.size→Same w w' b∧¬ Mt Z C' ρ' G' b:=fun b h hlt=>⟨hsame b hlt (fun x=>h (.inr (.inl x))) (fun x=>h (hM0 b x)),fun x=>(hm b x).elim h (fun h=>by omega)⟩
 have hgo:∀ F,Dis (Tot C r R) F→Dis G F→(∀ b,F b→b<w.heap.size)→Goes w w' (Mt Z C ρ G) (Mt Z C' ρ' G') F:=fun F hd hd2 hlt=>⟨hw.size,fun b hb=>hsame b (hlt b hb) (fun x=>hd2 b x hb) (fun x=>hd b x hb),hst⟩
 have htotlt:∀ i R',ρ i=some R'→∀ b,Tot C i R' b→b<w.heap.size:=by
  intro i R' h b hb;rcases hb with hb | ⟨hk,off,e⟩
  ·exact(I.bnd i R' b h hb).1
  ·obtain⟨b',off',e',_,h3,_⟩:=I.mem i R' h hk
   rw[e] at e';cases e';exact h3
 have hgoR:∀ i R',i≠r→ρ i=some R'→Goes w w' (Mt Z C ρ G) (Mt Z C' ρ' G') (C.F i):=fun i R' e h=>hgo _ (fun b x y=>I.dis r i R R' (fun z=>e z.symm) hR h b x (.inl y)) (fun b x y=>I.gdis i R' h b (.inl y) x) (fun b y=>(I.bnd i R' b h y).1)
 have hcellO:∀ i R',i≠r→ρ i=some R'→∀ j,(C.L i).cell w' j=(C.L i).cell w j:=by
  intro i R' hi h j
  cases hk:R'.k with
  |reg=>obtain⟨cs,e⟩:=I.reg i R' h hk;rw[e];rfl
  |mem=>
   obtain⟨b,off,e,_⟩:=I.mem i R' h hk;rw[e];exact Same.cell (hsame b (htotlt i R' h b (.inr ⟨hk,off,e⟩)) (fun x=>I.gdis i R' h b (.inr ⟨hk,off,e⟩) x) (fun x=>I.dis r i R R' (fun y=>hi y.symm) hR h b x (.inr ⟨hk,off,e⟩))) _
 have hkpr:∀ b,Tot C r R b→¬ Fo b→Kp w w' s' old.size b:=fun b hb hf=>hw.kp b (htotlt r R hR b hb) (fun h=>h.elim (fun h=>I.gdis r R hR b hb h) hf);have hu:Ygk w w' (Mt Z C ρ G) (Mt Z C' ρ' G') (C.L r) s' old.size Fr:=⟨hw.size,fun b hb=>hkpr b (.inl (b2 b hb)) (fun h=>d1 b h hb),fun bs offs e=>hkpr bs (.inr ⟨(hs _ _ e).1,offs,e⟩) (fun h=>(hs _ _ e).2 (b1 _ h)),hst⟩
 have hFnFr:Dis Fn Fr:=by
  intro b h1 h2;rcases(hFn b h1).1 with h | h | h
  ·exact I.gdis r R hR b (.inl (b2 b h2)) h
  ·exact d1 b h h2
  ·have:=htotlt r R hR b (.inl (b2 b h2));omega
 have hFnL:∀ bs offs,C.L r=.mem bs offs→¬ Fn bs:=by
  intro bs offs e h;rcases(hFn bs h).1 with h | h | h
  ·exact I.gdis r R hR bs (.inr ⟨(hs _ _ e).1,offs,e⟩) h
  ·exact(hs _ _ e).2 (b1 _ h)
  ·have:=htotlt r R hR bs (.inr ⟨(hs _ _ e).1,offs,e⟩);omega
 obtain⟨u1,u2,u3⟩:=hc w' (Mt Z C' ρ' G') Lf' Fn hu (by subst hC' hρ';exact hrn) hFnFr hFnL hlf
 obtain⟨n',hg',hoe⟩:=Ypc p (I.rep r R hR) hn hset
 have hGb:∀ b,(G b∨Fo b∨w.heap.size≤b)∧b<w'.heap.size→b<w'.heap.size∧(∀ i,¬ Z.K b i)∧¬ Z.X b∧(Z.M b∨Z.w.heap.size≤b):=fun b h=>⟨h.2,by
  rcases h.1 with h | h | h
  ·exact(I.gbnd b h).2
  ·exact(I.bnd r R b hR (b1 b h)).2
  ·have:=I.sz
   exact⟨fun i hk=>by have:=I.kb b i hk;omega,fun hx=>by have:=I.xb b hx;omega,.inr (by omega)⟩⟩
 have htotb:∀ b,Tot C r R b→Z.M b∨Z.w.heap.size≤b:=by
  rintro b (h | ⟨hk,off,e⟩)
  ·exact(I.bnd r R b hR h).2.2.2
  ·obtain⟨b',off',e',_,_,_,_,_,h⟩:=I.mem r R hR hk
   rw[e] at e';cases e';exact h
 refine⟨⟨?_,?_,?_,?_,?_,?_,?_,?_,Nat.le_trans I.sz hw.size,?_,?_,?_,I.xb,I.kb,by rw[hos,I.os],by rw[htape,I.tape],by rw[hout,I.output]⟩,⟨hw.size,hst,?_,?_⟩⟩
 ·intro i R' h
  by_cases e:i=r
  ·subst e;rw[rr] at h;cases h;rw[cFr,cL];exact u1
  ·rw[ro' i e] at h;rw[cFo i e,cL]
   exact(I.rep i R' h).go (hgoR i R' e h) (fun j _=>hcellO i R' e h j) hlf
 ·intro i R' h hk
  rw[cL]
  by_cases e:i=r
  ·subst e;rw[rr] at h;cases h;exact I.reg i R hR hk
  ·rw[ro' i e] at h;exact I.reg i R' h hk
 ·intro i R' h hk
  rw[cL]
  by_cases e:i=r
  ·subst e;rw[rr] at h;cases h
   obtain⟨b,off,e,h1,h2,h3,h4,h5⟩:=I.mem i R hR hk;have hsz:tv'.size=R.tv.size:=TV.Yak hly
   refine⟨b,off,e,?_,Nat.lt_of_lt_of_le h2 hw.size,?_,fun j hj=>h4 j (by simpa [hsz] using hj),h5⟩
   ·rw[cFr];rintro(x | x)
    ·exact h1 (b2 _ x)
    ·exact hFnL b off e x
   ·simp only[hsz];exact(hkpr b (.inr ⟨hk,off,e⟩) (fun h=>h1 (b1 _ h))).room h3
  ·rw[ro' i e] at h
   obtain⟨b,off,e',h1,h2,h3,h4⟩:=I.mem i R' h hk;have hb:=hsame b h2 (fun x=>I.gdis i R' h b (.inr ⟨hk,off,e'⟩) x) (fun x=>I.dis r i R R' (fun z=>e z.symm) hR h b x (.inr ⟨hk,off,e'⟩))
   exact⟨b,off,e',by rw[cFo i e];exact h1,Nat.lt_of_lt_of_le h2 hw.size,fun j hj=>by rw[hb.cell,hb.frozen];exact h3 j hj,h4⟩
 ·intro i R' b h hb
  by_cases e:i=r
  ·subst e;rw[cFr] at hb
   rcases hb with hb | hb
   ·have:=I.bnd i R b hR (b2 b hb);exact⟨Nat.lt_of_lt_of_le this.1 hw.size,this.2⟩
   ·exact hGb b (hFn b hb)
  ·rw[ro' i e] at h;rw[cFo i e] at hb;have:=I.bnd i R' b h hb;exact⟨Nat.lt_of_lt_of_le this.1 hw.size,this.2⟩
 ·intro b hb;exact hGb b (hG' b hb).1
 ·intro i j R1 R2 hne h1 h2
  have one:∀ j R2,j≠r→ρ j=some R2→Dis (Tot C' r ⟨R.k,tv'⟩) (Tot C j R2):=by
   intro j R2 hj h b x y;rcases totr b x with x | x | x
   ·exact I.dis r j R R2 (fun z=>hj z.symm) hR h b x y
   ·exact I.gdis j R2 h b y x
   ·have:=htotlt j R2 h b y;omega
  by_cases e:i=r
  ·subst e;rw[rr] at h1;cases h1
   have hj:j≠i:=fun z=>hne z.symm;rw[ro' j hj] at h2;rw[tot j hj];exact one j R2 hj h2
  ·rw[ro' i e] at h1;rw[tot i e]
   by_cases e':j=r
   ·subst e';rw[rr] at h2;cases h2;exact(one i R1 e h1).symm
   ·rw[ro' j e'] at h2;rw[tot j e'];exact I.dis i j R1 R2 hne h1 h2
 ·intro i R' h b x y
  obtain⟨y1,y2⟩:=hG' b y
  by_cases e:i=r
  ·subst e;rw[rr] at h;cases h
   rcases x with x | ⟨hk,off,x⟩
   ·rw[cFr] at x
    rcases x with x | x
    ·rcases y1.1 with y1 | y1 | y1
     ·exact I.gdis i R hR b (.inl (b2 b x)) y1
     ·exact d1 b y1 x
     ·have:=htotlt i R hR b (.inl (b2 b x));omega
    ·exact y2 x
   ·rw[cL] at x
    rcases y1.1 with y1 | y1 | y1
    ·exact I.gdis i R hR b (.inr ⟨hk,off,x⟩) y1
    ·exact(hs _ _ x).2 (b1 _ y1)
    ·have:=htotlt i R hR b (.inr ⟨hk,off,x⟩);omega
  ·rw[ro' i e] at h;rw[tot i e] at x
   rcases y1.1 with y1 | y1 | y1
   ·exact I.gdis i R' h b x y1
   ·exact I.dis r i R R' (fun z=>e z.symm) hR h b (.inl (b1 b y1)) x
   ·have:=htotlt i R' h b x;omega
 ·intro i R' h
  rw[cL]
  by_cases e:i=r
  ·subst e;rw[rr] at h;cases h;exact I.plc i R hR
  ·rw[ro' i e] at h;exact I.plc i R' h
 ·intro b hb hm'
  refine(I.old b hb hm').trans (hsame b (Nat.lt_of_lt_of_le hb I.sz) (fun hg=>?_) (fun x=>?_))
  ·rcases(I.gbnd b hg).2.2.2 with h | h
   ·exact hm' h
   ·omega
  ·rcases htotb b x with h | h
   ·exact hm' h
   ·omega
 ·intro b i hk
  rw[←I.kp b i hk];have hkp:=hw.kp b (Nat.lt_of_lt_of_le (I.kb b i hk) I.sz) (fun h=>h.elim (fun h=>(I.gbnd b h).2.1 i hk) (fun h=>(I.bnd r R b hR (b1 b h)).2.1 i hk))
  cases e:s' with
  |reg cs o=>rw[e] at hkp;exact Same.cell hkp _
  |mem b0 off0=>
   rw[e] at hkp
   by_cases hb:b=b0
   ·subst hb
    refine hkp.out ?_;rcases hl with ⟨k,e',hkn⟩ | ⟨b1',o1,e',hf⟩
    ·rw[e] at e';obtain⟨o,e1,e2⟩:=Src.Yar e'.symm
     obtain⟨b',off',e3,_,_,_,h4,_⟩:=I.mem r R hR (hs _ _ e1).1;rw[e1] at e3;cases e3;rcases Nat.lt_or_ge i off0 with h | h
     ·exact .inl h
     ·rcases Nat.lt_or_ge i (off0+old.size) with h' | h'
      ·exact absurd hk (by rw[show i=o+(i-o) by omega];exact h4 (i-o) (by omega))
      ·exact .inr h'
    ·rw[e] at e';cases e';exact absurd hk ((I.bnd r R _ hR (b2 _ hf)).2.1 i)
   ·exact Same.cell (hkp.same hb) _
 ·intro b i j hk
  rw[←I.kf b i j hk];have hkp:=hw.kp b (Nat.lt_of_lt_of_le (I.kb b i hk) I.sz) (fun h=>h.elim (fun h=>(I.gbnd b h).2.1 i hk) (fun h=>(I.bnd r R b hR (b1 b h)).2.1 i hk))
  cases e:s' with
  |reg cs o=>rw[e] at hkp;exact Same.frozen hkp _
  |mem b0 off0=>
   rw[e] at hkp
   by_cases hb:b=b0
   ·subst hb;simp only[Kp,if_true] at hkp;exact hkp.2.1 j
   ·exact Same.frozen (hkp.same hb) _
 ·intro i q R' b off hd h1 h2
  by_cases e:i=r
  ·subst e;rw[hR] at h1;cases h1
   refine⟨_,rr,?_⟩
   by_cases hq:∃ t,q=p++t
   ·obtain⟨t,rfl⟩:=hq
    rw[(Y2 p t u2 hg').1,Yfu hoe];rw[(Y2 p t hn hg).1] at h2;exact hdl t b off hd h2
   ·exact(u3 q _ h2 hq).1
  ·refine⟨R',by rw[ro' i e];exact h1,?_⟩
   exact(Ybt q (I.rep i R' h1) (hgoR i R' e h1) (fun j _=>hcellO i R' e h1 j) h2).1
 ·intro i q R' s1 hd h1 h2 o ty xs h3
  by_cases e:i=r
  ·subst e;rw[hR] at h1;cases h1
   refine⟨_,rr,?_⟩
   by_cases hq:∃ t,q=p++t
   ·obtain⟨t,rfl⟩:=hq
    rw[(Y2 p t u2 hg').1,Ylb p t u2 hg',Yfu hoe];rw[(Y2 p t hn hg).1] at h2;rw[Ylb p t hn hg] at h3;obtain⟨k1,k2,o',xs',k3,k4⟩:=hds t s1 hd h2 o ty xs h3;obtain⟨o2,k5⟩:=Yo9 hoe k3;exact⟨k1,k2,o2,xs',k5,k4⟩
   ·obtain⟨k1,k2⟩:=u3 q _ h2 hq
    obtain⟨k3,o',xs',k4,k5⟩:=k2 o ty xs h3;exact⟨k1,k3,o',xs',k4,k5⟩
  ·refine⟨R',by rw[ro' i e];exact h1,?_⟩
   obtain⟨n1,n2⟩:=Ybt q (I.rep i R' h1) (hgoR i R' e h1) (fun j _=>hcellO i R' e h1 j) h2;exact⟨n1,n2 o ty xs h3,o,xs,h3,rfl⟩
end Mf
namespace Mf
open Go
set_option linter.unusedVariables false
set_option linter.unusedSimpArgs false
variable {Z:W0} {S:St} {C:Cx} {w w':World} {a:Act}
variable {P:Program} {tb:Tb} {g:Gd} {o:Oper} {hn:Hint}
theorem Yj4 {w:World} {M:Ya} {Lf:TV→Value→Prop}:∀ (p:Path) {tv:TV} {s:Src} {F:Ya} {b off:Nat},Yc w M Lf tv s F→nav w tv s p=some (.mem b off)→
  (∃ o,s=.mem b o)∨F b∨(¬ M b∧b<w.heap.size):=by
 intro p
 induction p with
 |nil=>intro tv s F b off _ h;rw[Yf] at h;cases h;exact .inl ⟨_,rfl⟩
 |cons c p ih=>
  intro tv s F b off hr hn
  cases tv with
  |pr x y=>
   obtain⟨F1,F2,h1,h2,h3,h4,_⟩:=hr
   cases c with
   |f1=>
    simp only[nav] at hn;rcases ih h1 hn with h | h | h
    ·exact .inl h
    ·exact .inr (.inl (h3 b h))
    ·exact .inr (.inr h)
   |f2=>
    simp only[nav] at hn;rcases ih h2 hn with ⟨o,h⟩ | h | h
    ·obtain⟨o',e,_⟩:=Src.Yar h;exact .inl ⟨o',e⟩
    ·exact .inr (.inl (h4 b h))
    ·exact .inr (.inr h)
   |el i=>simp[nav] at hn
  |cl o t x=>
   cases t with
   |pair t1 t2=>
    obtain⟨F1,F2,h1,h2,h3,h4,_⟩:=hr
    cases c with
    |f1=>
     simp only[nav] at hn;rcases ih (tv:=.cl o t1 x.1) h1 hn with h | h | h
     ·exact .inl h
     ·exact .inr (.inl (h3 b h))
     ·exact .inr (.inr h)
    |f2=>
     simp only[nav] at hn;rcases ih (tv:=.cl o t2 x.2) h2 hn with ⟨o,h⟩ | h | h
     ·obtain⟨o',e,_⟩:=Src.Yar h;exact .inl ⟨o',e⟩
     ·exact .inr (.inl (h4 b h))
     ·exact .inr (.inr h)
    |el i=>simp[nav] at hn
   |sl e=>
    cases c with
    |el i=>
     simp only[nav] at hn
     split at hn
     ·rename_i hi
      obtain⟨A,c,q1,q2,q3⟩:=hr;rw[q1] at hn
      have own:∀ o:Ow,(c≠0→∃ b off,∃ Fs:Nat→Ya,A=some ⟨b,off,none⟩∧F b∧Room w b off (c*e.size)∧
        (∀ i (h:i<x.length),Rep w M e o.elem (x[i]'h) (.mem b (off+i*e.size)) (Fs i)∧Ye (Fs i) F∧¬ Fs i b)∧(∀ i j,i<j→j<x.length→Dis (Fs i) (Fs j)))→
        (∀ b' o',A=some ⟨b',o',none⟩→nav w (.cl o.elem e (x.getD i e.zero)) (.mem b' (o'+i*e.size)) p=some (.mem b off))→F b∨(¬ M b∧b<w.heap.size):=by
       intro o q3 hn
       obtain⟨b',off',Fs,e1,e2,e3,e4,e5⟩:=q3 (by omega)
       have hn':=hn b' off' e1;rw[Yn x i e.zero hi] at hn';rcases ih (tv:=.cl o.elem e (x[i]'hi)) (e4 i hi).1 hn' with ⟨o,h⟩ | h | h
       ·cases h;exact .inl e2
       ·exact .inl ((e4 i hi).2.1 b h)
       ·exact .inr h
      cases o with
      |sh=>
       obtain⟨b',off',e1,e2,e3,e4⟩:=q3 (by intro h0;subst h0;exact absurd hi (Nat.not_lt_zero _))
       subst e1;simp only at hn;rw[Yn x i e.zero hi] at hn;rcases ih (tv:=.cl .sh e (x[i]'hi)) (e4 i hi) hn with ⟨o,h⟩ | h | h
       ·cases h;exact .inr (.inr ⟨e2,e3⟩)
       ·exact h.elim
       ·exact .inr (.inr h)
      |top=>exact .inr (own .top q3 (fun b' o' e1=>by subst e1;exact hn))
      |deep=>exact .inr (own .deep q3 (fun b' o' e1=>by subst e1;exact hn))
     ·cases hn
    |f1=>simp[nav] at hn
    |f2=>simp[nav] at hn
   |arr n e=>
    cases c with
    |el i=>
     simp only[nav] at hn
     split at hn
     ·rename_i hi
      obtain⟨h1,Fs,h2,_⟩:=hr
      have hi':i<x.length:=by omega
      rw[Yn x i e.zero hi'] at hn;rcases ih (tv:=.cl o e (x[i]'hi')) (h2 i hi').1 hn with ⟨o,h⟩ | h | h
      ·obtain⟨o',e,_⟩:=Src.Yar h;exact .inl ⟨o',e⟩
      ·exact .inr (.inl ((h2 i hi').2 b h))
      ·exact .inr (.inr h)
     ·cases hn
    |f1=>simp[nav] at hn
    |f2=>simp[nav] at hn
   |_=>cases c<;>simp[nav] at hn
  |rw o e xs i v=>
   cases c with
   |f1=>simp[nav] at hn
   |f2=>simp[nav] at hn
   |el j=>
    obtain⟨_,_,_,b',off',c',h4,_,Fs,h6,_,h8,_,h10⟩:=hr;obtain⟨hj,hn⟩:=Ye8 h4 hn
    by_cases hji:j=i
    ·subst hji
     rw[if_pos rfl] at hn;rcases ih h10.up hn with ⟨o,h⟩ | h | h
     ·cases h;exact .inr (.inl h6)
     ·exact .inr (.inl ((h8 j hj).2.1 b h))
     ·exact .inr (.inr h)
    ·rw[if_neg hji,Yn xs j e.zero hj] at hn
     rcases ih (tv:=.cl o.elem e (xs[j]'hj)) ((h8 j hj).1.resolve_left hji) hn with ⟨o,h⟩ | h | h
     ·cases h;exact .inr (.inl h6)
     ·exact .inr (.inl ((h8 j hj).2.1 b h))
     ·exact .inr (.inr h)
  |_=>cases c<;>simp[nav] at hn
structure Far (Z:W0) (S:St) (C:Cx) (w:World) (rs:List Nat) (M':Ya):Prop where
 sub:Ye M' (Mt Z C S.root noB)
 far:∀ r∈rs,∀ R,S.root r=some R→∀ b,Tot C r R b→¬ M' b
theorem Far.mono {rs rs':List Nat} {M':Ya} (h:Far Z S C w rs M') (hs:∀ r∈rs',r∈rs):Far Z S C w rs' M':=⟨h.sub,fun r hr=>h.far r (hs r hr)⟩
theorem Ydu (I:Inv Z S C a w) {r:Nat} {R:Root} (hR:S.root r=some R) {b:Nat} (hb:Tot C r R b):b<w.heap.size:=by
 rcases hb with hb | ⟨hk,off,e⟩
 ·exact(I.str.bnd r R b hR hb).1
 ·obtain⟨b',off',e',_,h3,_⟩:=I.str.mem r R hR hk
  rw[e] at e';cases e';exact h3
theorem Yp5 (I:Inv Z S C a w) {r:Nat} {p:Path} {R:Root} {oo:Ow} {e:Ty} {xs:List e.El} {u:Value} {M':Ya} (hf:∀ b,Tot C r R b→¬ M' b) (hm:Ye M' (Mt Z C S.root noB))
  (h:Yi w (Mt Z C S.root noB) C.L S.root (.seg r p) u) (hR:S.root r=some R) (hg:R.tv.get p=some (.cl oo (.sl e) xs)) {s:Src} (hs:s.cell w 0=some u):Rep w M' (.sl e) .sh xs s noB:=by
 obtain⟨s0,A,c,F,e1,e2,e3,e4,e5⟩:=Yc7 I h hR hg;have:=Rep.share e5 hm (fun b hb=>⟨hf b (.inl (e4 b hb)),Ydu I hR (.inl (e4 b hb))⟩);refine this.mv (fun i hi=>?_)
 have:i=0:=by simp[Ty.size] at hi;exact hi
 subst this;rw[hs,e2,e3]
theorem Yhi (I:Inv Z S C a w) {M':Ya}:∀ (v:TV) (t:Ty) {c:TV} {s:Src},(share t v).run S=some c→Yc w (Mt Z C S.root noB) (Yi w (Mt Z C S.root noB) C.L S.root) v s noB→Far Z S C w v.roots M'→
  ∃ t' y,c=.cl .sh t' y∧Rep w M' t' .sh y s noB∧t'.size=v.size∧(v.isAgg=t'.isAgg):=by
 intro v
 induction v with
 |cl o t' x=>
  intro t c s h hr hf
  have h:c=.cl .sh t' x:=by cases t<;>(simp only[share,RD.run,Option.some.injEq] at h;exact h.symm)
  subst h
  exact⟨t',x,rfl,Rep.share hr hf.sub (fun b hb=>hb.elim),rfl,rfl⟩
 |nl=>
  intro t c s h hr hf
  cases t with
  |sl e=>
   simp only[share,RD.run,Option.some.injEq] at h;subst h;obtain⟨u,h1,A,rfl⟩:=hr
   exact⟨_,_,rfl,Rep.nil h1,rfl,rfl⟩
  |_=>cases h
 |pr x y ihx ihy=>
  intro t c s h hr hf
  cases t with
  |pair t1 t2=>
   simp only[share] at h;replace h:=RD.bind_some h;obtain⟨c1,h1,h⟩:=h;replace h:=RD.bind_some h;obtain⟨c2,h2,h⟩:=h;obtain⟨F1,F2,r1,r2,b1,b2,_⟩:=hr
   obtain⟨u1,y1,rfl,q1,q2,q3⟩:=ihx t1 h1 (r1.sub b1) (hf.mono (fun r hr=>by simp[TV.roots,hr]))
   obtain⟨u2,y2,rfl,q4,q5,q6⟩:=ihy t2 h2 (r2.sub b2) (hf.mono (fun r hr=>by simp[TV.roots,hr]))
   simp only[RD.run,Option.some.injEq] at h;subst h
   exact⟨_,_,rfl,⟨noB,noB,q1,by rw[q2];exact q4,fun _ x=>x,fun _ x=>x,fun _ x=>x.elim⟩,by simp[Ty.size,TV.size,q2,q5],rfl⟩
  |_=>cases h
 |seg r p=>
  intro t c s h hr hf
  have h:((els (.seg r p)).bind fun | .mk e xs _=>.ret (TV.cl .sh (.sl e) xs)).run S=some c:=by cases t<;>exact h
  replace h:=RD.bind_some h;obtain⟨⟨e,xs,o⟩,h1,h⟩:=h;simp only[RD.run,Option.some.injEq] at h;subst h;obtain⟨u,hu,hl⟩:=hr;rcases Yb4 h1 with ⟨o',e1,_⟩ | ⟨r',p',R,e1,hR,hg⟩ | ⟨r',p',lo,n,R,ys,e1,_⟩
  ·cases e1
  ·cases e1
   exact⟨_,_,rfl,Yp5 I (hf.far r (by simp[TV.roots]) R hR) hf.sub hl hR hg hu,rfl,rfl⟩
  ·cases e1
 |sub r p lo n=>
  intro t c s h hr hf
  have h:((els (.sub r p lo n)).bind fun | .mk e xs _=>.ret (TV.cl .sh (.sl e) xs)).run S=some c:=by cases t<;>exact h
  replace h:=RD.bind_some h;obtain⟨⟨e,xs,o⟩,h1,h⟩:=h;simp only[RD.run,Option.some.injEq] at h;subst h;obtain⟨u,hu,R',s0,o2,e',xs',A,len,c0,A',c',k1,k2,k3,k4,k5,k6,k7,k8,k9⟩:=hr;rcases Yb4 h1 with ⟨o',e1,_⟩ | ⟨r',p',R,e1,hR,hg⟩ | ⟨r',p',lo',n',R,ys,e1,hR,hg,rfl⟩
  ·cases e1
  ·cases e1
  ·cases e1
   rw[hR] at k1;obtain rfl:=Option.some.inj k1;rw[Yeb hg] at k3;have k3:=Option.some.inj k3
   obtain⟨F,hF,hr⟩:=focus p (I.str.rep r _ hR) k2 hg
   have hfr:=hf.far r (by simp[TV.roots]) _ hR
   cases k3;have:=Rep.share (show Rep w _ (.sl _) _ _ s0 F from hr) hf.sub (fun b hb=>⟨hfr b (.inl (hF b hb)),Ydu I hR (.inl (hF b hb))⟩)
   exact⟨_,_,rfl,Rep.cut this k4 (by rw[hu,k5]) k6 k7 k8 k9,rfl,rfl⟩
 |_=>intro t c s h;cases t<;>cases h
theorem Ylc {M M' F:Ya} {Lf:TV→Value→Prop} (hm:Ye M' M):∀ (v:TV) {c:TV} {s:Src} {F:Ya},(Ygr v).run S=some c→Yc w M Lf v s F→(∀ b,F b→¬ M' b∧b<w.heap.size)→
  ∃ t' y,c=.cl .sh t' y∧Rep w M' t' .sh y s noB∧t'.size=v.size:=by
 intro v
 induction v with
 |cl o t' x=>
  intro c s F h hr hf;simp only[Ygr,RD.run,Option.some.injEq] at h;subst h
  exact⟨t',x,rfl,Rep.share hr hm hf,rfl⟩
 |pr x y ihx ihy=>
  intro c s F h hr hf;simp only[Ygr] at h;replace h:=RD.bind_some h;obtain⟨c1,h1,h⟩:=h;replace h:=RD.bind_some h;obtain⟨c2,h2,h⟩:=h;obtain⟨F1,F2,r1,r2,b1,b2,_⟩:=hr;obtain⟨u1,y1,rfl,q1,q2⟩:=ihx h1 r1 (fun b hb=>hf b (b1 b hb));obtain⟨u2,y2,rfl,q4,q5⟩:=ihy h2 r2 (fun b hb=>hf b (b2 b hb));simp only[RD.run,Option.some.injEq] at h;subst h
  exact⟨_,_,rfl,⟨noB,noB,q1,by rw[q2];exact q4,fun _ x=>x,fun _ x=>x,fun _ x=>x.elim⟩,by simp[Ty.size,TV.size,q2,q5]⟩
 |_=>intro c s F h;cases h
theorem Ydr (I:Inv Z S C a w) {M':Ya} {v c:TV} {u:Value} (h:(Yiq v).run S=some c) (hl:Yd1 w (Mt Z C S.root noB) C.L S.root v u) (hf:Far Z S C w v.roots M') :
  ∃ t y,c=.pt t y∧∀ L ρ,Yd1 w M' L ρ c u:=by
 cases v with
 |pt t x=>
  simp only[Yiq,RD.run,Option.some.injEq] at h;subst h;obtain⟨b,off,e1,e2,e3,e4⟩:=hl
  exact⟨t,x,rfl,fun L ρ=>⟨b,off,e1,fun k=>e2 (hf.sub b k),e3,Yc.mono (Lf:=fun _ _=>True) (tv:=.cl .sh t x) e4 hf.sub⟩⟩
 |loc r p=>
  simp only[Yiq] at h;replace h:=RD.bind_some h;obtain⟨c0,h1,h⟩:=h;replace h:=RD.bind_some h;obtain⟨c1,h2,h⟩:=h;obtain⟨R,hR,hg⟩:=Ya2 h1;obtain⟨R',b,off,e1,e2,rfl⟩:=hl;rw[hR] at e1;cases e1
  have hfr:=hf.far r (by simp[TV.roots]) R hR
  obtain⟨F,hF,hr⟩:=focus p (I.str.rep r R hR) e2 hg
  obtain⟨t',y,rfl,q1,q2⟩:=Ylc (F:=noB) hf.sub c0 h2 hr (fun b hb=>⟨hfr b (.inl (hF b hb)),Ydu I hR (.inl (hF b hb))⟩);simp only[RD.run,Option.some.injEq] at h;subst h;refine⟨t',y,rfl,fun L ρ=>⟨b,off,rfl,?_,?_,q1⟩⟩
  ·rcases Yj4 p (I.str.rep r R hR) e2 with ⟨o,h⟩ | h | h
   ·cases hk:R.k with
    |reg=>obtain⟨cs,e⟩:=I.str.reg r R hR hk;rw[e] at h;cases h
    |mem=>exact hfr b (.inr ⟨hk,o,h⟩)
   ·exact hfr b (.inl h)
   ·exact fun k=>h.1 (hf.sub b k)
  ·rcases Yj4 p (I.str.rep r R hR) e2 with ⟨o,h⟩ | h | h
   ·cases hk:R.k with
    |reg=>obtain⟨cs,e⟩:=I.str.reg r R hR hk;rw[e] at h;cases h
    |mem=>exact Ydu I hR (.inr ⟨hk,o,h⟩)
   ·exact Ydu I hR (.inl h)
   ·exact h.2
 |_=>cases h
theorem Yi9 (I:Inv Z S C a w) {M':Ya}:∀ (v:TV) {c:TV} {us:List Value},(Yef v).run S=some c→Ycw w (Mt Z C S.root noB) C.L S.root v us→Far Z S C w v.roots M'→∀ L ρ,Ycw w M' L ρ c us:=by
 intro v
 induction v with
 |cl o t x=>intro c us h hc hf L ρ;simp only[Yef,RD.run,Option.some.injEq] at h;subst h;cases t<;>cases us<;>first | exact hc.elim | trivial
 |pr x y ihx ihy=>
  intro c us h hc hf L ρ
  cases us with
  |nil=>exact hc.elim
  |cons u us=>
   simp only[Yef] at h;replace h:=RD.bind_some h;obtain⟨c1,h1,h⟩:=h;replace h:=RD.bind_some h;obtain⟨c2,h2,h⟩:=h;simp only[RD.run,Option.some.injEq] at h;subst h
   obtain⟨t,y',rfl,q⟩:=Ydr I h1 hc.1 (hf.mono (fun r hr=>by simp[TV.roots,hr]))
   exact⟨q L ρ,ihy h2 hc.2 (hf.mono (fun r hr=>by simp[TV.roots,hr])) L ρ⟩
 |_=>intro c us h;cases h
end Mf
