import Derived.Test.YthaonimonnheeaaGreatMf7
import Derived.Below
import Derived.Calls
import Derived.ChangeSame
import Derived.ChangeShapes
import Derived.DataReads
import Derived.Deep.AppendSrc
import Derived.Deep.Draws
import Derived.Deep.MidRow
import Derived.Deep.Upon
import Derived.KernelRfl
import Derived.Laws.AppendOwn
import Derived.Laws.BytesString
import Derived.Laws.Entries
import Derived.Laws.IdiomCopy
import Derived.Laws.IdiomStrings
import Derived.Laws.Strings
import Derived.Laws.StructEq
import Derived.Laws.Tables
import Derived.Lay
import Derived.Lib.SliceRun
import Derived.Orders
import Derived.Sort.Grow
import Derived.Sort.Row
import GoSem.Core.Region
import GoSem.Core.View
set_option linter.unusedVariables false
set_option linter.unusedSimpArgs false
namespace Mf
open Go Go.RowKit
set_option linter.unusedVariables false
set_option linter.unusedSimpArgs false
abbrev Ya5:=List (Int×List Int×Unit)
structure CpI (w0 W:World) (l:Ya5) (b off cap k:Nat):Prop where
 bel:Below w0.heap.size w0 W
 b1:w0.heap.size≤b
 b2:b<W.heap.size
 room:Room W b off (cap*2)
 ats:∀ j (h:j<l.length),W.cell? ⟨b,off+j*2,none⟩=some (.int .i64 l[j].1)
 old:∀ j (h:j<l.length),k≤j→Rep W (fun x=>x=b) (.sl (.int .i64)) .sh l[j].2.1 (.mem b (off+j*2+1)) noB
 new:∃ s:Nat→Nat,b<s 0∧(∀ j,j<k→s j≤s (j+1))∧s k≤W.heap.size∧∀ j (h:j<l.length),j<k→Rep W noB (.sl (.int .i64)) .deep l[j].2.1 (.mem b (off+j*2+1)) (fun x=>s j≤x∧x<s (j+1))
theorem CpI.start {w0 w1:World} {l:Ya5} {A:Option Addr} {c:Nat} {F:Ya} (hb:Below w0.heap.size w0 w1) (h:Rep w1 F (.sl Ybb) .top l (.reg [.slice A l.length c] 0) F) (hf:Ype w0 w1 F) (hc:c≠0) :
  ∃ b off,A=some ⟨b,off,none⟩∧l.length≤c∧CpI w0 w1 l b off c 0:=by
 obtain⟨A',c',k1,k2,k3⟩:=h;have k1':some (Value.slice A l.length c)=some (.slice A' l.length c'):=k1;simp only[Option.some.injEq,Value.slice.injEq] at k1';obtain⟨rfl,-,rfl⟩:=k1';obtain⟨b,off,Fs,rfl,hF,hroom,he,-⟩:=k3 hc;refine⟨b,off,rfl,k2,hb,(hf b hF).1,(hf b hF).2,hroom,fun j hj=>?_,fun j hj _=>?_,fun _=>w1.heap.size,(hf b hF).2,fun _ _=>Nat.le_refl _,Nat.le_refl _,fun j hj h=>absurd h (Nat.not_lt_zero _)⟩
 ·obtain⟨G1,G2,r1,-,-⟩:=(he j hj).1
  have hs:Ybb.size=2:=rfl;simp only[Rep,Src.cell,hs] at r1;simpa using r1
 ·obtain⟨G1,G2,-,⟨G3,G4,r2,-⟩,-,-,-⟩:=(he j hj).1
  obtain⟨A',c',t1,t2,t3⟩:=r2;have hs:Ybb.size=2:=rfl;have hs1:(Ty.int .i64).size=1:=rfl;refine⟨A',c',?_,t2,fun hne=>?_⟩
  ·simp only[Src.cell,Src.sh,hs,hs1] at t1;simpa [Src.cell] using t1
  ·obtain⟨b',off',q1,q2,q3,q4⟩:=t3 hne
   exact⟨b',off',q1,fun e=>q2 (e▸hF),q3,fun i hi=>Yc.mono (Lf:=fun _ _=>False) (tv:=.cl .sh (.int .i64) _) (q4 i hi) (fun x e=>by subst e;exact hF)⟩
theorem Yfe {w:World} {p:Addr} {v:Value} {b off n:Nat} (h:Room w b off n):Room (w.setCell p v) b off n:=fun i hi=>by
 obtain⟨h1,h2⟩:=h i hi
 refine⟨?_,by rw[World.frozen?_setCell];exact h2⟩
 obtain⟨u,hu⟩:=Option.isSome_iff_exists.1 h1;obtain⟨u',hu'⟩:=cell?_setCell_some (p:=p) (x:=v) hu;rw[hu'];rfl
theorem CpI.step {w0 W W1 W2:World} {l:Ya5} {b off cap k:Nat} (I:CpI w0 W l b off cap k) (hk:k<l.length) (hcap:l.length≤cap) (h1:Below W.heap.size W W1) (h2:Below W1.heap.size W1 W2) {A:Option Addr} {c:Nat} {F:Ya}
  (hr:Rep W2 F (.sl (.int .i64)) .deep l[k].2.1 (.reg [.slice A l[k].2.1.length c] 0) F) (hf:Ype W1 W2 F) :
  CpI w0 (W2.setCell ⟨b,off+k*2+1,none⟩ (.slice A l[k].2.1.length c)) l b off cap (k+1):=by
 have hB:Below W.heap.size W W2:=h1.trans (h2.mono h1.size)
 have hsz:(W2.setCell ⟨b,off+k*2+1,none⟩ (.slice A l[k].2.1.length c)).heap.size=W2.heap.size:=by simp[World.setCell]
 have hoth:∀ x,x≠b→x<W.heap.size→Same W (W2.setCell ⟨b,off+k*2+1,none⟩ (.slice A l[k].2.1.length c)) x:=fun x hx hlt=>(Below.heap_setCell _ _ _ _ hx).trans (hB.block x hlt)
 have hcell:∀ i,i≠off+k*2+1→(W2.setCell ⟨b,off+k*2+1,none⟩ (.slice A l[k].2.1.length c)).cell? ⟨b,i,none⟩=W.cell? ⟨b,i,none⟩:=fun i hi=>by
  rw[World.cell?_setCell_other (h:=fun e=>hi (by cases e;rfl))]
  exact hB.cell (p:=⟨b,i,none⟩) I.b2
 obtain⟨s,s0,s1,s2,s3⟩:=I.new
 refine⟨I.bel.trans ((hB.mono I.bel.size).setCell (p:=⟨b,_,none⟩) I.b1 _),I.b1,by rw[hsz];have:=hB.size;have:=I.b2;omega,Yfe (fun i hi=>?_),fun j hj=>?_,fun j hj hkj=>?_,?_⟩
 ·rw[hB.cell (p:=⟨b,_,none⟩) I.b2,hB.frozen (p:=⟨b,_,none⟩) I.b2];exact I.room i hi
 ·rw[hcell _ (by omega)];exact I.ats j hj
 ·refine(I.old j hj (by omega)).go ⟨by rw[hsz];exact hB.size,fun _ h=>h.elim,fun x hx hlt=>⟨hoth x hx hlt,hx⟩⟩ (fun i hi=>?_)
  have:i=0:=by simp[Ty.size] at hi;omega
  subst this
  exact hcell _ (by omega)
 ·have sk:∀ j,j≤k→s j≤s k:=fun j hj=>by
   have:∀ d,j+d≤k→s j≤s (j+d):=fun d=>by
    induction d with
    |zero=>intro _;exact Nat.le_refl _
    |succ d ih=>intro h;exact Nat.le_trans (ih (by omega)) (s1 (j+d) (by omega))
   have:=this (k-j) (by omega)
   rwa [show j+(k-j)=k by omega] at this
  refine⟨fun j=>if j≤k then s j else W2.heap.size,by simpa using s0,fun j hj=>?_,by show(if k+1≤k then _ else _)≤_;rw[if_neg (by omega),hsz];exact Nat.le_refl _,fun j hj hjk=>?_⟩
  ·show(if j≤k then s j else W2.heap.size)≤(if j+1≤k then s (j+1) else W2.heap.size)
   rw[if_pos (by omega)]
   by_cases e:j+1≤k
   ·rw[if_pos e];exact s1 j (by omega)
   ·rw[if_neg e];have:=sk j (by omega);have:=hB.size;omega
  ·by_cases e:j=k
   ·subst e
    simp only[Nat.le_refl,if_true,Nat.not_succ_le_self,if_false];obtain⟨A',c',k1,k2,k3⟩:=hr;have k1':some (Value.slice A l[j].2.1.length c)=some (.slice A' l[j].2.1.length c'):=k1;simp only[Option.some.injEq,Value.slice.injEq] at k1';obtain⟨rfl,-,rfl⟩:=k1';refine⟨A,c,?_,k2,fun hc=>?_⟩
    ·show World.cell? _ _=_
     simp only[Nat.add_zero];refine World.cell?_setCell_same' _ _ _ ?_;rw[hB.cell (p:=⟨b,_,none⟩) I.b2]
     exact(I.room (j*2+1) (by omega)).1
    ·obtain⟨b',off',Fs,q1,q2,q3,q4,q5⟩:=k3 hc
     have hb':=hf b' q2;have hlt:=I.b2;have hW1:=h1.size
     have hne:b'≠b:=by omega
     refine⟨b',off',fun _=>noB,q1,⟨by omega,hb'.2⟩,Yfe q3,fun i hi=>⟨?_,fun _ h=>h.elim,fun h=>h⟩,fun _ _ _ _ _ h=>h.elim⟩
     have hi':=(q4 i hi).1;show World.cell? _ _=_;rw[World.cell?_setCell_other (h:=fun e=>hne (congrArg Addr.block e).symm)];exact hi'
   ·have hj2:j<k:=by omega
    simp only[show j≤k by omega,show j+1≤k by omega,if_true]
    have hsj:=sk (j+1) (by omega)
    have hb0:b<s j:=Nat.lt_of_lt_of_le s0 (by
     have:∀ d,d≤j→s 0≤s d:=fun d=>by
      induction d with
      |zero=>intro _;exact Nat.le_refl _
      |succ d ih=>intro h;exact Nat.le_trans (ih (by omega)) (s1 d (by omega))
     exact this j (Nat.le_refl _))
    refine(((s3 j hj hj2).Yec (M':=fun x=>x=b)).go (M':=fun x=>x=b) ⟨by rw[hsz];exact hB.size,fun x hx=>hoth x (by have:=hx.1;omega) (by have:=hx.2;omega),fun x hx hlt=>⟨hoth x hx hlt,hx⟩⟩ (fun i hi=>?_)).Yec
    ·have:i=0:=by simp[Ty.size] at hi;omega
     subst this
     exact hcell _ (by omega)
theorem CpI.done {w0 W:World} {l:Ya5} {b off cap:Nat} (I:CpI w0 W l b off cap l.length) (hcap:l.length≤cap):Ybm Ybb .deep l w0 (.returned (.slice (some ⟨b,off,none⟩) l.length cap)) W:=by
 obtain⟨s,s0,s1,s2,s3⟩:=I.new
 have mono:∀ j d,j+d≤l.length→s j≤s (j+d):=fun j d=>by
  induction d with
  |zero=>intro _;exact Nat.le_refl _
  |succ d ih=>intro h;exact Nat.le_trans (ih (by omega)) (s1 (j+d) (by omega))
 refine⟨_,_,rfl,I.bel,fun x=>w0.heap.size≤x∧x<W.heap.size,⟨_,_,rfl,hcap,fun hc=>⟨b,off,fun j=>fun x=>s j≤x∧x<s (j+1)∧j<l.length,rfl,⟨I.b1,I.b2⟩,I.room,fun j hj=>⟨?_,?_,?_⟩,fun i j hij hj x hx hx'=>?_⟩⟩,fun x h=>h⟩
 ·have hs:Ybb.size=2:=rfl
  refine⟨noB,fun x=>s j≤x∧x<s (j+1)∧j<l.length,?_,⟨fun x=>s j≤x∧x<s (j+1)∧j<l.length,noB,?_,trivial,fun _ h=>h,fun _ h=>h.elim,fun _ _ h=>h⟩,fun _ h=>h.elim,fun _ h=>h,fun _ h=>h.elim⟩
  ·show World.cell? _ _=_
   simp only[hs,Nat.add_zero];exact I.ats j hj
  ·have h:=((s3 j hj hj).sub (G:=fun x=>s j≤x∧x<s (j+1)∧j<l.length) (fun x h=>⟨h.1,h.2,hj⟩)).Yec (M':=fun x=>w0.heap.size≤x∧x<W.heap.size)
   have e1:Ow.deep.elem=Ow.deep:=rfl;rw[e1]
   simpa [Src.sh,hs,Ty.size] using h
 ·rintro x ⟨h1,h2,h3⟩
  have:=mono 0 j (by omega)
  have:=mono (j+1) (l.length-(j+1)) (by omega)
  rw[show j+1+(l.length-(j+1))=l.length by omega] at this
  have:=I.b1;rw[Nat.zero_add] at *
  exact⟨by omega,by omega⟩
 ·rintro⟨h1,-,-⟩
  have:=mono 0 j (by omega)
  rw[Nat.zero_add] at this;omega
 ·have:=mono (i+1) (j-(i+1)) (by omega)
  rw[show i+1+(j-(i+1))=j by omega] at this
  have:=hx.2.1;have:=hx'.1;omega
theorem CpI.arg {w0 W:World} {l:Ya5} {b off cap k:Nat} (I:CpI w0 W l b off cap k) (hk:k<l.length):∃ A c,W.cell? ⟨b,off+k*2+1,none⟩=some (.slice A l[k].2.1.length c)∧
  ∀ W1,Below W.heap.size W W1→Rep W1 noB (.sl (.int .i64)) .sh l[k].2.1 (.reg [.slice A l[k].2.1.length c] 0) noB:=by
 obtain⟨A,c,d1,d2,d3⟩:=I.old k hk (Nat.le_refl _);refine⟨A,c,d1,fun W1 h1=>⟨A,c,rfl,d2,fun hne=>?_⟩⟩;obtain⟨b',off',q1,q2,q3,q4⟩:=d3 hne;refine⟨b',off',q1,fun h=>h,Nat.lt_of_lt_of_le q3 h1.size,fun i hi=>?_⟩;show World.cell? _ _=_;rw[h1.cell (p:=⟨b',_,none⟩) q3];exact q4 i hi
theorem CpI.place {w0 W:World} {l:Ya5} {b off cap k:Nat} (I:CpI w0 W l b off cap k) (hk:k<l.length) (hcap:l.length≤cap) {W2:World} (h:Below W.heap.size W W2) :
  W2.cell? ⟨b,off+k*2+1,none⟩=W.cell? ⟨b,off+k*2+1,none⟩∧W2.frozen? ⟨b,off+k*2+1,none⟩=false:=
 ⟨h.cell (p:=⟨b,_,none⟩) I.b2,(h.frozen (p:=⟨b,_,none⟩) I.b2).trans (I.room (k*2+1) (by omega)).2⟩
theorem Ybm.none {l:Ya5} {w W:World} {A:Option Addr} (hb:Below w.heap.size w W) {o:Ow} {G:Ya} (h:Rep W G (.sl Ybb) o l (.reg [.slice A l.length 0] 0) G):l.length=0∧Ybm Ybb .deep l w (.returned (.slice A l.length 0)) W:=by
 obtain⟨A',c',k1,k2,k3⟩:=h;have k1':some (Value.slice A l.length 0)=some (.slice A' l.length c'):=k1;simp only[Option.some.injEq,Value.slice.injEq] at k1';obtain⟨rfl,-,rfl⟩:=k1';exact⟨Nat.le_zero.1 k2,A,0,rfl,hb,noB,⟨A,0,rfl,k2,fun h=>absurd rfl h⟩,fun _ h=>h.elim⟩
end Mf
namespace Mf
open Go Go.RowKit
set_option linter.unusedVariables false
set_option linter.unusedSimpArgs false
variable {P:Program}
theorem Yt9 {f:FuncId} {e:Ty} {o:Ow} (h:Yb2 P f (Ybk [.sh] [.cl .sh (.sl e)] (fun x=>Ymd x.1) fun y=>⟨[.cl o (.sl e) y],[]⟩)) (ho:o≠.sh)
  (hrd:∀ xs:List e.El,PT.rds [.cl .sh (.sl e)] [.cl .sh (.sl e) xs]=some (xs,())) (w:World) (A:Option Addr) (c:Nat) (xs:List e.El) (hr:Rep w noB (.sl e) .sh xs (.reg [.slice A xs.length c] 0) noB) (hl:xs.length≤2147483648) :
  Calls P f #[.slice A xs.length c] w (Ybm e o xs w):=by
 obtain⟨out,e1,hc⟩:=h [.cl .sh (.sl e) xs] Out some ⟨[.cl o (.sl e) xs],[]⟩ (by
  simp only[Ybk,hrd,Ymd,decide_eq_true hl,cond_true,Option.bind_some])
 cases e1;exact hc.Yuk ho w A c hr
theorem Yts {f:FuncId} (ht:Yaw P f)
  (h:∀ (w:World) (A:Option Addr) (c:Nat) (l:Ya5),Rep w noB (.sl Ybb) .sh l (.reg [.slice A l.length c] 0) noB→l.length≤2147483648→(∀ x∈l,x.2.1.length≤2147483648)→Calls P f #[.slice A l.length c] w (Ybm Ybb .deep l w)) :
  Yb2 P f (Ybk [.sh] [.cl .sh (.sl Ybb)] (fun x=>Yfa x.1) fun y=>⟨[.cl .deep (.sl Ybb) y],[]⟩):=by
 intro cs R k r he;simp only[Ybk] at he
 split at he
 ·rename_i x hx
  have e:=PT.Ybl hx;subst e
  cases hb:Yfa x.1 with
  |none=>rw[hb] at he;cases he
  |some t=>
   rw[hb] at he;unfold Yfa at hb
   cases hd:(decide (x.1.length≤2147483648)&&x.1.all (fun x=>decide (x.2.1.length≤2147483648))) with
   |false=>rw[hd] at hb;cases hb
   |true=>
    rw[hd] at hb;cases hb;simp only[Bool.and_eq_true,decide_eq_true_eq,List.all_eq_true] at hd;exact⟨_,he,Ymq ht (fun w A c hr=>h w A c x.1 hr hd.1 hd.2)⟩
 ·cases he
theorem Ywp (xs:List Ybb.El):PT.rds [.cl .sh (.sl Ybb)] [.cl .sh (.sl Ybb) xs]=some (xs,()):=by rfl
theorem Yws (xs:List Int):PT.rds [.cl .sh (.sl (.int .i64))] [.cl .sh (.sl (.int .i64)) xs]=some (xs,()):=by rfl
end Mf
namespace Mf
open Go Go.RowKit
set_option linter.unusedVariables false
set_option linter.unusedSimpArgs false
variable {P:Program}
abbrev Yi0:Ty:=.pair .bool (.pair (.int .i64) (.pair (.sl (.int .i64)) .unit))
abbrev Yw7:=List (Bool×Int×List Int×Unit)
abbrev Hdr:=Option Addr×Nat×Nat
def hvl (h:Hdr):Value:=.slice h.1 h.2.1 h.2.2
structure Ynv (w:World) (l:Ya5) (b off:Nat) (hs:Nat→Hdr) (Fs:Nat→Ya) (F:Ya):Prop where
 at1:∀ j (h:j<l.length),w.cell? ⟨b,off+j*2,none⟩=some (.int .i64 l[j].1)
 hd:∀ j (h:j<l.length),w.cell? ⟨b,off+j*2+1,none⟩=some (hvl (hs j))
 rep:∀ j (h:j<l.length),Rep w noB (.sl (.int .i64)) .deep l[j].2.1 (.reg [hvl (hs j)] 0) (Fs j)∧Ye (Fs j) F
 dis:∀ i j,i<j→j<l.length→Dis (Fs i) (Fs j)
 blk:F b
theorem Rep.src {w:World} {l:Ya5} {A:Option Addr} {c:Nat} {F M:Ya} (h:Rep w M (.sl Ybb) .deep l (.reg [.slice A l.length c] 0) F) (hl:0<l.length) :
  ∃ b off hs Fs,A=some ⟨b,off,none⟩∧Ynv w l b off hs Fs F:=by
 obtain⟨A',c',k1,k2,k3⟩:=h;have k1':some (Value.slice A l.length c)=some (.slice A' l.length c'):=k1;simp only[Option.some.injEq,Value.slice.injEq] at k1';obtain⟨rfl,-,rfl⟩:=k1'
 obtain⟨b,off,Fs,rfl,hF,hroom,he,hd⟩:=k3 (by omega)
 have hput:∀ j,∃ h:Hdr,∀ (hj:j<l.length),w.cell? ⟨b,off+j*2,none⟩=some (.int .i64 l[j].1)∧w.cell? ⟨b,off+j*2+1,none⟩=some (hvl h)∧Rep w noB (.sl (.int .i64)) .deep l[j].2.1 (.reg [hvl h] 0) (Fs j):=by
  intro j
  by_cases hj:j<l.length
  ·obtain⟨G1,G2,r1,⟨G3,G4,r2,-,s3,-,-⟩,s1,s2,-⟩:=(he j hj).1
   have hs:Ybb.size=2:=rfl;have hs1:(Ty.int .i64).size=1:=rfl;have r2:=(Rep.Yec (M':=noB) r2).sub (G:=Fs j) (fun x hx=>s2 x (s3 x hx));obtain⟨A',c',t1,t2,t3⟩:=r2;refine⟨(A',l[j].2.1.length,c'),fun _=>⟨?_,?_,A',c',rfl,t2,t3⟩⟩
   ·simp only[Rep,Src.cell,hs] at r1;simpa using r1
   ·simp only[Src.cell,Src.sh,hs,hs1] at t1;simpa [hvl] using t1
  ·exact⟨(none,0,0),fun h=>absurd h hj⟩
 obtain⟨hs,hhs⟩:=Classical.axiomOfChoice hput;exact⟨b,off,hs,Fs,rfl,⟨fun j hj=>(hhs j hj).1,fun j hj=>(hhs j hj).2.1,fun j hj=>⟨(hhs j hj).2.2,(he j hj).2.1⟩,hd,hF⟩⟩
def cellsOf (l:Ya5) (hs:Nat→Hdr):Nat→List Value
 |0=>[]
 |k+1=>cellsOf l hs k++[.bool false,.int .i64 (l.getD k (0,[],())).1,hvl (hs k)]
theorem Yhr (l:Ya5) (hs:Nat→Hdr):∀ k,(cellsOf l hs k).length=k*3
 |0=>rfl
 |k+1=>by simp only[cellsOf,List.length_append,Yhr l hs k,List.length_cons,List.length_nil];omega
theorem Yjd (l:Ya5) (hs:Nat→Hdr):∀ (k j:Nat),j<k→(cellsOf l hs k)[j*3]? = some (.bool false)∧(cellsOf l hs k)[j*3+1]? = some (.int .i64 (l.getD j (0,[],())).1)∧(cellsOf l hs k)[j*3+2]? = some (hvl (hs j))
 |k+1,j,h=>by
  have hl:=Yhr l hs k
  by_cases e:j=k
  ·subst e
   simp only[cellsOf];refine⟨?_,?_,?_⟩
   ·rw[List.getElem?_append_right (by omega),hl,show j*3-j*3=0 by omega];rfl
   ·rw[List.getElem?_append_right (by omega),hl,show j*3+1-j*3=1 by omega];rfl
   ·rw[List.getElem?_append_right (by omega),hl,show j*3+2-j*3=2 by omega];rfl
  ·obtain⟨h1,h2,h3⟩:=Yjd l hs k j (by omega)
   simp only[cellsOf];refine⟨?_,?_,?_⟩
   ·rw[List.getElem?_append_left (by omega)];exact h1
   ·rw[List.getElem?_append_left (by omega)];exact h2
   ·rw[List.getElem?_append_left (by omega)];exact h3
theorem Yuh {w0 w1 W:World} {l:Ya5} {b off:Nat} {hs:Nat→Hdr} {Fs:Nat→Ya} {F:Ya} {e:TypeId} {v:Value} (h01:Below w0.heap.size w0 w1) (hF:Ype w0 w1 F) (S:0<l.length→Ynv w1 l b off hs Fs F)
  (hb:Below w1.heap.size w1 W) (ho:W.ownsRow w1.heap.size e 3 v l.length (cellsOf l hs l.length)):Ybm Yi0 .deep (l.map toStep) w0 (.returned v) W:=by
 obtain⟨-,hv⟩:=ho;rcases hv with ⟨rfl,hn⟩ | ⟨g,cap,cur,rfl,hg,hh,hcap,-,hsz,htake⟩
 ·have hl:l=[]:=List.eq_nil_of_length_eq_zero hn
  subst hl;exact⟨none,0,rfl,h01.trans (hb.mono h01.size),noB,⟨none,0,rfl,Nat.le_refl _,fun h=>absurd rfl h⟩,fun _ h=>h.elim⟩
 ·have hgl:g<W.heap.size:=(Array.getElem?_eq_some_iff.1 hh).1
  have hcell:∀ i,W.cell? ⟨g,i,none⟩=cur[i]?:=fun i=>by unfold World.cell?;rw[hh];rfl
  have hmap:(l.map toStep).length=l.length:=by simp
  have h01s:=h01.size;have hbs:=hb.size
  refine⟨some ⟨g,0,none⟩,cap,by rw[hmap],h01.trans (hb.mono h01.size),fun x=>w0.heap.size≤x∧x<W.heap.size,
   ⟨some ⟨g,0,none⟩,cap,rfl,by rw[hmap];exact hcap,fun hc=>⟨g,0,fun j x=>Fs j x∧j<l.length,rfl,⟨by omega,hgl⟩,fun i hi=>?_,fun j hj=>?_,fun i j hij hj x hx hx'=>?_⟩⟩,fun x h=>h⟩
  ·have hs3:Yi0.size=3:=rfl
   rw[hs3] at hi;refine⟨?_,?_⟩
   ·rw[hcell,Nat.zero_add,Array.getElem?_eq_getElem (by omega)];rfl
   ·unfold World.frozen?;rw[hh];simp
  ·rw[hmap] at hj
   have S:=S (by omega)
   have hs3:Yi0.size=3:=rfl;have e1:Ow.deep.elem=Ow.deep:=rfl;obtain⟨c1,c2,c3⟩:=Yjd l hs l.length j hj
   have hget:∀ i u,(cellsOf l hs l.length)[i]? = some u→W.cell? ⟨g,i,none⟩=some u:=fun i u hu=>by
    rw[hcell];rw[←htake,List.getElem?_take] at hu
    split at hu
    ·rw[←Array.getElem?_toList];exact hu
    ·cases hu
   have hlj:l.getD j (0,[],())=l[j]:=by simp[List.getD,hj]
   obtain⟨hr,hrF⟩:=S.rep j hj;have hlt:∀ x,Fs j x→w0.heap.size≤x∧x<w1.heap.size:=fun x hx=>hF x (hrF x hx)
   refine⟨?_,fun x hx=>⟨(hlt x hx.1).1,by have:=(hlt x hx.1).2;omega⟩,fun hx=>by have:=(hlt g hx.1).2;omega⟩
   simp only[List.getElem_map,toStep,e1];refine⟨noB,fun x=>Fs j x∧j<l.length,?_,⟨noB,fun x=>Fs j x∧j<l.length,?_,⟨fun x=>Fs j x∧j<l.length,noB,?_,trivial,fun _ h=>h,fun _ h=>h.elim,fun _ _ h=>h⟩,fun _ h=>h.elim,fun _ h=>h,fun _ h=>h.elim⟩,fun _ h=>h.elim,fun _ h=>h,fun _ h=>h.elim⟩
   ·show World.cell? _ _=_
    simp only[hs3,Nat.zero_add,Nat.add_zero];exact hget _ _ c1
   ·show World.cell? _ _=_
    simp only[hs3,Nat.zero_add,Nat.add_zero,Ty.size];rw[←hlj];exact hget _ _ c2
   ·have h2:=(hr.go (w':=W) (M':=noB) ⟨hbs,fun x hx=>hb.block x (hlt x hx).2,fun x hx hlt=>⟨hb.block x hlt,fun h=>h⟩⟩ (fun i hi=>rfl)).sub (G:=fun x=>Fs j x∧j<l.length) (fun x hx=>⟨hx,hj⟩)
    obtain⟨A',c',t1,t2,t3⟩:=h2.Yec (M':=fun x=>w0.heap.size≤x∧x<W.heap.size);have t1':some (hvl (hs j))=some (.slice A' l[j].2.1.length c'):=t1;refine⟨A',c',?_,t2,t3⟩;show World.cell? _ _=_;simp only[Src.sh,hs3,Nat.zero_add,Nat.add_zero,Ty.size];rw[←t1'];have:=hget _ _ c3
    simpa [Nat.add_assoc] using this
  ·rw[hmap] at hj
   exact(S (by omega)).dis i j hij hj x hx.1 hx'.1
theorem Yud {f:FuncId} (ht:Yaw P f)
  (h:∀ (w:World) (A:Option Addr) (c:Nat) (l:Ya5),Rep w noB (.sl Ybb) .sh l (.reg [.slice A l.length c] 0) noB→l.length≤1048576→(∀ x∈l,x.2.1.length≤2147483648)→Calls P f #[.slice A l.length c] w (Ybm Yi0 .deep (l.map toStep) w)) :
  Yb2 P f (Ybk [.sh] [.cl .sh (.sl Ybb)] (fun x=>Ygy x.1) fun y=>⟨[.cl .deep (.sl Yi0) y],[]⟩):=by
 intro cs R k r he;simp only[Ybk] at he
 split at he
 ·rename_i x hx
  have e:=PT.Ybl hx;subst e
  cases hb:Ygy x.1 with
  |none=>rw[hb] at he;cases he
  |some t=>
   rw[hb] at he;unfold Ygy at hb
   cases hd:(decide (x.1.length≤1048576)&&x.1.all (fun x=>decide (x.2.1.length≤2147483648))) with
   |false=>rw[hd] at hb;cases hb
   |true=>
    rw[hd] at hb;cases hb;simp only[Bool.and_eq_true,decide_eq_true_eq,List.all_eq_true] at hd;exact⟨_,he,Ymq ht (fun w A c hr=>h w A c x.1 hr hd.1 hd.2)⟩
 ·cases he
end Mf
namespace Mf
open Go Go.RowKit
set_option linter.unusedVariables false
set_option linter.unusedSimpArgs false
variable {P:Program}
structure OnlyC (w W:World) (S:Nat→Nat→Prop):Prop where
 os:W.os=w.os
 tape:W.tape=w.tape
 output:W.output=w.output
 size:w.heap.size≤W.heap.size
 blk:∀ b,b<w.heap.size→(∀ i,¬ S b i)→W.heap[b]? = w.heap[b]?
 cell:∀ b i,b<w.heap.size→¬ S b i→W.cell? ⟨b,i,none⟩=w.cell? ⟨b,i,none⟩
 frz:∀ b i,b<w.heap.size→W.frozen? ⟨b,i,none⟩=w.frozen? ⟨b,i,none⟩
theorem OnlyC.refl (w:World) (S:Nat→Nat→Prop):OnlyC w w S:=⟨rfl,rfl,rfl,Nat.le_refl _,fun _ _ _=>rfl,fun _ _ _ _=>rfl,fun _ _ _=>rfl⟩
theorem OnlyC.alloc {w W:World} {S:Nat→Nat→Prop} (h:OnlyC w W S) (o:Obj):OnlyC w (W.alloc o) S:=by
 have hb:Below W.heap.size W (W.alloc o):=(Below.refl _ W).alloc (Nat.le_refl _) o;have hs:=h.size
 exact⟨hb.os.trans h.os,hb.tape.trans h.tape,hb.output.trans h.output,Nat.le_trans h.size hb.size,fun b hb' hS=>(hb.block b (by omega)).trans (h.blk b hb' hS),
  fun b i hb' hS=>(hb.cell (p:=⟨b,i,none⟩) (by show b<_;omega)).trans (h.cell b i hb' hS),fun b i hb'=>(hb.frozen (p:=⟨b,i,none⟩) (by show b<_;omega)).trans (h.frz b i hb')⟩
theorem OnlyC.drew {w W:World} {S:Nat→Nat→Prop} (h:OnlyC w W S):OnlyC w W.drew S:=⟨h.os,h.tape,h.output,h.size,h.blk,h.cell,h.frz⟩
theorem OnlyC.set {w W:World} {S:Nat→Nat→Prop} (h:OnlyC w W S) {b i:Nat} (v:Value) (hS:S b i):OnlyC w (W.setCell ⟨b,i,none⟩ v) S:=by
 refine⟨h.os,h.tape,h.output,by simpa [World.setCell] using h.size,fun x hx hn=>?_,fun x j hx hn=>?_,fun x j hx=>?_⟩
 ·rw[Below.heap_setCell _ _ _ _ (fun e=>hn i (by subst e;exact hS))];exact h.blk x hx hn
 ·rw[World.cell?_setCell_other (h:=fun e=>hn (by cases e;exact hS))];exact h.cell x j hx hn
 ·rw[World.frozen?_setCell];exact h.frz x j hx
theorem OnlyC.mono {w W:World} {S S':Nat→Nat→Prop} (h:OnlyC w W S) (hs:∀ b i,S b i→S' b i):OnlyC w W S':=
 ⟨h.os,h.tape,h.output,h.size,fun b hb hn=>h.blk b hb (fun i x=>hn i (hs _ _ x)),fun b i hb hn=>h.cell b i hb (fun x=>hn (hs _ _ x)),h.frz⟩
def Ynf (bB oB nB:Nat) (b i:Nat):Prop:=b=bB∧oB≤i∧i<oB+nB
structure FI (w W:World) (bB oB nB:Nat) (src:Nat→Hdr):Prop where
 only:OnlyC w W (Ynf bB oB nB)
 at1:∀ j,j<nB→W.cell? ⟨bB,oB+j,none⟩=some (hvl (src j))
theorem FI.alloc {w W:World} {bB oB nB:Nat} {src:Nat→Hdr} (h:FI w W bB oB nB src) (hb:0<nB→bB<w.heap.size) (o:Obj):FI w (W.alloc o) bB oB nB src:=
 ⟨h.only.alloc o,fun j hj=>(((Below.refl _ W).alloc (Nat.le_refl _) o).cell (p:=⟨bB,_,none⟩) (Nat.lt_of_lt_of_le (hb (by omega)) h.only.size)).trans (h.at1 j hj)⟩
theorem FI.drew {w W:World} {bB oB nB:Nat} {src:Nat→Hdr} (h:FI w W bB oB nB src):FI w W.drew bB oB nB src:=⟨h.only.drew,h.at1⟩
theorem FI.set {w W:World} {bB oB nB:Nat} {src:Nat→Hdr} (h:FI w W bB oB nB src) {a:Nat} (ha:a<nB) (x:Hdr):FI w (W.setCell ⟨bB,oB+a,none⟩ (hvl x)) bB oB nB (fun j=>if j=a then x else src j):=by
 refine⟨h.only.set _ ⟨rfl,by omega,by omega⟩,fun j hj=>?_⟩
 by_cases e:j=a
 ·subst e
  rw[if_pos rfl]
  exact World.cell?_setCell_same' _ _ _ (by rw[h.at1 j hj];rfl)
 ·rw[if_neg e,World.cell?_setCell_other (h:=fun e'=>e (by have:=congrArg Addr.off e';simp at this;omega))]
  exact h.at1 j hj
def Yb9 (at_:Nat→Nat) (hc:Nat→Hdr) (pick:Nat→Bool) (hb:Nat→Hdr):Nat→Nat→Hdr
 |0=>hb
 |k+1=>fun j=>if pick k=true then(if j=at_ k then hc k else Yb9 at_ hc pick hb k j) else Yb9 at_ hc pick hb k j
theorem Yvj {at_:Nat→Nat} {hc:Nat→Hdr} {pick:Nat→Bool} {hb:Nat→Hdr} {k:Nat} (h:pick k=true):Yb9 at_ hc pick hb (k+1)=fun j=>if j=at_ k then hc k else Yb9 at_ hc pick hb k j:=by
 funext j;simp only[Yb9,if_pos h]
theorem Yv7 {at_:Nat→Nat} {hc:Nat→Hdr} {pick:Nat→Bool} {hb:Nat→Hdr} {k:Nat} (h:pick k=false):Yb9 at_ hc pick hb (k+1)=Yb9 at_ hc pick hb k:=by
 funext j;simp[Yb9,h]
end Mf
namespace Mf
open Go Go.RowKit
set_option linter.unusedVariables false
set_option linter.unusedSimpArgs false
variable {P:Program} {Z:W0}
def Yd7 (ps:Ya5) (pick:Nat→Bool) (j:Nat):Nat→Option Nat
 |0=>none
 |k+1=>if pick k=true∧(ps.getD k (0,[],())).1.toNat=j then some k else Yd7 ps pick j k
theorem Yen {ps:Ya5} {pick:Nat→Bool} {j:Nat}:∀ {k i:Nat},Yd7 ps pick j k=some i→i<k∧(ps.getD i (0,[],())).1.toNat=j
 |k+1,i,h=>by
  unfold Yd7 at h
  split at h
  ·rename_i hh;cases h;exact⟨by omega,hh.2⟩
  ·have:=Yen h;exact⟨by omega,this.2⟩
theorem Yii {ps:Ya5} {at_:Nat→Nat} {hc:Nat→Hdr} {pick:Nat→Bool} {hb:Nat→Hdr} (ha:∀ k,k<ps.length→at_ k=(ps.getD k (0,[],())).1.toNat) (j:Nat):∀ k,k≤ps.length→
  Yb9 at_ hc pick hb k j=match Yd7 ps pick j k with | some i=>hc i | none=>hb j
 |0,_=>rfl
 |k+1,hk=>by
  have ih:=Yii (hc:=hc) (pick:=pick) (hb:=hb) ha j k (by omega)
  have hak:=ha k (by omega)
  simp only[Yb9,Yd7]
  by_cases hp:pick k=true
  ·by_cases he:j=at_ k
   ·rw[if_pos hp,if_pos he,if_pos ⟨hp,by rw[←hak];exact he.symm⟩]
   ·rw[if_pos hp,if_neg he,if_neg (fun h=>he (by rw[hak];exact h.2.symm)),ih]
  ·rw[if_neg hp,if_neg (fun h=>hp h.1),ih]
theorem Ydv (bs:List (List Int)) (ps:Ya5) (pick:Nat→Bool):∀ k,(Ybr bs ps pick k).length=bs.length
 |0=>rfl
 |k+1=>by
  simp only[Ybr]
  split
  ·rw[List.length_set,Ydv bs ps pick k]
  ·exact Ydv bs ps pick k
theorem Ykd (bs:List (List Int)) (ps:Ya5) (pick:Nat→Bool) (j:Nat) (hj:j<bs.length):∀ k,
  (Ybr bs ps pick k).getD j []=match Yd7 ps pick j k with | some i=>(ps.getD i (0,[],())).2.1 | none=>bs.getD j []
 |0=>rfl
 |k+1=>by
  have ih:=Ykd bs ps pick j hj k;have hl:=Ydv bs ps pick k;simp only[Ybr,Yd7]
  by_cases hp:pick k=true
  ·rw[if_pos hp]
   by_cases he:(ps.getD k (0,[],())).1.toNat=j
   ·rw[if_pos ⟨hp,he⟩]
    subst he
    rw[List.getD_eq_getElem?_getD,List.getElem?_set_self (by rw[hl];exact hj)];rfl
   ·rw[if_neg (fun h=>he h.2)]
    rw[←ih,List.getD_eq_getElem?_getD,List.getElem?_set_ne he,List.getD_eq_getElem?_getD]
  ·rw[if_neg hp,if_neg (fun h=>hp h.1),ih]
structure Ypp (w:World) (bs:List (List Int)) (ps:Ya5) (bd od:Nat) (F:Ya) (A C:Option Addr) (bB oB bC oC cB cC:Nat) (hb hc:Nat→Hdr) (FB FC:Nat→Ya):Prop where
 a1:w.cell? ⟨bd,od,none⟩=some (.slice A bs.length cB)
 a2:w.cell? ⟨bd,od+1,none⟩=some (.slice C ps.length cC)
 a3:bs.length≤cB
 A0:cB≠0→A=some ⟨bB,oB,none⟩∧F bB∧Room w bB oB cB
 C0:0<ps.length→C=some ⟨bC,oC,none⟩∧F bC∧(cB≠0→bC≠bB)
 eB:∀ j (h:j<bs.length),w.cell? ⟨bB,oB+j,none⟩=some (hvl (hb j))∧Rep w noB (.sl (.int .i64)) .deep bs[j] (.reg [hvl (hb j)] 0) (FB j)∧Ye (FB j) F∧¬ FB j bB
 eC:∀ j (h:j<ps.length),w.cell? ⟨bC,oC+j*2,none⟩=some (.int .i64 ps[j].1)∧w.cell? ⟨bC,oC+j*2+1,none⟩=some (hvl (hc j))∧Rep w noB (.sl (.int .i64)) .deep ps[j].2.1 (.reg [hvl (hc j)] 0) (FC j)∧Ye (FC j) F∧(cB≠0→¬ FC j bB)
 dB:∀ i j,i<j→j<bs.length→Dis (FB i) (FB j)
 dC:∀ i j,i<j→j<ps.length→Dis (FC i) (FC j)
 dX:∀ i j,i<bs.length→j<ps.length→Dis (FB i) (FC j)
theorem Yna {w:World} {M F:Ya} {bs:List (List Int)} {ps:Ya5} {bd od:Nat} (h:Rep w M Yq .deep (bs,ps,()) (.mem bd od) F) :
  ∃ A C bB oB bC oC cB cC hb hc FB FC,Ypp w bs ps bd od F A C bB oB bC oC cB cC hb hc FB FC:=by
 obtain⟨F1,F2,hB,⟨F3,F4,hP,-,s3,-,-⟩,s1,s2,d12⟩:=h;obtain⟨A,cB,a1,a2,a3⟩:=hB;have hPs:=hP;obtain⟨C,cC,c1,c2,c3⟩:=hP;replace a2:bs.length≤cB:=a2;replace c2:ps.length≤cC:=c2
 have a1':w.cell? ⟨bd,od,none⟩=some (.slice A bs.length cB):=by simpa [Src.cell] using a1
 have c1':w.cell? ⟨bd,od+1,none⟩=some (.slice C ps.length cC):=by simpa [Src.cell,Src.sh,Ty.size] using c1
 have hBx:∃ (bB oB:Nat) (FB:Nat→Ya),(cB≠0→A=some ⟨bB,oB,none⟩∧F1 bB∧Room w bB oB cB∧(∀ j (h:j<bs.length),Rep w M (.sl (.int .i64)) .deep bs[j] (.mem bB (oB+j)) (FB j)∧Ye (FB j) F1∧¬ FB j bB)∧∀ i j,i<j→j<bs.length→Dis (FB i) (FB j)):=by
  by_cases hz:cB=0
  ·exact⟨0,0,fun _=>noB,fun h=>absurd hz h⟩
  ·obtain⟨b,off,Fs,e1,e2,e3,e4,e5⟩:=a3 hz
   have hs:(Ty.sl (.int .i64)).size=1:=rfl
   exact⟨b,off,Fs,fun _=>⟨e1,e2,by simpa [hs] using e3,fun j hj=>by
    have:=e4 j hj;have e1:Ow.deep.elem=Ow.deep:=rfl;rw[e1] at this
    simpa [hs] using this,e5⟩⟩
 obtain⟨bB,oB,FB,hBx⟩:=hBx
 have hCx:∃ (bC oC:Nat) (hc:Nat→Hdr) (FC:Nat→Ya),(0<ps.length→C=some ⟨bC,oC,none⟩∧Ynv w ps bC oC hc FC F3):=by
  by_cases hz:0<ps.length
  ·have h2:Rep w M (.sl Ybb) .deep ps (.reg [.slice C ps.length cC] 0) F3:=⟨C,cC,rfl,c2,c3⟩
   obtain⟨b,off,hs,Fs,e1,e2⟩:=h2.src hz;exact⟨b,off,hs,Fs,fun _=>⟨e1,e2⟩⟩
  ·exact⟨0,0,fun _=>(none,0,0),fun _=>noB,fun h=>absurd h hz⟩
 obtain⟨bC,oC,hc,FC,hCx⟩:=hCx
 have hput:∀ j,∃ x:Hdr,∀ (hj:j<bs.length),w.cell? ⟨bB,oB+j,none⟩=some (hvl x)∧Rep w noB (.sl (.int .i64)) .deep bs[j] (.reg [hvl x] 0) (FB j):=by
  intro j
  by_cases hj:j<bs.length
  ·obtain⟨A',c',t1,t2,t3⟩:=Rep.Yec (M':=noB) ((hBx (by omega)).2.2.2.1 j hj).1
   exact⟨(A',bs[j].length,c'),fun _=>⟨by simpa [Src.cell,hvl] using t1,A',c',rfl,t2,t3⟩⟩
  ·exact⟨(none,0,0),fun h=>absurd h hj⟩
 obtain⟨hb,hhb⟩:=Classical.axiomOfChoice hput;refine⟨A,C,bB,oB,bC,oC,cB,cC,hb,hc,FB,FC,a1',c1',a2,fun h=>⟨(hBx h).1,s1 _ (hBx h).2.1,(hBx h).2.2.1⟩,fun h=>⟨(hCx h).1,s2 _ (s3 _ (hCx h).2.blk),fun hz e=>?_⟩,fun j hj=>?_,fun j hj=>?_,fun i j hij hj=>?_,fun i j hij hj=>?_,fun i j hi hj x hx hx'=>?_⟩
 ·exact d12 bB (hBx hz).2.1 (e▸s3 _ (hCx h).2.blk)
 ·have hx:=(hBx (by omega)).2.2.2.1 j hj
  exact⟨(hhb j hj).1,(hhb j hj).2,fun x h=>s1 _ (hx.2.1 x h),hx.2.2⟩
 ·have S:=(hCx (by omega)).2
  exact⟨S.at1 j hj,S.hd j hj,(S.rep j hj).1,fun x h=>s2 _ (s3 _ ((S.rep j hj).2 x h)),fun hz h=>d12 bB (hBx hz).2.1 (s3 _ ((S.rep j hj).2 _ h))⟩
 ·exact(hBx (by omega)).2.2.2.2 i j hij hj
 ·exact(hCx (by omega)).2.dis i j hij hj
 ·exact d12 x (((hBx (by omega)).2.2.2.1 i hi).2.1 x hx) (s3 _ (((hCx (by omega)).2.rep j hj).2 x hx'))
theorem Yj3 {w W1:World} {M F:Ya} {bs:List (List Int)} {ps:Ya5} {bd od:Nat} {A C:Option Addr} {bB oB bC oC cB cC:Nat} {hb hc:Nat→Hdr} {FB FC:Nat→Ya} (D:Ypp w bs ps bd od F A C bB oB bC oC cB cC hb hc FB FC)
  {pick:Nat→Bool} (hF:∀ x,F x→x<w.heap.size∧x≠bd) (hbd:bd<w.heap.size)
  (I:FI w W1 bB oB bs.length (Yb9 (fun k=>(ps.getD k (0,[],())).1.toNat) hc pick hb ps.length)) :
  Rep (W1.setCell ⟨bd,od+1,none⟩ (.slice none 0 0)) M Yq .deep (Ybr bs ps pick ps.length,[],()) (.mem bd od) F:=by
 have hin:∀ i,¬ Ynf bB oB bs.length bd i:=fun i h=>(hF _ (D.A0 (by have:=h.2;have:=D.a3;omega)).2.1).2 h.1.symm
 have hsome:(W1.cell? ⟨bd,od+1,none⟩).isSome=true:=by rw[I.only.cell bd _ hbd (hin _),D.a2];rfl
 have c0:(W1.setCell ⟨bd,od+1,none⟩ (.slice none 0 0)).cell? ⟨bd,od,none⟩=some (.slice A bs.length cB):=by
  rw[World.cell?_setCell_other (h:=fun e=>by have:=congrArg Addr.off e;simp at this),I.only.cell bd _ hbd (hin _)];exact D.a1
 have c1:(W1.setCell ⟨bd,od+1,none⟩ (.slice none 0 0)).cell? ⟨bd,od+1,none⟩=some (.slice none 0 0):=World.cell?_setCell_same' _ _ _ hsome;have hml:(Ybr bs ps pick ps.length).length=bs.length:=Ydv _ _ _ _
 have hsame:∀ x,F x→(cB≠0→x≠bB)→Same w (W1.setCell ⟨bd,od+1,none⟩ (.slice none 0 0)) x:=fun x hx hne=>by
  have h1:=hF x hx
  refine(Below.heap_setCell _ _ _ _ h1.2).trans (I.only.blk x h1.1 (fun i h=>hne (by have:=h.2;have:=D.a3;omega) h.1))
 refine⟨F,noB,⟨A,cB,?_,by rw[hml];exact D.a3,fun hc0=>?_⟩,⟨noB,noB,⟨none,0,?_,Nat.le_refl _,fun h=>absurd rfl h⟩,trivial,fun _ h=>h,fun _ h=>h,fun _ h=>h.elim⟩,fun _ h=>h,fun _ h=>h.elim,fun _ _ h=>h⟩
 ·rw[hml];simpa [Src.cell] using c0
 ·obtain⟨rfl,hbF,hroom⟩:=D.A0 hc0
  have hbB:=hF bB hbF;have hs:(Ty.sl (.int .i64)).size=1:=rfl
  refine⟨bB,oB,fun j x=>(match Yd7 ps pick j ps.length with | some i=>FC i x | none=>FB j x)∧j<bs.length,rfl,hbF,?_,fun j hj=>?_,fun i j hij hj x hx hx'=>?_⟩
  ·refine Yfe (fun i hi=>?_)
   rw[hs,Nat.mul_one] at hi;rw[I.only.frz bB _ hbB.1];refine⟨?_,(hroom i hi).2⟩
   by_cases h:i<bs.length
   ·rw[I.at1 i h];rfl
   ·rw[I.only.cell bB _ hbB.1 (fun h'=>by have:=h'.2;omega)];exact(hroom i hi).1
  ·rw[hml] at hj
   have e1:Ow.deep.elem=Ow.deep:=rfl
   have hcell:(W1.setCell ⟨bd,od+1,none⟩ (.slice none 0 0)).cell? ⟨bB,oB+j,none⟩=some (hvl (Yb9 (fun k=>(ps.getD k (0,[],())).1.toNat) hc pick hb ps.length j)):=by
    rw[World.cell?_setCell_other (h:=fun e=>hbB.2 (congrArg Addr.block e).symm)];exact I.at1 j hj
   have hsrc:=Yii (ps:=ps) (hc:=hc) (pick:=pick) (hb:=hb) (at_:=fun k=>(ps.getD k (0,[],())).1.toNat) (fun k _=>rfl) j ps.length (Nat.le_refl _)
   have hel:(Ybr bs ps pick ps.length)[j]'(by rw[hml];exact hj)=(Ybr bs ps pick ps.length).getD j []:=by simp[List.getD,hml,hj]
   have hmv:=Ykd bs ps pick j hj ps.length;rw[hel,hmv,e1,hs,Nat.mul_one];rw[hsrc] at hcell
   have bring:∀ (words:List Int) (h:Hdr) (Fx:Ya),Rep w noB (.sl (.int .i64)) .deep words (.reg [hvl h] 0) Fx→Ye Fx F→¬ Fx bB→(W1.setCell ⟨bd,od+1,none⟩ (.slice none 0 0)).cell? ⟨bB,oB+j,none⟩=some (hvl h)→
     Rep (W1.setCell ⟨bd,od+1,none⟩ (.slice none 0 0)) M (.sl (.int .i64)) .deep words (.mem bB (oB+j)) Fx:=by
    intro words h Fx hr hsub hnb hcl
    have h2:Rep (W1.setCell ⟨bd,od+1,none⟩ (.slice none 0 0)) (fun x=>x=bB∨x=bd) (.sl (.int .i64)) .deep words (.reg [hvl h] 0) Fx:=
     (hr.Yec (M':=fun x=>x=bB∨x=bd)).go ⟨by simpa [World.setCell] using I.only.size,fun x hx=>hsame x (hsub x hx) (fun _ e=>hnb (e▸hx)),fun x hx hlt=>⟨(Below.heap_setCell _ _ _ _ (fun e=>hx (.inr e))).trans (I.only.blk x hlt (fun i h=>hx (.inl h.1))),hx⟩⟩ (fun i hi=>rfl)
    obtain⟨A',c',t1,t2,t3⟩:=h2.Yec (M':=M);have t1':some (hvl h)=some (.slice A' words.length c'):=t1;refine⟨A',c',?_,t2,t3⟩;show World.cell? _ _=_;rw[Nat.add_zero,←t1'];exact hcl
   cases hlp:Yd7 ps pick j ps.length with
   |some i=>
    rw[hlp] at hcell;obtain⟨hi,-⟩:=Yen hlp;obtain⟨-,-,r1,r2,r3⟩:=D.eC i hi
    have hg:ps.getD i (0,[],())=ps[i]:=by simp[List.getD,hi]
    simp only[hg]
    exact⟨(bring _ _ _ r1 r2 (r3 hc0) hcell).sub (fun x hx=>⟨by rw[hlp];exact hx,hj⟩),fun x hx=>r2 x (by have:=hx.1;rw[hlp] at this;exact this),fun hx=>r3 hc0 (by have:=hx.1;rw[hlp] at this;exact this)⟩
   |none=>
    rw[hlp] at hcell;obtain⟨-,r1,r2,r3⟩:=D.eB j hj
    have hg:bs.getD j []=bs[j]:=by simp[List.getD,hj]
    simp only[hg]
    exact⟨(bring _ _ _ r1 r2 r3 hcell).sub (fun x hx=>⟨by rw[hlp];exact hx,hj⟩),fun x hx=>r2 x (by have:=hx.1;rw[hlp] at this;exact this),fun hx=>r3 (by have:=hx.1;rw[hlp] at this;exact this)⟩
  ·rw[hml] at hj
   have hx:=hx.1;have hx':=hx'.1
   cases h1:Yd7 ps pick i ps.length with
   |some a=>
    obtain⟨ha,ha'⟩:=Yen h1;rw[h1] at hx
    cases h2:Yd7 ps pick j ps.length with
    |some b=>
     obtain⟨hb',hb''⟩:=Yen h2;rw[h2] at hx';rcases Nat.lt_trichotomy a b with hab | hab | hab
     ·exact D.dC a b hab hb' x hx hx'
     ·subst hab;omega
     ·exact D.dC b a hab ha x hx' hx
    |none=>
     rw[h2] at hx'
     exact D.dX j a hj ha x hx' hx
   |none=>
    rw[h1] at hx
    cases h2:Yd7 ps pick j ps.length with
    |some b=>
     obtain⟨hb',-⟩:=Yen h2;rw[h2] at hx'
     exact D.dX i b (by omega) hb' x hx hx'
    |none=>
     rw[h2] at hx';exact D.dB i j hij hj x hx hx'
 ·simpa [Src.cell,Src.sh,Ty.size] using c1
end Mf
namespace Mf
open Go Go.RowKit
set_option linter.unusedVariables false
set_option linter.unusedSimpArgs false
variable {P:Program} {Z:W0}
theorem Ymu {C:Cx} {cs:List TV} {d d':Yq.El} {W W1:World} {bd od bB oB nB:Nat} (I:Str Z (Yi Z.w (Mt Z C (Yh cs).root noB) C.L (Yh cs).root) C noB (Yh cs).root Z.w)
  (hR:(Yh cs).root 0=some ⟨.mem,.cl .deep Yq d⟩) (hR':∀ r R,(Yh cs).root r=some R→r=0) (hL:C.L 0=.mem bd od) (hO:OnlyC Z.w W1 (Ynf bB oB nB)) (hnB:0<nB→C.F 0 bB)
  (hW:W=W1.setCell ⟨bd,od+1,none⟩ (.slice none 0 0)) (hrep:∀ M,Rep W M Yq .deep d' (.mem bd od) (C.F 0)) :
  Str Z (Yi W (Mt Z C (fun r=>if r=0 then some ⟨.mem,.cl .deep Yq d'⟩ else none) noB) C.L (fun r=>if r=0 then some ⟨.mem,.cl .deep Yq d'⟩ else none)) C noB (fun r=>if r=0 then some ⟨.mem,.cl .deep Yq d'⟩ else none) W:=by
 obtain⟨b,off,e1,m1,m2,m3,m4,m5,m6⟩:=I.mem 0 _ hR rfl;rw[hL] at e1;cases e1
 have hone:∀ r R,(if r=0 then some (⟨.mem,.cl .deep Yq d'⟩:Root) else none)=some R→r=0∧R=⟨.mem,.cl .deep Yq d'⟩:=fun r R h=>by
  split at h
  ·cases h;exact⟨by assumption,rfl⟩
  ·cases h
 have hsz:Z.w.heap.size≤W.heap.size:=by rw[hW];simpa [World.setCell] using hO.size
 have hfz:∀ b i,b<Z.w.heap.size→W.frozen? ⟨b,i,none⟩=Z.w.frozen? ⟨b,i,none⟩:=fun b i hb=>by rw[hW,World.frozen?_setCell];exact hO.frz b i hb
 have hcell:∀ b i,b<Z.w.heap.size→¬ Ynf bB oB nB b i→¬ (b=bd∧i=od+1)→W.cell? ⟨b,i,none⟩=Z.w.cell? ⟨b,i,none⟩:=fun b i hb h1 h2=>by
  rw[hW,World.cell?_setCell_other (h:=fun e=>h2 (by cases e;exact⟨rfl,rfl⟩))];exact hO.cell b i hb h1
 have hnot:∀ i,¬ Ynf bB oB nB bd i:=fun i h=>m1 (h.1▸hnB (by have:=h.2;omega))
 refine⟨fun r R h=>?_,fun r R h hk=>?_,fun r R h hk=>?_,fun r R b h hb=>?_,fun _ h=>h.elim,fun r r' R R' hne h h'=>?_,fun r R h=>fun _ _ h=>h.elim,fun r R h=>?_,hsz,fun b hb hM=>?_,fun b i hk=>?_,fun b i j hk=>?_,I.xb,I.kb,?_,?_,?_⟩
 ·obtain⟨rfl,rfl⟩:=hone r R h
  show Rep W _ Yq .deep d' (C.L 0) (C.F 0);rw[hL];exact hrep _
 ·obtain⟨rfl,rfl⟩:=hone r R h;cases hk
 ·obtain⟨rfl,rfl⟩:=hone r R h
  refine⟨bd,od,hL,m1,Nat.lt_of_lt_of_le m2 hsz,fun i hi=>?_,m4,m5,m6⟩;have hi:i<2:=hi;have hr:=m3 i hi;rw[hfz bd _ m2];refine⟨?_,hr.2⟩
  by_cases e:i=1
  ·subst e
   rw[hW,World.cell?_setCell_same' _ _ _ (by rw[hO.cell bd _ m2 (hnot _)];exact hr.1)];rfl
  ·rw[hcell bd _ m2 (hnot _) (fun h=>e (by omega))];exact hr.1
 ·obtain⟨rfl,rfl⟩:=hone r R h
  obtain⟨b1,b2,b3,b4⟩:=I.bnd 0 _ b hR hb;exact⟨Nat.lt_of_lt_of_le b1 hsz,b2,b3,b4⟩
 ·obtain⟨rfl,-⟩:=hone r R h
  obtain⟨rfl,-⟩:=hone r' R' h';exact absurd rfl hne
 ·obtain⟨rfl,rfl⟩:=hone r R h
  exact I.plc 0 ⟨.mem,.cl .deep Yq d⟩ hR
 ·have n1:b≠bd:=fun e=>hM ((e▸m6).resolve_right (by omega))
  refine(?_:W.heap[b]? = Z.w.heap[b]?);rw[hW,Below.heap_setCell _ _ _ _ n1];refine hO.blk b hb (fun i h=>?_)
  have hF:=hnB (by have:=h.2;omega)
  obtain⟨b1,b2,b3,b4⟩:=I.bnd 0 _ bB hR hF
  exact hM (h.1▸b4.resolve_right (by omega))
 ·refine hcell b i (I.kb b i hk) (fun h=>?_) (fun h=>?_)
  ·have hF:=hnB (by have:=h.2;omega)
   exact(I.bnd 0 _ bB hR hF).2.1 i (h.1▸hk)
  ·obtain⟨rfl,rfl⟩:=h
   exact m4 1 (show 1<2 by omega) hk
 ·exact hfz b j (I.kb b i hk)
 ·rw[hW];exact hO.os
 ·rw[hW];exact hO.tape
 ·rw[hW];exact hO.output
theorem Ynw {f:FuncId} (ht:Yaw P f)
  (h:∀ (w:World) (A C:Option Addr) (bd od bB oB bC oC nB cB nC cC:Nat) (at_:Nat→Nat) (hc hb:Nat→Hdr),bd<w.heap.size→(0<nB→A=some ⟨bB,oB,none⟩∧bB<w.heap.size∧bd≠bB)→(0<nC→C=some ⟨bC,oC,none⟩∧bC<w.heap.size∧bC≠bB)→
   w.cell? ⟨bd,od,none⟩=some (.slice A nB cB)→w.cell? ⟨bd,od+1,none⟩=some (.slice C nC cC)→w.frozen? ⟨bd,od+1,none⟩=false→(∀ j,j<nB→w.cell? ⟨bB,oB+j,none⟩=some (hvl (hb j))∧w.frozen? ⟨bB,oB+j,none⟩=false)→
   (∀ j,j<nC→w.cell? ⟨bC,oC+j*2,none⟩=some (.int .i64 (at_ j))∧w.cell? ⟨bC,oC+j*2+1,none⟩=some (hvl (hc j))∧at_ j<nB)→nC≤1152921504606846976→
   Calls P f #[.pointer (some ⟨bd,od,none⟩)] w fun e W=>e=.returned (.tuple #[])∧∃ W1,FI w W1 bB oB nB (Yb9 at_ hc (fun _=>true) hb nC)∧W=W1.setCell ⟨bd,od+1,none⟩ (.slice none 0 0))
  (d d':Yq.El) (hd:Yl9 d=some d'):Yb5 P f [.mu] [.op (.cl .deep Yq d)] ⟨[],[.op (.cl .deep Yq d')]⟩ where
 there:=ht
 calls:=by
  intro Z C us hl hnt hP1 hP2 I;obtain⟨bs,ps,_⟩:=d;have hus:us.size=1:=hl;have hR:(Yh [.op (.cl .deep Yq (bs,ps,()))]).root 0=some ⟨.mem,.cl .deep Yq (bs,ps,())⟩:=rfl
  have hR':∀ r R,(Yh [.op (.cl .deep Yq (bs,ps,()))]).root r=some R→r=0:=by
   intro r R hr
   by_cases e:r=0
   ·exact e
   ·rw[Yaa,List.getElem?_eq_none (by simp;omega)] at hr;cases hr
  obtain⟨bd,od,hL,m1,m2,m3,m4,m5,m6⟩:=I.str.mem 0 _ hR rfl;have hrep:Rep Z.w _ Yq .deep (bs,ps,()) (C.L 0) (C.F 0):=I.str.rep 0 _ hR;rw[hL] at hrep;have h0:Yd _ _ _ _ (.loc 0 []) ((⟨us,[]⟩:Act).tmps.getD 0 undef):=I.tm 0 (.loc 0 []) rfl;obtain⟨R,b,off,q1,q2,q3⟩:=h0.leaf rfl;rw[hR] at q1;cases q1;rw[Yf,hL] at q2;cases q2
  have hus2:us=#[.pointer (some ⟨bd,od,none⟩)]:=by
   apply Array.ext (by simp[hus])
   intro i h4 h5
   have:i=0:=by omega
   subst this;have:us.getD 0 undef=.pointer (some ⟨bd,od,none⟩):=q3
   simpa [Array.getD,h4] using this
  rw[hus2];simp only[Yl9] at hd
  cases hcond:(decide (ps.length≤1152921504606846976)&&ps.all (fun p=>inB p.1 bs.length)) with
  |false=>rw[hcond] at hd;cases hd
  |true=>
   rw[hcond] at hd;cases hd;simp only[Bool.and_eq_true,decide_eq_true_eq,List.all_eq_true] at hcond;obtain⟨hlen,hrng⟩:=hcond;obtain⟨A,Cc,bB,oB,bC,oC,cB,cC,hb,hc,FB,FC,D⟩:=Yna hrep;have hFb:∀ x,C.F 0 x→x<Z.w.heap.size∧x≠bd:=fun x hx=>⟨(I.str.bnd 0 _ x hR hx).1,fun e=>m1 (e▸hx)⟩
   have hr2:=m3 1 (show 1<2 by omega)
   refine(h Z.w A Cc bd od bB oB bC oC bs.length cB ps.length cC (fun k=>(ps.getD k (0,[],())).1.toNat) hc hb m2 (fun hn=>?_) (fun hn=>?_) D.a1 D.a2 hr2.2 (fun j hj=>?_) (fun j hj=>?_) hlen).mono ?_
   ·have h3:=D.A0 (by have:=D.a3;omega)
    exact⟨h3.1,(hFb _ h3.2.1).1,(hFb _ h3.2.1).2.symm⟩
   ·have h3:=D.C0 hn
    have hp:inB ps[0].1 bs.length=true:=hrng _ (List.getElem_mem hn);simp only[inB,Bool.and_eq_true,decide_eq_true_eq] at hp
    exact⟨h3.1,(hFb _ h3.2.1).1,h3.2.2 (by have:=D.a3;omega)⟩
   ·have h3:=D.A0 (by have:=D.a3;omega)
    exact⟨(D.eB j hj).1,(h3.2.2 j (by have:=D.a3;omega)).2⟩
   ·have hp:inB ps[j].1 bs.length=true:=hrng _ (List.getElem_mem hj)
    simp only[inB,Bool.and_eq_true,decide_eq_true_eq] at hp
    have hg:ps.getD j (0,[],())=ps[j]:=by simp[List.getD,hj]
    obtain⟨e1,e2,-⟩:=D.eC j hj;simp only[hg]
    exact⟨by rw[e1];congr 2;omega,e2,by omega⟩
   ·rintro e W ⟨rfl,W1,hFI,rfl⟩
    have hnew:=fun M=>Yj3 (M:=M) D hFb m2 hFI
    refine⟨_,rfl,C,noB,fun r=>if r=0 then some ⟨.mem,.cl .deep Yq (Ybr bs ps (fun _=>true) ps.length,[],())⟩ else none,noB,?_,⟨⟨_,rfl,rfl⟩,trivial⟩,fun _ h=>h,rfl,rfl,rfl⟩
    exact Ymu I.str hR hR' hL hFI.only (fun hn=>(D.A0 (by have:=D.a3;omega)).2.1) rfl hnew
theorem Yvs {f:FuncId} (ht:Yaw P f)
  (h:∀ (w:World) (A C:Option Addr) (bd od bB oB bC oC nB cB nC cC:Nat) (at_:Nat→Nat) (hc hb:Nat→Hdr),bd<w.heap.size→(0<nB→A=some ⟨bB,oB,none⟩∧bB<w.heap.size∧bd≠bB)→(0<nC→C=some ⟨bC,oC,none⟩∧bC<w.heap.size∧bC≠bB)→
   w.cell? ⟨bd,od,none⟩=some (.slice A nB cB)→w.cell? ⟨bd,od+1,none⟩=some (.slice C nC cC)→w.frozen? ⟨bd,od+1,none⟩=false→(∀ j,j<nB→w.cell? ⟨bB,oB+j,none⟩=some (hvl (hb j))∧w.frozen? ⟨bB,oB+j,none⟩=false)→
   (∀ j,j<nC→w.cell? ⟨bC,oC+j*2,none⟩=some (.int .i64 (at_ j))∧w.cell? ⟨bC,oC+j*2+1,none⟩=some (hvl (hc j))∧at_ j<nB)→nC≤1152921504606846976→
   Calls P f #[.pointer (some ⟨bd,od,none⟩)] w fun e W=>e=.returned (.tuple #[])∧∃ W1,FI w W1 bB oB nB (Yb9 at_ hc (fun _=>true) hb nC)∧W=W1.setCell ⟨bd,od+1,none⟩ (.slice none 0 0)) :
  Yb2 P f (Ybk [.mu] [.op (.cl .deep Yq)] (fun x=>Yl9 x.1) fun y=>⟨[],[.op (.cl .deep Yq y)]⟩):=by
 intro cs R k r he;simp only[Ybk] at he
 split at he
 ·rename_i x hx
  have e:=PT.Ybl hx;subst e
  cases hb:Yl9 x.1 with
  |none=>rw[hb] at he;cases he
  |some t=>rw[hb] at he;exact⟨_,he,Ynw ht h x.1 t hb⟩
 ·cases he
end Mf
namespace Mf
open Go Go.RowKit
set_option linter.unusedVariables false
set_option linter.unusedSimpArgs false
variable {P:Program} {Z:W0}
theorem Yo4 {f:FuncId} (ht:Yaw P f)
  (h:∀ (w:World) (A C:Option Addr) (bd od bB oB bC oC nB cB nC cC:Nat) (at_:Nat→Nat) (hc hb:Nat→Hdr) (Pk:Option Addr) (nP cP bP oP:Nat) (pick:Nat→Bool),bd<w.heap.size→(0<nB→A=some ⟨bB,oB,none⟩∧bB<w.heap.size∧bd≠bB)→(0<nC→C=some ⟨bC,oC,none⟩∧bC<w.heap.size∧bC≠bB)→
   w.cell? ⟨bd,od,none⟩=some (.slice A nB cB)→w.cell? ⟨bd,od+1,none⟩=some (.slice C nC cC)→w.frozen? ⟨bd,od+1,none⟩=false→(∀ j,j<nB→w.cell? ⟨bB,oB+j,none⟩=some (hvl (hb j))∧w.frozen? ⟨bB,oB+j,none⟩=false)→
   (∀ j,j<nC→w.cell? ⟨bC,oC+j*2,none⟩=some (.int .i64 (at_ j))∧w.cell? ⟨bC,oC+j*2+1,none⟩=some (hvl (hc j))∧at_ j<nB)→nC≤1152921504606846976→(0<nP→Pk=some ⟨bP,oP,none⟩∧bP<w.heap.size∧(0<nB→bP≠bB)∧∀ k,k<nP→w.cell? ⟨bP,oP+k,none⟩=some (.bool (pick k)))→(∀ k,nP≤k→pick k=false)→
   Calls P f #[.pointer (some ⟨bd,od,none⟩),.slice Pk nP cP] w fun e W=>e=.returned (.tuple #[])∧∃ W1,FI w W1 bB oB nB (Yb9 at_ hc pick hb nC)∧W=W1.setCell ⟨bd,od+1,none⟩ (.slice none 0 0))
  (d d':Yq.El) (picks:List Bool) (hd:Yl0 d picks=some d'):Yb5 P f [.mu,.sh] [.op (.cl .deep Yq d),.cl .sh (.sl .bool) picks] ⟨[],[.op (.cl .deep Yq d')]⟩ where
 there:=ht
 calls:=by
  intro Z C us hl hnt hP1 hP2 I;obtain⟨bs,ps,_⟩:=d;have hus:us.size=2:=hl;have hR:(Yh [.op (.cl .deep Yq (bs,ps,())),.cl .sh (.sl .bool) picks]).root 0=some ⟨.mem,.cl .deep Yq (bs,ps,())⟩:=rfl
  have hR':∀ r R,(Yh [.op (.cl .deep Yq (bs,ps,())),.cl .sh (.sl .bool) picks]).root r=some R→r=0:=by
   intro r R hr
   by_cases e:r=0
   ·exact e
   ·rw[Yaa] at hr
    match r,e with
    |1,_=>cases hr
    |n+2,_=>cases hr
  obtain⟨bd,od,hL,m1,m2,m3,m4,m5,m6⟩:=I.str.mem 0 _ hR rfl;have hrep:Rep Z.w _ Yq .deep (bs,ps,()) (C.L 0) (C.F 0):=I.str.rep 0 _ hR;rw[hL] at hrep;have h0:Yd _ _ _ _ (.loc 0 []) ((⟨us,[]⟩:Act).tmps.getD 0 undef):=I.tm 0 (.loc 0 []) rfl;obtain⟨R,b,off,q1,q2,q3⟩:=h0.leaf rfl;rw[hR] at q1;cases q1;rw[Yf,hL] at q2;cases q2;have h1:Yd _ _ _ _ (.cl .sh (.sl .bool) picks) ((⟨us,[]⟩:Act).tmps.getD 1 undef):=I.tm 1 (.cl .sh (.sl .bool) picks) rfl;have hone:=h1.one rfl;have hrp:Rep Z.w _ (.sl .bool) .sh picks (.reg (us.getD 1 undef).cells.toList 0) noB:=h1.1;obtain⟨Pk,cP,p1,p2,p3⟩:=hrp
  have hv:us.getD 1 undef=.slice Pk picks.length cP:=by
   have:(Src.reg (us.getD 1 undef).cells.toList 0).cell Z.w 0=some (us.getD 1 undef):=by
    rw[show(us.getD 1 undef).cells=#[us.getD 1 undef] from hone];rfl
   rw[this] at p1;exact Option.some.inj p1
  have hus2:us=#[.pointer (some ⟨bd,od,none⟩),.slice Pk picks.length cP]:=by
   apply Array.ext (by simp[hus])
   intro i h4 h5
   have:i=0∨i=1:=by omega
   rcases this with rfl | rfl
   ·have:us.getD 0 undef=.pointer (some ⟨bd,od,none⟩):=q3
    simpa [Array.getD,h4] using this
   ·simpa [Array.getD,h4] using hv
  have hP:∃ bP oP,0<picks.length→Pk=some ⟨bP,oP,none⟩∧bP<Z.w.heap.size∧(∀ x,C.F 0 x→bP≠x)∧∀ k,k<picks.length→Z.w.cell? ⟨bP,oP+k,none⟩=some (.bool (picks.getD k false)):=by
   by_cases h0:0<picks.length
   ·obtain⟨b,off,q1,q2,q3,q4⟩:=p3 (show picks≠[] from List.ne_nil_of_length_pos h0)
    refine⟨b,off,fun _=>⟨q1,q3,fun x hx e=>q2 (.inl ⟨0,_,hR,.inl (e▸hx)⟩),fun k hk=>?_⟩⟩;have:=q4 k hk
    have hg:picks.getD k false=picks[k]:=by simp[List.getD,hk]
    rw[hg]
    simpa [Rep,Src.cell,Ty.size] using this
   ·exact⟨0,0,fun h=>absurd h h0⟩
  obtain⟨bP,oP,hP⟩:=hP;rw[hus2];simp only[Yl0] at hd
  cases hcond:(decide (ps.length≤1152921504606846976)&&ps.all (fun p=>inB p.1 bs.length)) with
  |false=>rw[hcond] at hd;cases hd
  |true=>
   rw[hcond] at hd;cases hd;simp only[Bool.and_eq_true,decide_eq_true_eq,List.all_eq_true] at hcond;obtain⟨hlen,hrng⟩:=hcond;obtain⟨A,Cc,bB,oB,bC,oC,cB,cC,hb,hc,FB,FC,D⟩:=Yna hrep;have hFb:∀ x,C.F 0 x→x<Z.w.heap.size∧x≠bd:=fun x hx=>⟨(I.str.bnd 0 _ x hR hx).1,fun e=>m1 (e▸hx)⟩
   have hr2:=m3 1 (show 1<2 by omega)
   refine(h Z.w A Cc bd od bB oB bC oC bs.length cB ps.length cC (fun k=>(ps.getD k (0,[],())).1.toNat) hc hb Pk picks.length cP bP oP (fun k=>picks.getD k false) m2 (fun hn=>?_) (fun hn=>?_) D.a1 D.a2 hr2.2 (fun j hj=>?_) (fun j hj=>?_) hlen (fun hn=>⟨(hP hn).1,(hP hn).2.1,fun hn'=>(hP hn).2.2.1 bB (D.A0 (by have:=D.a3;omega)).2.1,(hP hn).2.2.2⟩) (fun k hk=>by simp[List.getD,hk])).mono ?_
   ·have h3:=D.A0 (by have:=D.a3;omega)
    exact⟨h3.1,(hFb _ h3.2.1).1,(hFb _ h3.2.1).2.symm⟩
   ·have h3:=D.C0 hn
    have hp:inB ps[0].1 bs.length=true:=hrng _ (List.getElem_mem hn);simp only[inB,Bool.and_eq_true,decide_eq_true_eq] at hp
    exact⟨h3.1,(hFb _ h3.2.1).1,h3.2.2 (by have:=D.a3;omega)⟩
   ·have h3:=D.A0 (by have:=D.a3;omega)
    exact⟨(D.eB j hj).1,(h3.2.2 j (by have:=D.a3;omega)).2⟩
   ·have hp:inB ps[j].1 bs.length=true:=hrng _ (List.getElem_mem hj)
    simp only[inB,Bool.and_eq_true,decide_eq_true_eq] at hp
    have hg:ps.getD j (0,[],())=ps[j]:=by simp[List.getD,hj]
    obtain⟨e1,e2,-⟩:=D.eC j hj;simp only[hg]
    exact⟨by rw[e1];congr 2;omega,e2,by omega⟩
   ·rintro e W ⟨rfl,W1,hFI,rfl⟩
    have hnew:=fun M=>Yj3 (M:=M) D hFb m2 hFI
    refine⟨_,rfl,C,noB,fun r=>if r=0 then some ⟨.mem,.cl .deep Yq (Ybr bs ps (fun k=>picks.getD k false) ps.length,[],())⟩ else none,noB,?_,⟨⟨_,rfl,rfl⟩,trivial⟩,fun _ h=>h,rfl,rfl,rfl⟩
    exact Ymu I.str hR hR' hL hFI.only (fun hn=>(D.A0 (by have:=D.a3;omega)).2.1) rfl hnew
theorem Yvr {f:FuncId} (ht:Yaw P f)
  (h:∀ (w:World) (A C:Option Addr) (bd od bB oB bC oC nB cB nC cC:Nat) (at_:Nat→Nat) (hc hb:Nat→Hdr) (Pk:Option Addr) (nP cP bP oP:Nat) (pick:Nat→Bool),bd<w.heap.size→(0<nB→A=some ⟨bB,oB,none⟩∧bB<w.heap.size∧bd≠bB)→(0<nC→C=some ⟨bC,oC,none⟩∧bC<w.heap.size∧bC≠bB)→
   w.cell? ⟨bd,od,none⟩=some (.slice A nB cB)→w.cell? ⟨bd,od+1,none⟩=some (.slice C nC cC)→w.frozen? ⟨bd,od+1,none⟩=false→(∀ j,j<nB→w.cell? ⟨bB,oB+j,none⟩=some (hvl (hb j))∧w.frozen? ⟨bB,oB+j,none⟩=false)→
   (∀ j,j<nC→w.cell? ⟨bC,oC+j*2,none⟩=some (.int .i64 (at_ j))∧w.cell? ⟨bC,oC+j*2+1,none⟩=some (hvl (hc j))∧at_ j<nB)→nC≤1152921504606846976→(0<nP→Pk=some ⟨bP,oP,none⟩∧bP<w.heap.size∧(0<nB→bP≠bB)∧∀ k,k<nP→w.cell? ⟨bP,oP+k,none⟩=some (.bool (pick k)))→(∀ k,nP≤k→pick k=false)→
   Calls P f #[.pointer (some ⟨bd,od,none⟩),.slice Pk nP cP] w fun e W=>e=.returned (.tuple #[])∧∃ W1,FI w W1 bB oB nB (Yb9 at_ hc pick hb nC)∧W=W1.setCell ⟨bd,od+1,none⟩ (.slice none 0 0)) :
  Yb2 P f (Ybk [.mu,.sh] [.op (.cl .deep Yq),.cl .sh (.sl .bool)] (fun x=>Yl0 x.1 x.2.1) fun y=>⟨[],[.op (.cl .deep Yq y)]⟩):=by
 intro cs R k r he;simp only[Ybk] at he
 split at he
 ·rename_i x hx
  have e:=PT.Ybl hx;subst e
  cases hb:Yl0 x.1 x.2.1 with
  |none=>rw[hb] at he;cases he
  |some t=>rw[hb] at he;exact⟨_,he,Yo4 ht h x.1 t x.2.1 hb⟩
 ·cases he
end Mf
namespace Mf
open Go Go.RowKit
set_option linter.unusedVariables false
set_option linter.unusedSimpArgs false
variable {P:Program}
def Yat (w:World) (e:Ty) (xs:List e.El) (cs:List Value) (F:Ya):Prop:=
 cs.length=xs.length*e.size∧∃ Fs:Nat→Ya,(∀ i (h:i<xs.length),Rep w noB e .deep xs[i] (.reg cs (i*e.size)) (Fs i)∧Ye (Fs i) F)∧∀ i j,i<j→j<xs.length→Dis (Fs i) (Fs j)
theorem Yat.nil {w:World} {e:Ty} {F:Ya}:Yat w e [] [] F:=⟨by simp,fun _=>noB,fun i h=>absurd h (Nat.not_lt_zero _),fun i j _ h=>absurd h (Nat.not_lt_zero _)⟩
theorem mul_lt {i n k r:Nat} (hi:i<n) (hr:r<k):i*k+r<n*k:=by
 have h:(i+1)*k≤n*k:=Nat.mul_le_mul_right _ hi;rw[Nat.add_mul] at h;omega
theorem Yat.app {w:World} {e:Ty} {xs ys:List e.El} {cs ds:List Value} {F G:Ya} (h:Yat w e xs cs F) (g:Yat w e ys ds G) (hd:Dis F G):Yat w e (xs++ys) (cs++ds) (fun b=>F b∨G b):=by
 obtain⟨h1,Fs,h2,h3⟩:=h;obtain⟨g1,Gs,g2,g3⟩:=g
 refine⟨by simp only[List.length_append,h1,g1,Nat.add_mul],fun i=>if i<xs.length then Fs i else Gs (i-xs.length),fun i hi=>?_,fun i j hij hj=>?_⟩
 ·rw[List.length_append] at hi
  by_cases hx:i<xs.length
  ·simp only[hx,if_true]
   refine⟨?_,fun b hb=>.inl ((h2 i hx).2 b hb)⟩;rw[List.getElem_append_left hx];refine(h2 i hx).1.mv fun r hr=>?_;simp only[Src.cell]
   rw[List.getElem?_append_left (by rw[h1];exact mul_lt hx hr)]
  ·simp only[hx,if_false]
   have hy:i-xs.length<ys.length:=by omega
   refine⟨?_,fun b hb=>.inr ((g2 _ hy).2 b hb)⟩
   rw[List.getElem_append_right (by omega)]
   refine(g2 _ hy).1.mv fun r hr=>?_;simp only[Src.cell]
   have hle:xs.length*e.size≤i*e.size:=Nat.mul_le_mul_right _ (by omega)
   rw[List.getElem?_append_right (by rw[h1];omega),h1,Nat.sub_mul]
   congr 1;omega
 ·rw[List.length_append] at hj
  simp only[]
  by_cases hx:i<xs.length
  ·simp only[hx,if_true]
   by_cases hy:j<xs.length
   ·simp only[hy,if_true];exact h3 i j hij hy
   ·simp only[hy,if_false]
    exact fun b hb hb'=>hd b ((h2 i hx).2 b hb) ((g2 (j-xs.length) (by omega)).2 b hb')
  ·have hy:¬ j<xs.length:=by omega
   simp only[hx,hy,if_false]
   exact g3 _ _ (by omega) (by omega)
theorem Yat.sub {w:World} {e:Ty} {xs:List e.El} {cs:List Value} {F G:Ya} (h:Yat w e xs cs F) (hs:Ye F G):Yat w e xs cs G:=by
 obtain⟨h1,Fs,h2,h3⟩:=h;exact⟨h1,Fs,fun i hi=>⟨(h2 i hi).1,fun b hb=>hs b ((h2 i hi).2 b hb)⟩,h3⟩
theorem Yat.Yup {w:World} {M:Ya} {e:Ty} {xs:List e.El} {A:Option Addr} {c:Nat} {F:Ya} (h:Rep w M (.sl e) .deep xs (.reg [.slice A xs.length c] 0) F) :
  ∃ cs,Yat w e xs cs F∧((xs.length=0∧cs=[])∨∃ b off,A=some ⟨b,off,none⟩∧F b∧∀ i u,cs[i]? = some u→w.cell? ⟨b,off+i,none⟩=some u):=by
 obtain⟨A',c',k1,k2,k3⟩:=h;have k1':some (Value.slice A xs.length c)=some (.slice A' xs.length c'):=k1;simp only[Option.some.injEq,Value.slice.injEq] at k1';obtain⟨rfl,-,rfl⟩:=k1'
 by_cases h0:xs.length=0
 ·have:xs=[]:=List.eq_nil_of_length_eq_zero h0
  subst this;exact⟨[],Yat.nil,.inl ⟨rfl,rfl⟩⟩
 ·obtain⟨b,off,Fs,rfl,hF,hroom,he,hd⟩:=k3 (by omega)
  have hle:xs.length*e.size≤c*e.size:=Nat.mul_le_mul_right _ k2
  refine⟨(List.range (xs.length*e.size)).map fun i=>(w.cell? ⟨b,off+i,none⟩).getD undef,⟨by simp,Fs,fun i hi=>⟨?_,(he i hi).2.1⟩,hd⟩,.inr ⟨b,off,rfl,hF,fun i u hu=>?_⟩⟩
  ·refine((he i hi).1.Yec (M':=noB)).mv fun r hr=>?_
   have hlt:=mul_lt hi hr;simp only[Src.cell];rw[List.getElem?_map,List.getElem?_range hlt]
   obtain⟨u,hu⟩:=Option.isSome_iff_exists.1 (hroom (i*e.size+r) (by omega)).1
   rw[Nat.add_assoc,hu];simp[hu]
  ·rw[List.getElem?_map] at hu
   cases hr:(List.range (xs.length*e.size))[i]? with
   |none=>rw[hr] at hu;cases hu
   |some j=>
    rw[hr] at hu
    have hi:i<xs.length*e.size:=by
     have:=(List.getElem?_eq_some_iff.1 hr).1
     simpa using this
    have:j=i:=by
     rw[List.getElem?_range hi] at hr;exact(Option.some.inj hr).symm
    subst this
    obtain⟨v,hv⟩:=Option.isSome_iff_exists.1 (hroom j (by omega)).1
    simp only[Option.map_some] at hu;rw[hv] at hu ⊢
    simpa using hu
theorem Yat.row {w0 w W:World} {e:Ty} {xs:List e.El} {cs:List Value} {F:Ya} {E:TypeId} {v:Value} (h:Yat w e xs cs F) (hF:∀ b,F b→b<w.heap.size) (hb:Below w.heap.size w W) (h0:w0.heap.size≤w.heap.size)
  (ho:W.ownsRow w.heap.size E e.size v xs.length cs):∃ A c,v=.slice A xs.length c∧Rep W noB (.sl e) .deep xs (.reg [.slice A xs.length c] 0) (fun b=>F b∨(w.heap.size≤b∧b<W.heap.size)):=by
 obtain⟨h1,Fs,h2,h3⟩:=h;obtain⟨-,hv⟩:=ho;rcases hv with ⟨rfl,hn⟩ | ⟨g,cap,cur,rfl,hg,hh,hcap,-,hsz,htake⟩
 ·have hl:xs=[]:=List.eq_nil_of_length_eq_zero hn
  subst hl;exact⟨none,0,rfl,none,0,rfl,Nat.le_refl _,fun h=>absurd rfl h⟩
 ·have hgl:g<W.heap.size:=(Array.getElem?_eq_some_iff.1 hh).1
  have hcell:∀ i,W.cell? ⟨g,i,none⟩=cur[i]?:=fun i=>by unfold World.cell?;rw[hh];rfl
  have hbs:=hb.size
  have hget:∀ i u,cs[i]? = some u→W.cell? ⟨g,i,none⟩=some u:=fun i u hu=>by
   rw[hcell];rw[←htake,List.getElem?_take] at hu
   split at hu
   ·rw[←Array.getElem?_toList];exact hu
   ·cases hu
  refine⟨_,_,rfl,some ⟨g,0,none⟩,cap,rfl,hcap,fun hc=>⟨g,0,fun j x=>Fs j x∧j<xs.length,rfl,.inr ⟨hg,hgl⟩,fun i hi=>⟨?_,?_⟩,fun i hi=>⟨?_,fun x hx=>.inl ((h2 i hi).2 x hx.1),fun hx=>?_⟩,fun i j hij hj x hx hx'=>h3 i j hij hj x hx.1 hx'.1⟩⟩
  ·rw[hcell,Nat.zero_add,Array.getElem?_eq_getElem (by omega)];rfl
  ·unfold World.frozen?;rw[hh];simp
  ·have hd:Ow.deep.elem=Ow.deep:=rfl
   rw[hd];have q:=(((h2 i hi).1.go (w':=W) (M':=noB) ⟨hbs,fun x hx=>hb.block x (hF x ((h2 i hi).2 x hx)),fun x hx hlt=>⟨hb.block x hlt,fun h=>h⟩⟩ (fun r hr=>rfl)).mv (s':=.mem g (0+i*e.size)) fun r hr=>?_).sub (G:=fun x=>Fs i x∧i<xs.length) (fun x hx=>⟨hx,hi⟩)
   ·exact q
   ·simp only[Src.cell,Nat.zero_add]
    have hlt:=mul_lt hi hr;rw[←h1] at hlt;rw[List.getElem?_eq_getElem hlt];exact hget _ _ (List.getElem?_eq_getElem hlt)
  ·have:=hF g ((h2 i hi).2 g hx.1);omega
theorem Ytr {f:FuncId} {e e':Ty} {xs:List e.El} {ys:List e'.El} (ht:Yaw P f)
  (h:∀ (w:World) (A:Option Addr) (c:Nat) (F:Ya),Rep w noB (.sl e) .deep xs (.reg [.slice A xs.length c] 0) F→(∀ b,F b→b<w.heap.size)→Calls P f #[.slice A xs.length c] w fun en w'=>
   ∃ A' c',en=.returned (.slice A' ys.length c')∧Below w.heap.size w w'∧∃ G,Rep w' noB (.sl e') .deep ys (.reg [.slice A' ys.length c'] 0) G∧∀ b,G b→F b∨(w.heap.size≤b∧b<w'.heap.size)) :
  Yb5 P f [.mv] [.cl .deep (.sl e) xs] ⟨[.cl .deep (.sl e') ys],[]⟩ where
 there:=ht
 calls:=by
  intro Z C us hl hnt hP1 hP2 I;have hus:us.size=1:=hl;have hR:(Yh [.cl .deep (.sl e) xs]).root 0=some ⟨.reg,.cl .deep (.sl e) xs⟩:=rfl;have hrep:Rep Z.w _ (.sl e) .deep xs (C.L 0) (C.F 0):=I.str.rep 0 _ hR
  have hval:∃ A n c,us.getD 0 undef=.slice A n c∧(C.L 0).cell Z.w 0=some (.slice A n c):=by
   have hv:Yd _ _ _ _ (.seg 0 []) ((⟨us,[]⟩:Act).tmps.getD 0 undef):=I.tm 0 (.seg 0 []) rfl;obtain⟨u,e1,R,s,oo,e0,zs,q1,q2,q3,q4,A,n,c,q5⟩:=hv.1;rw[hR] at q1;cases q1;rw[Yf] at q2;cases q2
   have hagg:¬ ∃ cs,us.getD 0 undef=.agg cs:=fun h=>by have:=hv.2.2.2 h;cases this
   have hone:=Yb6 hagg;simp only[Src.cell,hone] at e1
   have:us.getD 0 undef=u:=by simpa using e1
   exact⟨A,n,c,by rw[this,q5],by rw[q4,q5]⟩
  obtain⟨A,n,c,hu,hcell⟩:=hval
  have hn:n=xs.length:=by
   obtain⟨A',c',k1,_⟩:=hrep;rw[hcell] at k1;cases k1;rfl
  subst hn
  have hus2:us=#[.slice A xs.length c]:=by
   apply Array.ext (by simp[hus])
   intro i h4 h5
   have:i=0:=by omega
   subst this
   simpa [Array.getD,h4] using hu
  rw[hus2]
  have hr:Rep Z.w noB (.sl e) .deep xs (.reg [.slice A xs.length c] 0) (C.F 0):=hrep.Yec.mv fun i hi=>by
   have:i=0:=by simp[Ty.size] at hi;omega
   subst this;rw[hcell];rfl
  have hbnd:=fun b hb=>I.str.bnd 0 _ b hR hb;refine(h Z.w A c (C.F 0) hr (fun b hb=>(hbnd b hb).1)).mono ?_;rintro en w' ⟨A',c',rfl,hb,G,hG,hGF⟩;refine⟨_,rfl,C,G,fun _=>none,G,?_,trivial,fun _ h=>h,?_,rfl,rfl⟩
  ·refine {Ye2 (Lf:=Yi w' (Mt Z C (fun _=>none) G) C.L (fun _=>none)) (C:=C) hb I.str.xb I.str.kb with gbnd:=?_,gdis:=(fun _ _ h=>by cases h),rep:=(fun _ _ h=>by cases h) }
   intro b hbG;rcases hGF b hbG with hF | hN
   ·obtain⟨q1,q2,q3,q4⟩:=hbnd b hF
    exact⟨Nat.lt_of_lt_of_le q1 hb.size,q2,q3,q4⟩
   ·exact⟨hN.2,fun i hk=>by have:=I.str.kb b i hk;omega,fun hx=>by have:=I.str.xb b hx;omega,.inr hN.1⟩
  ·refine⟨?_,rfl,⟨fun h=>(by cases h),fun⟨cs,h⟩=>(by cases h)⟩⟩
   show Rep w' _ (.sl e') .deep ys _ G;exact hG.Yec
theorem Yat.rows {w:World} {e:Ty} {L:List (List e.El)} {A:Option Addr} {c:Nat} {F:Ya} (h:Rep w noB (.sl (.sl e)) .deep L (.reg [.slice A L.length c] 0) F) :
  ∃ (hs:Nat→Hdr) (cs:Nat→List Value) (Fs:Nat→Ya),(0<L.length→∃ b off,A=some ⟨b,off,none⟩∧F b∧∀ j,j<L.length→w.cell? ⟨b,off+j,none⟩=some (hvl (hs j)))∧
   (∀ j (hj:j<L.length),(hs j).2.1=L[j].length∧Yat w e L[j] (cs j) (Fs j)∧Ye (Fs j) F∧((L[j].length=0∧cs j=[])∨∃ b off,(hs j).1=some ⟨b,off,none⟩∧Fs j b∧∀ i u,(cs j)[i]? = some u→w.cell? ⟨b,off+i,none⟩=some u))∧
   ∀ i j,i<j→j<L.length→Dis (Fs i) (Fs j):=by
 obtain⟨A',c',k1,k2,k3⟩:=h;have k1':some (Value.slice A L.length c)=some (.slice A' L.length c'):=k1;simp only[Option.some.injEq,Value.slice.injEq] at k1';obtain⟨rfl,-,rfl⟩:=k1'
 by_cases h0:L.length=0
 ·exact⟨fun _=>(none,0,0),fun _=>[],fun _=>noB,fun h=>by omega,fun j hj=>by omega,fun i j _ hj=>by omega⟩
 ·obtain⟨b,off,Fs,rfl,hF,hroom,he,hd⟩:=k3 (by omega)
  have hone:(Ty.sl e).size=1:=rfl
  have row:∀ j,∃ q:Hdr×List Value,∀ (hj:j<L.length),w.cell? ⟨b,off+j,none⟩=some (hvl q.1)∧q.1.2.1=L[j].length∧Yat w e L[j] q.2 (Fs j)∧((L[j].length=0∧q.2=[])∨∃ b off,q.1.1=some ⟨b,off,none⟩∧Fs j b∧∀ i u,q.2[i]? = some u→w.cell? ⟨b,off+i,none⟩=some u):=by
   intro j
   by_cases hj:j<L.length
   ·obtain⟨A',c',t1,t2,t3⟩:=(he j hj).1
    have hrow:Rep w noB (.sl e) .deep L[j] (.reg [.slice A' L[j].length c'] 0) (Fs j):=⟨A',c',rfl,t2,t3⟩;obtain⟨cs,q1,q2⟩:=Yat.Yup hrow;refine⟨((A',L[j].length,c'),cs),fun _=>⟨?_,rfl,q1,q2⟩⟩
    simpa [Src.cell,hone,hvl] using t1
   ·exact⟨((none,0,0),[]),fun h=>absurd h hj⟩
  obtain⟨q,hq⟩:=Classical.axiomOfChoice row;exact⟨fun j=>(q j).1,fun j=>(q j).2,Fs,fun _=>⟨b,off,rfl,hF,fun j hj=>(hq j hj).1⟩,fun j hj=>⟨(hq j hj).2.1,(hq j hj).2.2.1,(he j hj).2.1,(hq j hj).2.2.2⟩,hd⟩
def Yuz (cs:Nat→List Value):Nat→List Value
 |0=>[]
 |k+1=>Yuz cs k++cs k
theorem Yat.cat {w:World} {e:Ty} {L:List (List e.El)} {cs:Nat→List Value} {Fs:Nat→Ya} {F:Ya} (h:∀ j (hj:j<L.length),Yat w e L[j] (cs j) (Fs j)∧Ye (Fs j) F) (hd:∀ i j,i<j→j<L.length→Dis (Fs i) (Fs j)) :
  ∀ k,k≤L.length→Yat w e (L.take k).flatten (Yuz cs k) (fun b=>∃ j,j<k∧Fs j b)
 |0,_=>by rw[List.take_zero];exact Yat.nil
 |k+1,hk=>by
  have h1:=Yat.cat h hd k (by omega)
  have h2:=(h k (by omega)).1
  rw[List.take_succ_eq_append_getElem (by omega),List.flatten_append]
  have h3:[L[k]].flatten=L[k]:=by simp
  rw[h3];refine(h1.app h2 ?_).sub ?_
  ·rintro b ⟨j,hj,hb⟩ hb'
   exact hd j k hj (by omega) b hb hb'
  ·rintro b (⟨j,hj,hb⟩ | hb)
   ·exact⟨j,by omega,hb⟩
   ·exact⟨k,by omega,hb⟩
theorem Yv1 {α:Type} (L:List (List α)):∀ k,((L.take k).flatten).length≤L.flatten.length:=fun k=>by
 have:L.flatten=(L.take k).flatten++(L.drop k).flatten:=by rw[←List.flatten_append,List.take_append_drop]
 rw[this,List.length_append];omega
def Yhy {α:Type} (L:List (List α)):Option (List α):=cond (decide (L.length≤1048576)&&decide (L.flatten.length≤1048576)) (some L.flatten) none
theorem Yqi {f:FuncId} {e:Ty} (ht:Yaw P f)
  (h:∀ (w:World) (A:Option Addr) (c:Nat) (L:List (List e.El)) (F:Ya),Rep w noB (.sl (.sl e)) .deep L (.reg [.slice A L.length c] 0) F→(∀ b,F b→b<w.heap.size)→L.length≤1048576→L.flatten.length≤1048576→Calls P f #[.slice A L.length c] w fun en w'=>
   ∃ A' c',en=.returned (.slice A' L.flatten.length c')∧Below w.heap.size w w'∧∃ G,Rep w' noB (.sl e) .deep L.flatten (.reg [.slice A' L.flatten.length c'] 0) G∧∀ b,G b→F b∨(w.heap.size≤b∧b<w'.heap.size)) :
  Yb2 P f (Ybk [.mv] [.cl .deep (.sl (.sl e))] (fun x=>Yhy x.1) fun y=>⟨[.cl .deep (.sl e) y],[]⟩):=by
 intro cs R k r he;simp only[Ybk] at he
 split at he
 ·rename_i x hx
  have e':=PT.Ybl hx;subst e'
  cases hb:Yhy x.1 with
  |none=>rw[hb] at he;cases he
  |some t=>
   rw[hb] at he;unfold Yhy at hb
   cases hd:(decide (x.1.length≤1048576)&&decide (x.1.flatten.length≤1048576)) with
   |false=>rw[hd] at hb;cases hb
   |true=>
    rw[hd] at hb;cases hb;simp only[Bool.and_eq_true,decide_eq_true_eq] at hd;exact⟨_,he,Ytr ht (fun w A c F hr hF=>h w A c x.1 F hr hF hd.1 hd.2)⟩
 ·cases he
theorem Yat.one {w:World} {e:Ty} {xs:List e.El} {cs:List Value} {F:Ya} (h:Yat w e xs cs F):∀ u∈cs,u.oneCell'=true:=by
 obtain⟨h1,Fs,h2,-⟩:=h;intro u hu;obtain⟨i,hi,rfl⟩:=List.getElem_of_mem hu;rw[h1] at hi
 have hpos:0<e.size:=by
  rcases Nat.eq_zero_or_pos e.size with h0 | h0
  ·rw[h0] at hi;omega
  ·exact h0
 have hq:i / e.size<xs.length:=Nat.div_lt_of_lt_mul (by rw[Nat.mul_comm];exact hi)
 have hr:i % e.size<e.size:=Nat.mod_lt _ hpos;obtain⟨v,hv,h1'⟩:=(h2 _ hq).1.cells _ hr;simp only[Src.cell] at hv
 have he:i / e.size*e.size+i % e.size=i:=by rw[Nat.mul_comm];exact Nat.div_add_mod i e.size
 rw[he] at hv
 rw[List.getElem?_eq_getElem (by rw[h1];exact hi)] at hv
 cases hv;exact h1'
def Ylz (hs:Nat→Hdr):Nat→Nat
 |0=>0
 |k+1=>Ylz hs k+(hs k).2.1
theorem Ywz (hs:Nat→Hdr):∀ {i j:Nat},i≤j→Ylz hs i≤Ylz hs j:=by
 intro i j h
 induction h with
 |refl=>exact Nat.le_refl _
 |step _ ih=>simp only[Ylz];omega
theorem Ypl {α:Type} {hs:Nat→Hdr} {L:List (List α)} (h:∀ j (hj:j<L.length),(hs j).2.1=L[j].length):∀ k,k≤L.length→Ylz hs k=(L.take k).flatten.length
 |0,_=>by simp[Ylz]
 |k+1,hk=>by
  rw[List.take_succ_eq_append_getElem (by omega),List.flatten_append,List.length_append,Ylz,Ypl h k (by omega),h k (by omega)]
  simp
theorem Yvl {f:FuncId} {e:Ty} {E:TypeId} (ht:Yaw P f)
  (h:∀ (w:World) (A:Option Addr) (b off m c:Nat) (hs:Nat→Hdr) (cs:Nat→List Value),(0<m→A=some ⟨b,off,none⟩∧b<w.heap.size∧∀ j,j<m→w.cell? ⟨b,off+j,none⟩=some (hvl (hs j)))→
   (∀ j,j<m→(cs j).length=(hs j).2.1*e.size∧(∀ u∈cs j,u.oneCell'=true)∧(((hs j).2.1=0∧cs j=[])∨∃ b' o',(hs j).1=some ⟨b',o',none⟩∧b'<w.heap.size∧∀ i u,(cs j)[i]? = some u→w.cell? ⟨b',o'+i,none⟩=some u))→
   m≤1048576→Ylz hs m≤1048576→Calls P f #[.slice A m c] w fun en W=>∃ v,en=.returned v∧Below w.heap.size w W∧W.ownsRow w.heap.size E e.size v (Ylz hs m) (Yuz cs m)) :
  Yb2 P f (Ybk [.mv] [.cl .deep (.sl (.sl e))] (fun x=>Yhy x.1) fun y=>⟨[.cl .deep (.sl e) y],[]⟩):=by
 refine Yqi ht fun w A c L F hr hF hl hf=>?_;obtain⟨hs,cs,Fs,k1,k2,k3⟩:=Yat.rows hr;have htot:=Ypl (hs:=hs) (L:=L) (fun j hj=>(k2 j hj).1) L.length (Nat.le_refl _);rw[List.take_length] at htot;have hcat:=Yat.cat (fun j hj=>⟨(k2 j hj).2.1,(k2 j hj).2.2.1⟩) k3 L.length (Nat.le_refl _);rw[List.take_length] at hcat
 have hA:∃ b off,0<L.length→A=some ⟨b,off,none⟩∧b<w.heap.size∧∀ j,j<L.length→w.cell? ⟨b,off+j,none⟩=some (hvl (hs j)):=by
  by_cases h0:0<L.length
  ·obtain⟨b,off,q1,q2,q3⟩:=k1 h0
   exact⟨b,off,fun _=>⟨q1,hF b q2,q3⟩⟩
  ·exact⟨0,0,fun h=>absurd h h0⟩
 obtain⟨b,off,hA⟩:=hA
 refine(h w A b off L.length c hs cs hA (fun j hj=>?_) hl (by omega)).mono ?_
 ·obtain⟨q1,q2,q3,q4⟩:=k2 j hj
  refine⟨by rw[q1];exact q2.1,q2.one,?_⟩
  rcases q4 with ⟨z1,z2⟩ | ⟨b',o',z1,z2,z3⟩
  ·exact .inl ⟨by rw[q1,z1],z2⟩
  ·exact .inr ⟨b',o',z1,hF b' (q3 b' z2),z3⟩
 ·rintro en W ⟨v,rfl,hB,ho⟩
  rw[htot] at ho
  have hFc:∀ b,(∃ j,j<L.length∧Fs j b)→b<w.heap.size:=by
   rintro b ⟨j,hj,hb⟩;exact hF b ((k2 j hj).2.2.1 b hb)
  obtain⟨A',c',rfl,hrep⟩:=Yat.row (w0:=w) hcat hFc hB (Nat.le_refl _) ho;refine⟨A',c',rfl,hB,_,hrep,?_⟩;rintro b (⟨j,hj,hb⟩ | hb)
  ·exact .inl ((k2 j hj).2.2.1 b hb)
  ·exact .inr hb
end Mf
namespace Mf
open Go Go.RowKit
set_option linter.unusedVariables false
set_option linter.unusedSimpArgs false
variable {P:Program} {Z:W0}
def Out.frz:Out→Out
 |⟨[.cl _ t x],os⟩=>⟨[.cl .sh t x],os⟩
 |⟨[.cl _ t x,.cl _ u y],os⟩=>⟨[.cl .sh t x,.cl .sh u y],os⟩
 |o=>o
def FS.frz (fs:FS):FS:=⟨fs.modes,fun cs R k=>fs.F cs R fun out=>k out.frz⟩
theorem Yb5.frz {f:FuncId} {ms:List Md} {cs:List TV} {o:Ow} {t:Ty} {x:t.El} {os:List TV} (h:Yb5 P f ms cs ⟨[.cl o t x],os⟩):Yb5 P f ms cs ⟨[.cl .sh t x],os⟩ where
 there:=h.there
 calls:=by
  intro Z C us h1 h2 h3 h4 I;refine(h.calls Z C us h1 h2 h3 h4 I).mono ?_;rintro e w' ⟨v,rfl,C',G,ρ,Fr,hs,ho,hF,hr,hs1,hs2⟩;obtain⟨r1,r2,r3⟩:Yc w' (Mt Z C' ρ G) (Yi w' (Mt Z C' ρ G) C'.L ρ) (.cl o t x) (.reg v.cells.toList 0) Fr∧v.cells.size=(TV.cl o t x).size∧((TV.cl o t x).isAgg=true↔∃ cs,v=.agg cs):=hr;obtain⟨w1,hm⟩:=hs.weak (ρ':=ρ) (G':=noB) (fun _ _ h=>h) (fun _ h=>h.elim);have gs:=hs.Ycg (ρ':=ρ) (G':=noB) hm Dd.none (fun _ _ _ h _=>h) (fun _ _ _ h _=>h);refine⟨v,rfl,C',noB,ρ,noB,w1.lf (fun v u hl=>Yi.go gs (Y3.Ypw v) hl),ho,fun _ h=>h,⟨?_,r2,r3⟩,rfl,hs2⟩;show Rep w' (Mt Z C' ρ noB) t .sh x _ noB;refine Rep.share (r1:Rep w' _ t o x _ Fr) hm (fun b hb=>⟨?_,(hs.gbnd b (hF b hb)).1⟩);rintro(⟨r,R,hR,hT⟩ | hh | hh)
  ·exact hs.gdis r R hR b hT (hF b hb)
  ·exact hh
  ·exact(hs.gbnd b (hF b hb)).2.2.1 hh
theorem Yb5.Yw5 {f:FuncId} {ms:List Md} {cs:List TV} {o p:Ow} {t u:Ty} {x:t.El} {y:u.El} {os:List TV} (h:Yb5 P f ms cs ⟨[.cl o t x,.cl p u y],os⟩):Yb5 P f ms cs ⟨[.cl .sh t x,.cl .sh u y],os⟩ where
 there:=h.there
 calls:=by
  intro Z C us h1 h2 h3 h4 I;refine(h.calls Z C us h1 h2 h3 h4 I).mono ?_;rintro e w' ⟨v,rfl,C',G,ρ,Fr,hs,ho,hF,hr,hs1,hs2⟩;obtain⟨vs,rfl,hr⟩:=hr;obtain⟨w1,hm⟩:=hs.weak (ρ':=ρ) (G':=noB) (fun _ _ h=>h) (fun _ h=>h.elim);have gs:=hs.Ycg (ρ':=ρ) (G':=noB) hm Dd.none (fun _ _ _ h _=>h) (fun _ _ _ h _=>h)
  have one:∀ {o:Ow} {t:Ty} {x:t.El} {v:Value} {F:Ya},Ye F G→Ygu w' (Mt Z C' ρ G) C'.L ρ (.cl o t x) v F→Ygu w' (Mt Z C' ρ noB) C'.L ρ (.cl .sh t x) v noB:=by
   rintro o t x v F hFG ⟨r1,r2,r3⟩;refine⟨?_,r2,r3⟩;show Rep w' (Mt Z C' ρ noB) t .sh x _ noB;refine Rep.share (r1:Rep w' _ t o x _ F) hm (fun b hb=>⟨?_,(hs.gbnd b (hFG b hb)).1⟩);rintro(⟨r,R,hR,hT⟩ | hh | hh)
   ·exact hs.gdis r R hR b hT (hFG b hb)
   ·exact hh
   ·exact(hs.gbnd b (hFG b hb)).2.2.1 hh
  refine⟨.tuple vs,rfl,C',noB,ρ,noB,w1.lf (fun v u hl=>Yi.go gs (Y3.Ypw v) hl),ho,fun _ h=>h,⟨vs,rfl,?_⟩,rfl,hs2⟩
  match vs.toList,hr with
  |[v1,v2],hr=>
   obtain⟨F1,F2,a1,⟨F3,F4,a2,_,b1,b2,_⟩,c1,c2,_⟩:=hr
   exact⟨noB,noB,one (fun b hb=>hF b (c1 b hb)) a1,⟨noB,noB,one (fun b hb=>hF b (c2 b (b1 b hb))) a2,trivial,fun _ h=>h,fun _ h=>h,fun _ h=>h.elim⟩,fun _ h=>h,fun _ h=>h,fun _ h=>h.elim⟩
  |[],hr=>exact hr.elim
  |[v1],hr=>obtain⟨_,_,_,h,_⟩:=hr;exact h.elim
  |v1::v2::v3::l,hr=>obtain⟨_,_,_,⟨_,_,_,h,_⟩,_⟩:=hr;exact h.elim
theorem Yb2.frz {f:FuncId} {fs:FS} (h:Yb2 P f fs):Yb2 P f fs.frz:=by
 intro cs R k r he;obtain⟨out,h1,h2⟩:=h cs R (fun out=>k out.frz) r he;refine⟨out.frz,h1,?_⟩;show Yb5 P f fs.modes cs out.frz;obtain⟨res,os⟩:=out
 match res,h2 with
 |[.cl o t x],h2=>exact h2.frz
 |[],h2=>exact h2
 |[.pr a b],h2=>exact h2
 |[.loc a b],h2=>exact h2
 |[.seg a b],h2=>exact h2
 |[.sub a b c d],h2=>exact h2
 |[.pt a b],h2=>exact h2
 |[.clo a b],h2=>exact h2
 |[.nl],h2=>exact h2
 |[.dead a],h2=>exact h2
 |[.rw a b c d e],h2=>exact h2
 |[.tup a],h2=>exact h2
 |[.op a],h2=>exact h2
 |[.gd a b c],h2=>exact h2
 |[.kb a],h2=>exact h2
 |[a,b],h2=>
  cases a with
  |cl o t x=>
   cases b with
   |cl p u y=>exact h2.Yw5
   |_=>exact h2
  |_=>exact h2
 |a::b::c::l,h2=>cases a<;>first | exact h2 | (cases b<;>exact h2)
end Mf
