import Derived.Test.YthaonimonnheeaaGreatMf1
import Derived.Below
import Derived.Calls
import Derived.ChangeSame
import Derived.ChangeShapes
import Derived.DataReads
import Derived.Deep.AppendSrc
import Derived.Deep.Draws
import Derived.Deep.MidRow
import Derived.Deep.Upon
import Derived.KernelRfl
import Derived.Laws.AppendOwn
import Derived.Laws.BytesString
import Derived.Laws.Entries
import Derived.Laws.IdiomCopy
import Derived.Laws.IdiomStrings
import Derived.Laws.Strings
import Derived.Laws.StructEq
import Derived.Laws.Tables
import Derived.Lay
import Derived.Lib.SliceRun
import Derived.Orders
import Derived.Sort.Grow
import Derived.Sort.Row
import GoSem.Core.Region
import GoSem.Core.View
set_option linter.unusedVariables false
set_option linter.unusedSimpArgs false
namespace Mf
open Go
set_option linter.unusedVariables false
abbrev Yb:=Nat→Option Root
structure W0 where
 w:World
 M:Ya
 K:Nat→Nat→Prop
 X:Ya
 P:Nat→Option Src
 nt:Nat
structure Cx where
 L:Nat→Src
 F:Nat→Ya
def Tot (C:Cx) (r:Nat) (R:Root):Ya:=fun b=>C.F r b∨(R.k=.mem∧∃ off,C.L r=.mem b off)
def Mt (Z:W0) (C:Cx) (ρ:Yb) (G:Ya):Ya:=fun b=>(∃ r R,ρ r=some R∧Tot C r R b)∨G b∨Z.X b
def Pl (Z:W0) (r:Nat) (k:Kind) (s:Src):Prop:=(∀ s',Z.P r=some s'→s=s')∧(k=.mem→Z.P r=none→∀ b off,s=.mem b off→∀ i,¬ Z.K b i)
structure Str (Z:W0) (Lf:TV→Value→Prop) (C:Cx) (G:Ya) (ρ:Yb) (w:World):Prop where
 rep:∀ r R,ρ r=some R→Yc w (Mt Z C ρ G) Lf R.tv (C.L r) (C.F r)
 reg:∀ r R,ρ r=some R→R.k=.reg→∃ cs,C.L r=.reg cs 0
 mem:∀ r R,ρ r=some R→R.k=.mem→∃ b off,C.L r=.mem b off∧¬ C.F r b∧b<w.heap.size∧Room w b off R.tv.size∧(∀ i,i<R.tv.size→¬ Z.K b (off+i))∧¬ Z.X b∧(Z.M b∨Z.w.heap.size≤b)
 bnd:∀ r R b,ρ r=some R→C.F r b→b<w.heap.size∧(∀ i,¬ Z.K b i)∧¬ Z.X b∧(Z.M b∨Z.w.heap.size≤b)
 gbnd:∀ b,G b→b<w.heap.size∧(∀ i,¬ Z.K b i)∧¬ Z.X b∧(Z.M b∨Z.w.heap.size≤b)
 dis:∀ r r' R R',r≠r'→ρ r=some R→ρ r'=some R'→Dis (Tot C r R) (Tot C r' R')
 gdis:∀ r R,ρ r=some R→Dis (Tot C r R) G
 plc:∀ r R,ρ r=some R→Pl Z r R.k (C.L r)
 sz:Z.w.heap.size≤w.heap.size
 old:∀ b,b<Z.w.heap.size→¬ Z.M b→Same Z.w w b
 kp:∀ b i,Z.K b i→w.cell? ⟨b,i,none⟩=Z.w.cell? ⟨b,i,none⟩
 kf:∀ b i j,Z.K b i→w.frozen? ⟨b,j,none⟩=Z.w.frozen? ⟨b,j,none⟩
 xb:∀ b,Z.X b→b<Z.w.heap.size
 kb:∀ b i,Z.K b i→b<Z.w.heap.size
 os:w.os=Z.w.os
 tape:w.tape=Z.w.tape
 output:w.output=Z.w.output
structure Dd where
 l:Nat→Path→Prop
 s:Nat→Path→Prop
def Dd.none:Dd:=⟨fun _ _=>False,fun _ _=>False⟩
def Dd.or (a b:Dd):Dd:=⟨fun r p=>a.l r p∨b.l r p,fun r p=>a.s r p∨b.s r p⟩
structure Gs (w w':World) (M M':Ya) (ρ ρ':Yb) (L L':Nat→Src) (D:Dd):Prop where
 size:w.heap.size≤w'.heap.size
 st:∀ b,¬ M b→b<w.heap.size→Same w w' b∧¬ M' b
 rl:∀ r q R b off,¬ D.l r q→ρ r=some R→nav w R.tv (L r) q=some (.mem b off)→∃ R',ρ' r=some R'∧nav w' R'.tv (L' r) q=some (.mem b off)
 rs:∀ r q R s,¬ D.s r q→ρ r=some R→nav w R.tv (L r) q=some s→∀ o e,∀ xs:List e.El,R.tv.gr q=some (.cl o (.sl e) xs)→
  ∃ R',ρ' r=some R'∧nav w' R'.tv (L' r) q=some s∧s.cell w' 0=s.cell w 0∧∃ o',∃ xs':List e.El,R'.tv.gr q=some (.cl o' (.sl e) xs')∧xs'.length=xs.length
theorem Gs.refl (w:World) (M:Ya) (ρ:Yb) (L:Nat→Src):Gs w w M M ρ ρ L L Dd.none where
 size:=Nat.le_refl _
 st:=fun b h _=>⟨rfl,h⟩
 rl:=fun r q R b off _ h1 h2=>⟨R,h1,h2⟩
 rs:=fun r q R s _ h1 h2 o e xs h3=>⟨R,h1,h2,rfl,o,xs,h3,rfl⟩
theorem Gs.trans {w w1 w2:World} {M M1 M2:Ya} {ρ ρ1 ρ2:Yb} {L L1 L2:Nat→Src} {D D':Dd} (h:Gs w w1 M M1 ρ ρ1 L L1 D) (g:Gs w1 w2 M1 M2 ρ1 ρ2 L1 L2 D') :
  Gs w w2 M M2 ρ ρ2 L L2 (D.or D') where
 size:=Nat.le_trans h.size g.size
 st:=fun b hm hb=>by
  obtain⟨h1,h2⟩:=h.st b hm hb;obtain⟨g1,g2⟩:=g.st b h2 (Nat.lt_of_lt_of_le hb h.size);exact⟨h1.trans g1,g2⟩
 rl:=fun r q R b off hd h1 h2=>by
  obtain⟨R',a1,a2⟩:=h.rl r q R b off (fun x=>hd (.inl x)) h1 h2;exact g.rl r q R' b off (fun x=>hd (.inr x)) a1 a2
 rs:=fun r q R s hd h1 h2 o e xs h3=>by
  obtain⟨R',a1,a2,a3,o',xs',a4,a5⟩:=h.rs r q R s (fun x=>hd (.inl x)) h1 h2 o e xs h3;obtain⟨R'',b1,b2,b3,o'',xs'',b4,b5⟩:=g.rs r q R' s (fun x=>hd (.inr x)) a1 a2 o' e xs' a4
  exact⟨R'',b1,b2,by rw[b3,a3],o'',xs'',b4,by rw[b5,a5]⟩
theorem Gs.mono {w w':World} {M M':Ya} {ρ ρ':Yb} {L L':Nat→Src} {D D':Dd} (h:Gs w w' M M' ρ ρ' L L' D) (hl:∀ r p,D.l r p→D'.l r p) (hs:∀ r p,D.s r p→D'.s r p):Gs w w' M M' ρ ρ' L L' D' where
 size:=h.size
 st:=h.st
 rl:=fun r q R b off hd=>h.rl r q R b off (fun x=>hd (hl _ _ x))
 rs:=fun r q R s hd=>h.rs r q R s (fun x=>hd (hs _ _ x))
variable {Z:W0} {Lf:TV→Value→Prop} {C:Cx} {G:Ya} {ρ:Yb} {w:World}
theorem Yil {w:World} {M M' F:Ya} (h:Ye M' M):Goes w w M M' F:=⟨Nat.le_refl _,fun _ _=>rfl,fun b hb _=>⟨rfl,fun x=>hb (h b x)⟩⟩
theorem Yc.mono {w:World} {M M':Ya} {tv:TV} {s:Src} {F:Ya} (h:Yc w M Lf tv s F) (hm:Ye M' M):Yc w M' Lf tv s F:=
 h.go (Yil hm) (fun _ _=>rfl) (fun _ _ x=>x)
theorem Str.weak (I:Str Z Lf C G ρ w) {ρ':Yb} {G':Ya} (hr:∀ r R,ρ' r=some R→ρ r=some R)
  (hg:∀ b,G' b→G b∨∃ r R,ρ r=some R∧ρ' r=none∧C.F r b) :
  Str Z Lf C G' ρ' w∧Ye (Mt Z C ρ' G') (Mt Z C ρ G):=by
 have hm:Ye (Mt Z C ρ' G') (Mt Z C ρ G):=by
  rintro b (⟨r,R,h1,h2⟩ | h | h)
  ·exact .inl ⟨r,R,hr _ _ h1,h2⟩
  ·rcases hg b h with h | ⟨r,R,h1,h2,h3⟩
   ·exact .inr (.inl h)
   ·exact .inl ⟨r,R,h1,.inl h3⟩
  ·exact .inr (.inr h)
 refine⟨⟨fun r R h=>(I.rep r R (hr _ _ h)).mono hm,fun r R h=>I.reg r R (hr _ _ h),fun r R h=>I.mem r R (hr _ _ h),fun r R b h=>I.bnd r R b (hr _ _ h),?_,?_,?_,
  fun r R h=>I.plc r R (hr _ _ h),I.sz,I.old,I.kp,I.kf,I.xb,I.kb,I.os,I.tape,I.output⟩,hm⟩
 ·intro b h
  rcases hg b h with h | ⟨r,R,h1,h2,h3⟩
  ·exact I.gbnd b h
  ·exact I.bnd r R b h1 h3
 ·intro r r' R R' hne h h';exact I.dis r r' R R' hne (hr _ _ h) (hr _ _ h')
 ·intro r R h b hb hg'
  rcases hg b hg' with hh | ⟨r',R',h1,h2,h3⟩
  ·exact I.gdis r R (hr _ _ h) b hb hh
  ·have hne:r≠r':=by rintro rfl;rw[h2] at h;cases h
   exact I.dis r r' R R' hne (hr _ _ h) h1 b hb (.inl h3)
theorem Str.Ycg (I:Str Z Lf C G ρ w) {ρ':Yb} {G':Ya} (hm:Ye (Mt Z C ρ' G') (Mt Z C ρ G)) (D:Dd)
  (hl:∀ r R p,ρ r=some R→¬ D.l r p→ρ' r=some R) (hs:∀ r R p,ρ r=some R→¬ D.s r p→ρ' r=some R) :
  Gs w w (Mt Z C ρ G) (Mt Z C ρ' G') ρ ρ' C.L C.L D where
 size:=Nat.le_refl _
 st:=fun b h _=>⟨rfl,fun x=>h (hm b x)⟩
 rl:=fun r q R b off hd h1 h2=>⟨R,hl r R q h1 hd,h2⟩
 rs:=fun r q R s hd h1 h2 o e xs h3=>⟨R,hs r R q h1 hd,h2,rfl,o,xs,h3,rfl⟩
theorem Str.hand (I:Str Z Lf C G ρ w) {w':World} {G':Ya} (hsz:w.heap.size≤w'.heap.size) (hs:∀ b,b<w.heap.size→¬ G b→Same w w' b)
  (hG:∀ b,G' b→G b∨(w.heap.size≤b∧b<w'.heap.size))
  (hos:w'.os=w.os) (htape:w'.tape=w.tape) (hout:w'.output=w.output) :
  Str Z Lf C G' ρ w'∧Gs w w' (Mt Z C ρ G) (Mt Z C ρ G') ρ ρ C.L C.L Dd.none:=by
 have hst:∀ b,¬ Mt Z C ρ G b→b<w.heap.size→Same w w' b∧¬ Mt Z C ρ G' b:=by
  intro b hm hb;refine⟨hs b hb (fun x=>hm (.inr (.inl x))),?_⟩;rintro(h | h | h)
  ·exact hm (.inl h)
  ·rcases hG b h with h | h
   ·exact hm (.inr (.inl h))
   ·omega
  ·exact hm (.inr (.inr h))
 have hown:∀ r R,ρ r=some R→∀ b,Tot C r R b→b<w.heap.size∧Same w w' b:=by
  intro r R h b hb
  have hlt:b<w.heap.size:=by
   rcases hb with hb | ⟨hk,off,e⟩
   ·exact(I.bnd r R b h hb).1
   ·obtain⟨b',off',e',_,h3,_⟩:=I.mem r R h hk
    rw[e] at e';cases e';exact h3
  exact⟨hlt,hs b hlt (I.gdis r R h b hb)⟩
 have hcell:∀ r R,ρ r=some R→∀ i,(C.L r).cell w' i=(C.L r).cell w i:=by
  intro r R h i
  cases hk:R.k with
  |reg=>obtain⟨cs,e⟩:=I.reg r R h hk;rw[e];rfl
  |mem=>
   obtain⟨b,off,e,_⟩:=I.mem r R h hk;rw[e];exact Same.cell (hown r R h b (.inr ⟨hk,off,e⟩)).2 _
 have hgo:∀ r R,ρ r=some R→Goes w w' (Mt Z C ρ G) (Mt Z C ρ G') (C.F r):=fun r R h=>
  ⟨hsz,fun b hb=>(hown r R h b (.inl hb)).2,hst⟩
 have hgb:∀ b,G' b→b<w'.heap.size∧(∀ i,¬ Z.K b i)∧¬ Z.X b∧(Z.M b∨Z.w.heap.size≤b):=by
  intro b hb;rcases hG b hb with h | ⟨h1,h2⟩
  ·have:=I.gbnd b h;exact⟨by omega,this.2⟩
  ·refine⟨h2,fun i hk=>?_,fun hx=>?_,.inr (Nat.le_trans I.sz h1)⟩
   ·have:=I.kb b i hk;have:=I.sz;omega
   ·have:=I.xb b hx;have:=I.sz;omega
 refine⟨⟨?_,I.reg,?_,?_,hgb,I.dis,?_,I.plc,Nat.le_trans I.sz hsz,?_,?_,?_,I.xb,I.kb,by rw[hos,I.os],by rw[htape,I.tape],by rw[hout,I.output]⟩,⟨hsz,hst,?_,?_⟩⟩
 ·intro r R h
  exact(I.rep r R h).go (hgo r R h) (fun i _=>hcell r R h i) (fun _ _ x=>x)
 ·intro r R h hk
  obtain⟨b,off,e,h1,h2,h3,h4⟩:=I.mem r R h hk;have hb:=(hown r R h b (.inr ⟨hk,off,e⟩)).2
  exact⟨b,off,e,h1,by omega,fun i hi=>by rw[hb.cell,hb.frozen];exact h3 i hi,h4⟩
 ·intro r R b h hb;have:=I.bnd r R b h hb;exact⟨by omega,this.2⟩
 ·intro r R h b hb hg
  rcases hG b hg with hg | hg
  ·exact I.gdis r R h b hb hg
  ·have:=(hown r R h b hb).1;omega
 ·intro b hb hm
  refine(I.old b hb hm).trans (hs b (Nat.lt_of_lt_of_le hb I.sz) (fun hg=>?_));rcases(I.gbnd b hg).2.2.2 with h | h
  ·exact hm h
  ·omega
 ·intro b i hk
  rw[←I.kp b i hk];exact Same.cell (hs b (Nat.lt_of_lt_of_le (I.kb b i hk) I.sz) (fun hg=>(I.gbnd b hg).2.1 i hk)) _
 ·intro b i j hk
  rw[←I.kf b i j hk];exact Same.frozen (hs b (Nat.lt_of_lt_of_le (I.kb b i hk) I.sz) (fun hg=>(I.gbnd b hg).2.1 i hk)) _
 ·intro r q R b off _ h1 h2
  exact⟨R,h1,(Ybt q (I.rep r R h1) (hgo r R h1) (fun i _=>hcell r R h1 i) h2).1⟩
 ·intro r q R s _ h1 h2 o e xs h3
  obtain⟨n1,n2⟩:=Ybt q (I.rep r R h1) (hgo r R h1) (fun i _=>hcell r R h1 i) h2;exact⟨R,h1,n1,n2 o e xs h3,o,xs,h3,rfl⟩
def Yb.set (ρ:Yb) (r:Nat) (R:Option Root):Yb:=fun i=>if i=r then R else ρ i
theorem Yb.Yo (ρ:Yb) (r:Nat) (R:Option Root):ρ.set r R r=R:=by simp[Yb.set]
theorem Yb.Ym (ρ:Yb) {r i:Nat} (R:Option Root) (h:i≠r):ρ.set r R i=ρ i:=by simp[Yb.set,h]
def Cx.Ydf (C:Cx) (r:Nat) (F:Ya):Cx:=⟨C.L,fun i=>if i=r then F else C.F i⟩
def Cx.set (C:Cx) (r:Nat) (s:Src) (F:Ya):Cx:=⟨fun i=>if i=r then s else C.L i,fun i=>if i=r then F else C.F i⟩
theorem Str.new (I:Str Z Lf C G ρ w) {d:Nat} {R:Root} {s:Src} {Fn G':Ya} (hd:ρ d=none) (hp:Z.P d=none)
  (hr:Yc w (Mt Z C ρ G) Lf R.tv s Fn) (hF:Ye Fn G) (hG:Ye G' G)
  (hGF:Dis G' Fn)
  (hk:(R.k=.reg∧∃ cs,s=.reg cs 0)∨(R.k=.mem∧∃ b off,s=.mem b off∧G b∧¬ Fn b∧¬ G' b∧Room w b off R.tv.size)) :
  Str Z Lf (C.set d s Fn) G' (ρ.set d (some R)) w∧Gs w w (Mt Z C ρ G) (Mt Z (C.set d s Fn) (ρ.set d (some R)) G') ρ (ρ.set d (some R)) C.L (C.set d s Fn).L Dd.none:=by
 have hCd:(C.set d s Fn).L d=s∧(C.set d s Fn).F d=Fn:=by simp[Cx.set]
 have hCo:∀ r,r≠d→(C.set d s Fn).L r=C.L r∧(C.set d s Fn).F r=C.F r:=fun r h=>by simp[Cx.set,h]
 have hto:∀ r R',r≠d→Tot (C.set d s Fn) r R'=Tot C r R':=fun r R' h=>by unfold Tot;rw[(hCo r h).1,(hCo r h).2]
 have htd:Ye (Tot (C.set d s Fn) d R) G:=by
  rintro b (hb | ⟨hk',off,e⟩)
  ·rw[hCd.2] at hb;exact hF b hb
  ·rw[hCd.1] at e
   rcases hk with ⟨_,cs,e'⟩ | ⟨_,b',off',e',hg,_⟩
   ·rw[e] at e';cases e'
   ·rw[e] at e';cases e';exact hg
 have htd':Dis (Tot (C.set d s Fn) d R) G':=by
  rintro b (hb | ⟨hk',off,e⟩) hg'
  ·rw[hCd.2] at hb;exact hGF b hg' hb
  ·rw[hCd.1] at e
   rcases hk with ⟨_,cs,e'⟩ | ⟨_,b',off',e',hg,_,h,_⟩
   ·rw[e] at e';cases e'
   ·rw[e] at e';cases e';exact h hg'
 have hro:∀ r R',r≠d→ρ.set d (some R) r=some R'→ρ r=some R':=fun r R' h e=>by rw[Yb.Ym _ _ h] at e;exact e
 have hne:∀ r R',ρ r=some R'→r≠d:=fun r R' h e=>by rw[e,hd] at h;cases h
 have hm:Ye (Mt Z (C.set d s Fn) (ρ.set d (some R)) G') (Mt Z C ρ G):=by
  rintro b (⟨r,R',h1,h2⟩ | h | h)
  ·by_cases e:r=d
   ·subst e;rw[Yb.Yo] at h1;cases h1;exact .inr (.inl (htd b h2))
   ·rw[hto r R' e] at h2;exact .inl ⟨r,R',hro r R' e h1,h2⟩
  ·exact .inr (.inl (hG b h))
  ·exact .inr (.inr h)
 refine⟨⟨?_,?_,?_,?_,fun b h=>I.gbnd b (hG b h),?_,?_,?_,I.sz,I.old,I.kp,I.kf,I.xb,I.kb,I.os,I.tape,I.output⟩,⟨Nat.le_refl _,fun b h _=>⟨rfl,fun x=>h (hm b x)⟩,?_,?_⟩⟩
 ·intro r R' h
  by_cases e:r=d
  ·subst e;rw[Yb.Yo] at h;cases h;rw[hCd.1,hCd.2];exact hr.mono hm
  ·rw[(hCo r e).1,(hCo r e).2];exact(I.rep r R' (hro r R' e h)).mono hm
 ·intro r R' h hk'
  by_cases e:r=d
  ·subst e;rw[Yb.Yo] at h;cases h;rw[hCd.1]
   rcases hk with ⟨_,h⟩ | ⟨h,_⟩
   ·exact h
   ·rw[h] at hk';cases hk'
  ·rw[(hCo r e).1];exact I.reg r R' (hro r R' e h) hk'
 ·intro r R' h hk'
  by_cases e:r=d
  ·subst e;rw[Yb.Yo] at h;cases h;rw[hCd.1,hCd.2]
   rcases hk with ⟨h,_⟩ | ⟨_,b,off,e,hg,hf,_,hroom⟩
   ·rw[h] at hk';cases hk'
   ·obtain⟨g1,g2,g3⟩:=I.gbnd b hg
    exact⟨b,off,e,hf,g1,hroom,fun i _=>g2 _,g3⟩
  ·rw[(hCo r e).1,(hCo r e).2];exact I.mem r R' (hro r R' e h) hk'
 ·intro r R' b h hb
  by_cases e:r=d
  ·subst e;rw[hCd.2] at hb;exact I.gbnd b (hF b hb)
  ·rw[(hCo r e).2] at hb;exact I.bnd r R' b (hro r R' e h) hb
 ·intro r r' R1 R2 hrr h1 h2
  by_cases e:r=d
  ·subst e
   rw[Yb.Yo] at h1;cases h1;have e':r'≠r:=fun x=>hrr x.symm;rw[hto r' R2 e'];exact fun b x y=>I.gdis r' R2 (hro r' R2 e' h2) b y (htd b x)
  ·rw[hto r R1 e]
   by_cases e':r'=d
   ·subst e';rw[Yb.Yo] at h2;cases h2
    exact fun b x y=>I.gdis r R1 (hro r R1 e h1) b x (htd b y)
   ·rw[hto r' R2 e'];exact I.dis r r' R1 R2 hrr (hro r R1 e h1) (hro r' R2 e' h2)
 ·intro r R' h
  by_cases e:r=d
  ·subst e;rw[Yb.Yo] at h;cases h;exact htd'
  ·rw[hto r R' e];exact fun b x y=>I.gdis r R' (hro r R' e h) b x (hG b y)
 ·intro r R' h
  by_cases e:r=d
  ·subst e;rw[Yb.Yo] at h;cases h
   refine⟨(fun s' h'=>by rw[hp] at h';cases h'),fun hk' _ b off hL=>?_⟩
   rw[hCd.1] at hL;rcases hk with ⟨h,_⟩ | ⟨_,b',off',e,hg,_⟩
   ·rw[h] at hk';cases hk'
   ·rw[e] at hL;cases hL;exact(I.gbnd _ hg).2.1
  ·rw[(hCo r e).1];exact I.plc r R' (hro r R' e h)
 ·intro r q R' b off _ h1 h2
  have e:=hne r R' h1
  exact⟨R',by rw[Yb.Ym _ _ e];exact h1,by rw[(hCo r e).1];exact h2⟩
 ·intro r q R' s' _ h1 h2 o e xs h3
  have e':=hne r R' h1
  exact⟨R',by rw[Yb.Ym _ _ e'];exact h1,by rw[(hCo r e').1];exact h2,rfl,o,xs,h3,rfl⟩
def Yfn (n n':TV):Prop:=n'=n∨∃ o o' t,∃ x:t.El,n=.cl o t x∧n'=.cl o' t x
theorem Yfn.refl (n:TV):Yfn n n:=.inl rfl
theorem Yfn.trans {a b c:TV} (h:Yfn a b) (g:Yfn b c):Yfn a c:=by
 rcases h with rfl | ⟨o,o',t,x,rfl,rfl⟩
 ·exact g
 ·rcases g with rfl | ⟨p,p',u,y,e,rfl⟩
  ·exact .inr ⟨o,o',t,x,rfl,rfl⟩
  ·cases e;exact .inr ⟨o,p',t,x,rfl,rfl⟩
theorem Ycn:∀ (q:Path) {o o':Ow} {t:Ty} {x:t.El} {u:TV},(TV.cl o t x).get q=some u→∃ u',(TV.cl o' t x).get q=some u'∧Yfn u u':=by
 intro q
 induction q with
 |nil=>intro o o' t x u h;rw[TV.get_nil] at h;cases h;exact⟨_,TV.get_nil _,.inr ⟨_,_,_,_,rfl,rfl⟩⟩
 |cons a p ih=>
  intro o o' t x u h
  cases t<;>cases a<;>simp only[TV.get] at h ⊢<;>first | exact ih h | cases h
theorem Yi5 {a b u:TV} {q:Path} (h:a.get q=some u):∃ u',(Yal a b).get (.f1::q)=some u'∧Yfn u u':=by
 rcases Yz a b with eq | ⟨o1,t,x,o',y,z,p,rfl,rfl,eq,_⟩
 ·rw[eq];exact⟨u,h,.refl _⟩
 ·rw[eq];exact Ycn q h
theorem Yim {a b u:TV} {q:Path} (h:b.get q=some u):∃ u',(Yal a b).get (.f2::q)=some u'∧Yfn u u':=by
 rcases Yz a b with eq | ⟨o1,t,x,o',y,z,p,rfl,rfl,eq,_⟩
 ·rw[eq];exact⟨u,h,.refl _⟩
 ·rw[eq];exact Ycn q h
theorem Yfu {n n':TV} (h:Yfn n n') (w:World) (s:Src) (p:Path):nav w n' s p=nav w n s p:=by
 rcases h with rfl | ⟨o,o',t,x,rfl,rfl⟩
 ·rfl
 ·exact Ygn p
theorem Ywj {n n' u:TV} (h:Yfn n n') {p:Path} (hg:n.get p=some u):∃ u',n'.get p=some u'∧Yfn u u':=by
 rcases h with rfl | ⟨o,o',t,x,rfl,rfl⟩
 ·exact⟨u,hg,.refl _⟩
 ·exact Ycn p hg
theorem Y2 {w:World}:∀ (p:Path) {tv u:TV} {s s':Src} (t:Path),nav w tv s p=some s'→tv.get p=some u→nav w tv s (p++t)=nav w u s' t∧tv.get (p++t)=u.get t:=by
 intro p
 induction p with
 |nil=>intro tv u s s' t hn hg;rw[Yf] at hn;rw[TV.get_nil] at hg;cases hn;cases hg;exact⟨rfl,rfl⟩
 |cons a p ih=>
  intro tv u s s' t hn hg
  cases tv with
  |pr x y=>
   cases a with
   |f1=>simp only[nav,TV.get,List.cons_append] at *;exact ih t hn hg
   |f2=>simp only[nav,TV.get,List.cons_append] at *;exact ih t hn hg
   |el i=>simp[nav] at hn
  |cl o ty x=>
   cases ty with
   |pair c d=>
    cases a with
    |f1=>simp only[nav,TV.get,List.cons_append] at *;exact ih t hn hg
    |f2=>simp only[nav,TV.get,List.cons_append] at *;exact ih t hn hg
    |el i=>simp[nav] at hn
   |sl e=>
    cases a with
    |el i=>
     simp only[nav,TV.get,List.cons_append] at *
     split at hn
     ·rename_i hi
      split at hn
      ·rename_i b off l c hc
       rw[if_pos hi];exact ih t hn hg
      ·cases hn
     ·cases hn
    |f1=>simp[nav] at hn
    |f2=>simp[nav] at hn
   |arr n e=>
    cases a with
    |el i=>
     simp only[nav,TV.get,List.cons_append] at *
     split at hn
     ·rename_i hi
      rw[if_pos hi];exact ih t hn hg
     ·cases hn
    |f1=>simp[nav] at hn
    |f2=>simp[nav] at hn
   |_=>cases a<;>simp[nav] at hn
  |rw o e xs i v=>
   cases a with
   |f1=>simp[nav] at hn
   |f2=>simp[nav] at hn
   |el j=>
    simp only[nav,List.cons_append] at *
    split at hn
    ·rename_i hj
     split at hn
     ·rename_i b off l c hc
      rw[if_pos hj,Ycp];rw[Ycp] at hg
      by_cases hji:j=i
      ·simp only[Yh5 hji] at hn ⊢
       rw[if_pos hji] at hg ⊢;exact ih t hn hg
      ·simp only[Ylf hji] at hn ⊢
       rw[if_neg hji] at hg ⊢;exact ih t hn hg
     ·cases hn
    ·cases hn
  |_=>cases a<;>simp[nav] at hn
theorem Ylb {w:World} (p:Path) {tv u:TV} {s s':Src} (t:Path) (hn:nav w tv s p=some s') (hg:tv.get p=some u):tv.gr (p++t)=u.gr t:=by
 unfold TV.gr;rw[(Y2 p t hn hg).2]
theorem Yo9 {n n':TV} (h:Yfn n n') {p:Path} {o:Ow} {e:Ty} {xs:List e.El} (hg:n.gr p=some (.cl o (.sl e) xs)):∃ o',n'.gr p=some (.cl o' (.sl e) xs):=by
 rcases h with rfl | ⟨o1,o2,t,x,rfl,rfl⟩
 ·exact⟨o,hg⟩
 ·exact Ynh p hg
theorem Ypc {w:World} {M:Ya} {Lf:TV→Value→Prop}:∀ (p:Path) {tv:TV} {s:Src} {F:Ya} {s':Src} {n tv':TV},Yc w M Lf tv s F→nav w tv s p=some s'→tv.set p n=some tv'→
  ∃ n',tv'.get p=some n'∧Yfn n n':=by
 intro p
 induction p with
 |nil=>intro tv s F s' n tv' _ _ h;rw[TV.set_nil] at h;cases h;exact⟨n,TV.get_nil _,.refl _⟩
 |cons a p ih=>
  intro tv s F s' n tv' hr hn hs
  cases tv with
  |pr x y=>
   obtain⟨F1,F2,h1,h2,_⟩:=hr
   cases a with
   |f1=>
    simp only[nav] at hn;simp only[TV.set] at hs
    split at hs
    ·rename_i a' ha;cases hs
     obtain⟨n',g1,g2⟩:=ih h1 hn ha;obtain⟨u',q1,q2⟩:=Yi5 (b:=y) g1;exact⟨u',q1,g2.trans q2⟩
    ·cases hs
   |f2=>
    simp only[nav] at hn;simp only[TV.set] at hs
    split at hs
    ·rename_i a' ha;cases hs
     obtain⟨n',g1,g2⟩:=ih h2 hn ha;obtain⟨u',q1,q2⟩:=Yim (a:=x) g1;exact⟨u',q1,g2.trans q2⟩
    ·cases hs
   |el i=>simp[nav] at hn
  |cl o ty x=>
   cases ty with
   |pair c d=>
    obtain⟨F1,F2,h1,h2,_⟩:=hr
    cases a with
    |f1=>
     simp only[nav] at hn;simp only[TV.set] at hs
     split at hs
     ·rename_i a' ha;cases hs
      obtain⟨n',g1,g2⟩:=ih (tv:=.cl o c x.1) h1 hn ha;obtain⟨u',q1,q2⟩:=Yi5 (b:=.cl o d x.2) g1;exact⟨u',q1,g2.trans q2⟩
     ·cases hs
    |f2=>
     simp only[nav] at hn;simp only[TV.set] at hs
     split at hs
     ·rename_i a' ha;cases hs
      obtain⟨n',g1,g2⟩:=ih (tv:=.cl o d x.2) h2 hn ha;obtain⟨u',q1,q2⟩:=Yim (a:=.cl o c x.1) g1;exact⟨u',q1,g2.trans q2⟩
     ·cases hs
    |el i=>simp[nav] at hn
   |sl e=>
    cases a with
    |el i=>
     simp only[nav] at hn
     split at hn
     ·rename_i hi
      split at hn
      ·rename_i b off l c hc
       obtain⟨G',g1,g2,g3⟩:=Rep.elem hr hi hc;have hgd:x.getD i e.zero=x[i]'hi:=Yn _ _ _ hi
       have key:∀ tve y,(TV.cl o.elem e (x.getD i e.zero)).set p n=some tve→tve.Yiy o.elem e=some y→tv'=.cl o (.sl e) (x.set i y)→∃ n',tv'.get (.el i::p)=some n'∧Yfn n n':=by
        intro tve y h1 h2 e3;subst e3;rw[hgd] at h1 hn;obtain⟨n',q1,q2⟩:=ih (tv:=.cl o.elem e (x[i]'hi)) g2 hn h1;obtain⟨o',z,rfl,rfl⟩:=Yau h2;obtain⟨u',r1,r2⟩:=Ycn (o':=o.elem) p q1;refine⟨u',?_,q2.trans r2⟩;simp only[TV.get]
        rw[Yn _ _ _ (by simpa using hi)]
        simpa using r1
       obtain⟨_,tve,h1,h2⟩:=Yi3 hs;rcases Yaj h2 with ⟨y,h2',rfl⟩ | ⟨_,_,rfl⟩
       ·exact key tve y h1 h2' rfl
       ·rw[hgd] at h1 hn
        obtain⟨n',q1,q2⟩:=ih (tv:=.cl o.elem e (x[i]'hi)) g2 hn h1
        exact⟨n',by rw[Ycp,if_pos rfl];exact q1,q2⟩
      ·cases hn
     ·cases hn
    |f1=>simp[nav] at hn
    |f2=>simp[nav] at hn
   |arr m e=>
    cases a with
    |el i=>
     obtain⟨hlen,Fs,h2,h3⟩:=hr;simp only[nav] at hn
     split at hn
     ·rename_i hi
      have hi':i<x.length:=by omega
      have hgd:x.getD i e.zero=x[i]'hi':=Yn _ _ _ hi';simp only[TV.set] at hs
      split at hs
      ·rename_i tve h1
       split at hs
       ·rename_i y h4;cases hs
        rw[hgd] at h1 hn;obtain⟨n',q1,q2⟩:=ih (tv:=.cl o e (x[i]'hi')) (h2 i hi').1 hn h1;obtain⟨o',z,rfl,rfl⟩:=Yau h4;obtain⟨u',r1,r2⟩:=Ycn (o':=o) p q1;refine⟨u',?_,q2.trans r2⟩;simp only[TV.get]
        rw[Yn _ _ _ (by simpa using hi')]
        simpa using r1
       ·cases hs
      ·cases hs
     ·cases hn
    |f1=>simp[nav] at hn
    |f2=>simp[nav] at hn
   |_=>cases a<;>simp[nav] at hn
  |rw o e xs i v=>
   cases a with
   |f1=>simp[nav] at hn
   |f2=>simp[nav] at hn
   |el j=>
    obtain⟨_,rfl,tve,h1,h2⟩:=Yjq hs;obtain⟨_,_,_,b,off,c,h4,_,Fs,_,_,h8,_,h10⟩:=hr;obtain⟨hj,hn⟩:=Ye8 h4 hn;rw[if_pos rfl] at hn;obtain⟨n',q1,q2⟩:=ih (h10.up) hn h1;rcases Yaj h2 with ⟨y,h2',rfl⟩ | ⟨_,_,rfl⟩
    ·obtain⟨o',z,rfl,rfl⟩:=Yau h2'
     obtain⟨u',r1,r2⟩:=Ycn (o':=o.elem) p q1;refine⟨u',?_,q2.trans r2⟩;simp only[TV.get]
     rw[Yn _ _ _ (by simpa using hj)]
     simpa using r1
    ·exact⟨n',by rw[Ycp,if_pos rfl];exact q1,q2⟩
  |_=>cases a<;>simp[nav] at hn
def Wr (w w':World) (s':Src) (n:Nat):Prop:=w'.heap.size=w.heap.size∧∀ b,Kp w w' s' n b
theorem Str.put (I:Str Z Lf C G ρ w) {r:Nat} {R:Root} {p:Path} {s':Src} {old:TV} (hR:ρ r=some R) (hn:nav w R.tv (C.L r) p=some s') (hg:R.tv.get p=some old)
  {n tv':TV} (hset:R.tv.set p n=some tv') (hlay:n.lay=old.lay) :
  ∃ Fo Fr,Ye Fo (C.F r)∧Ye Fr (C.F r)∧Dis Fo Fr∧Yc w (Mt Z C ρ G) Lf old s' Fo∧Yjt (C.L r) s' old.size R.tv.size Fr∧tv'.lay=R.tv.lay∧
   ∀ w' Fn G' (D:Dd),Wr w w' s' old.size→
    Yc w' (Mt Z C ρ G) Lf n s' Fn→Ye Fn (fun b=>G b∨Fo b)→
    (∀ b,G' b→(G b∨Fo b)∧¬ Fn b)→w'.os=w.os→w'.tape=w.tape→w'.output=w.output→
    (∀ t b off,¬ D.l r (p++t)→nav w old s' t=some (.mem b off)→nav w' n s' t=some (.mem b off))→
    (∀ t s1,¬ D.s r (p++t)→nav w old s' t=some s1→∀ o e,∀ xs:List e.El,old.gr t=some (.cl o (.sl e) xs)→
     nav w' n s' t=some s1∧s1.cell w' 0=s1.cell w 0∧∃ o',∃ xs':List e.El,n.gr t=some (.cl o' (.sl e) xs')∧xs'.length=xs.length)→
    Str Z Lf (C.Ydf r (fun b=>Fr b∨Fn b)) G' (ρ.set r (some ⟨R.k,tv'⟩)) w'∧
    Gs w w' (Mt Z C ρ G) (Mt Z (C.Ydf r (fun b=>Fr b∨Fn b)) (ρ.set r (some ⟨R.k,tv'⟩)) G') ρ (ρ.set r (some ⟨R.k,tv'⟩)) C.L C.L D:=by
 have hs:∀ bs offs,C.L r=.mem bs offs→R.k=.mem∧¬ C.F r bs:=by
  intro bs offs e
  cases hk:R.k with
  |reg=>obtain⟨cs,e'⟩:=I.reg r R hR hk;rw[e] at e';cases e'
  |mem=>obtain⟨b,off,e',h,_⟩:=I.mem r R hR hk;rw[e] at e';cases e';exact⟨rfl,h⟩
 obtain⟨Fo,Fr,b1,b2,d1,ro,hl,hly,hc⟩:=upd p (I.rep r R hR) (fun bs offs e=>(hs bs offs e).2) hn hg hset hlay;refine⟨Fo,Fr,b1,b2,d1,ro,hl,hly,fun w' Fn G' D hw hrn hFn hG' hos htape hout hdl hds=>?_⟩
 have hblk:∀ b0 off0,s'=.mem b0 off0→Tot C r R b0:=by
  intro b0 off0 e;rcases hl with ⟨k,e',_⟩ | ⟨b1,o1,e',hf⟩
  ·rw[e] at e';obtain⟨o,e1,_⟩:=Src.Yar e'.symm
   exact .inr ⟨(hs _ _ e1).1,o,e1⟩
  ·rw[e] at e';cases e';exact .inl (b2 _ hf)
 have hsame:∀ b,¬ Tot C r R b→Same w w' b:=by
  intro b hb
  cases e:s' with
  |reg cs o=>have:=hw.2 b;rw[e] at this;exact this
  |mem b0 off0=>
   have:=hw.2 b;rw[e] at this;refine this.same ?_;rintro rfl;exact hb (hblk _ _ e)
 have hM0:Ye (Tot C r R) (Mt Z C ρ G):=fun b h=>.inl ⟨r,R,hR,h⟩;generalize hC':C.Ydf r (fun b=>Fr b∨Fn b)=C';generalize hρ':ρ.set r (some ⟨R.k,tv'⟩)=ρ'
 have cL:C'.L=C.L:=by rw[←hC'];rfl
 have cFr:C'.F r=fun b=>Fr b∨Fn b:=by rw[←hC'];simp[Cx.Ydf]
 have cFo:∀ i,i≠r→C'.F i=C.F i:=fun i h=>by rw[←hC'];simp[Cx.Ydf,h]
 have rr:ρ' r=some ⟨R.k,tv'⟩:=by rw[←hρ',Yb.Yo]
 have ro':∀ i,i≠r→ρ' i=ρ i:=fun i h=>by rw[←hρ',Yb.Ym _ _ h]
 have tot:∀ i,i≠r→∀ R',Tot C' i R'=Tot C i R':=fun i h R'=>by unfold Tot;rw[cFo i h,cL]
 have totr:∀ b,Tot C' r ⟨R.k,tv'⟩ b→Tot C r R b∨G b:=by
  rintro b (h | h)
  ·rw[cFr] at h
   rcases h with h | h
   ·exact .inl (.inl (b2 b h))
   ·rcases hFn b h with h | h
    ·exact .inr h
    ·exact .inl (.inl (b1 b h))
  ·rw[cL] at h;exact .inl (.inr h)
 have hm:Ye (Mt Z C' ρ' G') (Mt Z C ρ G):=by
  rintro b (⟨i,R',h1,h2⟩ | h | h)
  ·by_cases e:i=r
   ·subst e;rw[rr] at h1;cases h1
    rcases totr b h2 with h | h
    ·exact hM0 b h
    ·exact .inr (.inl h)
   ·rw[ro' i e] at h1;rw[tot i e] at h2;exact .inl ⟨i,R',h1,h2⟩
  ·rcases(hG' b h).1 with h | h
   ·exact .inr (.inl h)
   ·exact hM0 b (.inl (b1 b h))
  ·exact .inr (.inr h)
 have hst:∀ b,¬ Mt Z C ρ G b→b<w.heap.size→Same w w' b∧¬ Mt Z C' ρ' G' b:=fun b h _=>⟨hsame b (fun x=>h (hM0 b x)),fun x=>h (hm b x)⟩
 have hgo:∀ F,Dis (Tot C r R) F→Goes w w' (Mt Z C ρ G) (Mt Z C' ρ' G') F:=fun F hd=>⟨by rw[hw.1];exact Nat.le_refl _,fun b hb=>hsame b (fun x=>hd b x hb),hst⟩
 have hcellO:∀ i R',i≠r→ρ i=some R'→∀ j,(C.L i).cell w' j=(C.L i).cell w j:=by
  intro i R' hi h j
  cases hk:R'.k with
  |reg=>obtain⟨cs,e⟩:=I.reg i R' h hk;rw[e];rfl
  |mem=>
   obtain⟨b,off,e,_⟩:=I.mem i R' h hk;rw[e];exact Same.cell (hsame b (fun x=>I.dis r i R R' (fun y=>hi y.symm) hR h b x (.inr ⟨hk,off,e⟩))) _
 have hu:Ygk w w' (Mt Z C ρ G) (Mt Z C' ρ' G') (C.L r) s' old.size Fr:=⟨by rw[hw.1];exact Nat.le_refl _,fun b _=>hw.2 b,fun bs _ _=>hw.2 bs,hst⟩
 have hFnFr:Dis Fn Fr:=by
  intro b h1 h2;rcases hFn b h1 with h | h
  ·exact I.gdis r R hR b (.inl (b2 b h2)) h
  ·exact d1 b h h2
 have hFnL:∀ bs offs,C.L r=.mem bs offs→¬ Fn bs:=by
  intro bs offs e h;rcases hFn bs h with h | h
  ·exact I.gdis r R hR bs (.inr ⟨(hs _ _ e).1,offs,e⟩) h
  ·exact(hs _ _ e).2 (b1 _ h)
 obtain⟨u1,u2,u3⟩:=hc w' (Mt Z C' ρ' G') Lf Fn hu (hrn.mono hm) hFnFr hFnL (fun _ _ x=>x);obtain⟨n',hg',hoe⟩:=Ypc p (I.rep r R hR) hn hset;have hGb:∀ b,G b∨Fo b→b<w.heap.size∧(∀ i,¬ Z.K b i)∧¬ Z.X b∧(Z.M b∨Z.w.heap.size≤b):=fun b h=>h.elim (I.gbnd b) (fun h=>I.bnd r R b hR (b1 b h))
 have htotb:∀ b,Tot C r R b→Z.M b∨Z.w.heap.size≤b:=by
  rintro b (h | ⟨hk,off,e⟩)
  ·exact(I.bnd r R b hR h).2.2.2
  ·obtain⟨b',off',e',_,_,_,_,_,h⟩:=I.mem r R hR hk
   rw[e] at e';cases e';exact h
 refine⟨⟨?_,?_,?_,?_,?_,?_,?_,?_,by rw[hw.1];exact I.sz,?_,?_,?_,I.xb,I.kb,by rw[hos,I.os],by rw[htape,I.tape],by rw[hout,I.output]⟩,⟨by rw[hw.1];exact Nat.le_refl _,hst,?_,?_⟩⟩
 ·intro i R' h
  by_cases e:i=r
  ·subst e;rw[rr] at h;cases h;rw[cFr,cL];exact u1
  ·rw[ro' i e] at h;rw[cFo i e,cL]
   exact(I.rep i R' h).go (hgo _ (fun b x y=>I.dis r i R R' (fun z=>e z.symm) hR h b x (.inl y))) (fun j _=>hcellO i R' e h j) (fun _ _ x=>x)
 ·intro i R' h hk
  rw[cL]
  by_cases e:i=r
  ·subst e;rw[rr] at h;cases h;exact I.reg i R hR hk
  ·rw[ro' i e] at h;exact I.reg i R' h hk
 ·intro i R' h hk
  rw[cL]
  by_cases e:i=r
  ·subst e;rw[rr] at h;cases h
   obtain⟨b,off,e,h1,h2,h3,h4,h5⟩:=I.mem i R hR hk;have hsz:tv'.size=R.tv.size:=TV.Yak hly
   refine⟨b,off,e,?_,by rw[hw.1];exact h2,?_,fun j hj=>h4 j (by simpa [hsz] using hj),h5⟩
   ·rw[cFr];rintro(x | x)
    ·exact h1 (b2 _ x)
    ·exact hFnL b off e x
   ·simp only[hsz];exact(hw.2 b).room h3
  ·rw[ro' i e] at h
   obtain⟨b,off,e',h1,h2,h3,h4⟩:=I.mem i R' h hk;have hb:=hsame b (fun x=>I.dis r i R R' (fun z=>e z.symm) hR h b x (.inr ⟨hk,off,e'⟩))
   exact⟨b,off,e',by rw[cFo i e];exact h1,by rw[hw.1];exact h2,fun j hj=>by rw[hb.cell,hb.frozen];exact h3 j hj,h4⟩
 ·intro i R' b h hb
  rw[hw.1]
  by_cases e:i=r
  ·subst e;rw[cFr] at hb
   rcases hb with hb | hb
   ·exact I.bnd i R b hR (b2 b hb)
   ·exact hGb b (hFn b hb)
  ·rw[ro' i e] at h;rw[cFo i e] at hb;exact I.bnd i R' b h hb
 ·intro b hb;rw[hw.1];exact hGb b (hG' b hb).1
 ·intro i j R1 R2 hne h1 h2
  have one:∀ j R2,j≠r→ρ j=some R2→Dis (Tot C' r ⟨R.k,tv'⟩) (Tot C j R2):=by
   intro j R2 hj h b x y;rcases totr b x with x | x
   ·exact I.dis r j R R2 (fun z=>hj z.symm) hR h b x y
   ·exact I.gdis j R2 h b y x
  by_cases e:i=r
  ·subst e;rw[rr] at h1;cases h1
   have hj:j≠i:=fun z=>hne z.symm;rw[ro' j hj] at h2;rw[tot j hj];exact one j R2 hj h2
  ·rw[ro' i e] at h1;rw[tot i e]
   by_cases e':j=r
   ·subst e';rw[rr] at h2;cases h2;exact(one i R1 e h1).symm
   ·rw[ro' j e'] at h2;rw[tot j e'];exact I.dis i j R1 R2 hne h1 h2
 ·intro i R' h b x y
  obtain⟨y1,y2⟩:=hG' b y
  by_cases e:i=r
  ·subst e;rw[rr] at h;cases h
   rcases x with x | ⟨hk,off,x⟩
   ·rw[cFr] at x
    rcases x with x | x
    ·rcases y1 with y1 | y1
     ·exact I.gdis i R hR b (.inl (b2 b x)) y1
     ·exact d1 b y1 x
    ·exact y2 x
   ·rw[cL] at x
    rcases y1 with y1 | y1
    ·exact I.gdis i R hR b (.inr ⟨hk,off,x⟩) y1
    ·exact(hs _ _ x).2 (b1 _ y1)
  ·rw[ro' i e] at h;rw[tot i e] at x
   rcases y1 with y1 | y1
   ·exact I.gdis i R' h b x y1
   ·exact I.dis r i R R' (fun z=>e z.symm) hR h b (.inl (b1 b y1)) x
 ·intro i R' h
  rw[cL]
  by_cases e:i=r
  ·subst e;rw[rr] at h;cases h;exact I.plc i R hR
  ·rw[ro' i e] at h;exact I.plc i R' h
 ·intro b hb hm'
  refine(I.old b hb hm').trans (hsame b (fun x=>?_));rcases htotb b x with h | h
  ·exact hm' h
  ·omega
 ·intro b i hk
  rw[←I.kp b i hk]
  cases e:s' with
  |reg cs o=>have:=hw.2 b;rw[e] at this;exact Same.cell this _
  |mem b0 off0=>
   have hkp:=hw.2 b;rw[e] at hkp
   by_cases hb:b=b0
   ·subst hb
    refine hkp.out ?_;rcases hl with ⟨k,e',hkn⟩ | ⟨b1',o1,e',hf⟩
    ·rw[e] at e';obtain⟨o,e1,e2⟩:=Src.Yar e'.symm
     obtain⟨b',off',e3,_,_,_,h4,_⟩:=I.mem r R hR (hs _ _ e1).1;rw[e1] at e3;cases e3;rcases Nat.lt_or_ge i off0 with h | h
     ·exact .inl h
     ·rcases Nat.lt_or_ge i (off0+old.size) with h' | h'
      ·exact absurd hk (by rw[show i=o+(i-o) by omega];exact h4 (i-o) (by omega))
      ·exact .inr h'
    ·rw[e] at e';cases e';exact absurd hk ((I.bnd r R _ hR (b2 _ hf)).2.1 i)
   ·exact Same.cell (hkp.same hb) _
 ·intro b i j hk
  rw[←I.kf b i j hk];have hkp:=hw.2 b
  cases e:s' with
  |reg cs o=>rw[e] at hkp;exact Same.frozen hkp _
  |mem b0 off0=>
   rw[e] at hkp
   by_cases hb:b=b0
   ·subst hb;simp only[Kp,if_true] at hkp;exact hkp.2.1 j
   ·exact Same.frozen (hkp.same hb) _
 ·intro i q R' b off hd h1 h2
  by_cases e:i=r
  ·subst e;rw[hR] at h1;cases h1
   refine⟨_,rr,?_⟩
   by_cases hq:∃ t,q=p++t
   ·obtain⟨t,rfl⟩:=hq
    rw[(Y2 p t u2 hg').1,Yfu hoe];rw[(Y2 p t hn hg).1] at h2;exact hdl t b off hd h2
   ·exact(u3 q _ h2 hq).1
  ·refine⟨R',by rw[ro' i e];exact h1,?_⟩
   exact(Ybt q (I.rep i R' h1) (hgo _ (fun b x y=>I.dis r i R R' (fun z=>e z.symm) hR h1 b x (.inl y))) (fun j _=>hcellO i R' e h1 j) h2).1
 ·intro i q R' s1 hd h1 h2 o ty xs h3
  by_cases e:i=r
  ·subst e;rw[hR] at h1;cases h1
   refine⟨_,rr,?_⟩
   by_cases hq:∃ t,q=p++t
   ·obtain⟨t,rfl⟩:=hq
    rw[(Y2 p t u2 hg').1,Ylb p t u2 hg',Yfu hoe];rw[(Y2 p t hn hg).1] at h2;rw[Ylb p t hn hg] at h3;obtain⟨k1,k2,o',xs',k3,k4⟩:=hds t s1 hd h2 o ty xs h3;obtain⟨o2,k5⟩:=Yo9 hoe k3;exact⟨k1,k2,o2,xs',k5,k4⟩
   ·obtain⟨k1,k2⟩:=u3 q _ h2 hq
    obtain⟨k3,o',xs',k4,k5⟩:=k2 o ty xs h3;exact⟨k1,k3,o',xs',k4,k5⟩
  ·refine⟨R',by rw[ro' i e];exact h1,?_⟩
   obtain⟨n1,n2⟩:=Ybt q (I.rep i R' h1) (hgo _ (fun b x y=>I.dis r i R R' (fun z=>e z.symm) hR h1 b x (.inl y))) (fun j _=>hcellO i R' e h1 j) h2;exact⟨n1,n2 o ty xs h3,o,xs,h3,rfl⟩
end Mf
namespace Mf
open Go
set_option linter.unusedVariables false
def Yd1 (w:World) (M:Ya) (L:Nat→Src) (ρ:Yb):TV→Value→Prop
 |.nl,u=>∃ A,u=.slice A 0 0
 |.loc r p,u=>∃ R b off,ρ r=some R∧nav w R.tv (L r) p=some (.mem b off)∧u=.pointer (some ⟨b,off,none⟩)
 |.seg r p,u=>∃ R s o e,∃ xs:List e.El,ρ r=some R∧nav w R.tv (L r) p=some s∧R.tv.gr p=some (.cl o (.sl e) xs)∧s.cell w 0=some u∧∃ A n c,u=.slice A n c
 |.sub r p lo n,u=>∃ R s o e,∃ xs:List e.El,∃ A len c A' c',ρ r=some R∧nav w R.tv (L r) p=some s∧R.tv.gr p=some (.cl o (.sl e) xs)∧
   s.cell w 0=some (.slice A len c)∧u=.slice A' n c'∧lo+n≤xs.length∧n≤c'∧lo+c'≤c∧(c'≠0→A'=A.map (fun ad=>ad.add (lo*e.size)))
 |.pt t x,u=>∃ b off,u=.pointer (some ⟨b,off,none⟩)∧¬ M b∧b<w.heap.size∧Rep w M t .sh x (.mem b off) noB
 |_,_=>False
def Ycw (w:World) (M:Ya) (L:Nat→Src) (ρ:Yb):TV→List Value→Prop
 |.pr a b,v::vs=>Yd1 w M L ρ a v∧Ycw w M L ρ b vs
 |.cl _ .unit _,[]=>True
 |_,_=>False
def Yi (w:World) (M:Ya) (L:Nat→Src) (ρ:Yb):TV→Value→Prop
 |.clo f c,u=>∃ caps:Array Value,u=.func (.func f) #[] caps∧Ycw w M L ρ c caps.toList
 |v,u=>Yd1 w M L ρ v u
def TV.isAgg:TV→Bool
 |.cl _ t _=>t.isAgg
 |.pr _ _=>true
 |_=>false
def Yd (w:World) (M:Ya) (L:Nat→Src) (ρ:Yb) (v:TV) (u:Value):Prop:=
 Yc w M (Yi w M L ρ) v (.reg u.cells.toList 0) noB∧u.cells.size=v.size∧(v.isAgg=true↔∃ cs,u=.agg cs)
def Ygl (w:World) (M:Ya) (L:Nat→Src) (ρ:Yb):TV→List Value→Prop
 |.pr a b,v::vs=>(a=.dead a.size∨Yd w M L ρ a v)∧Ygl w M L ρ b vs
 |.cl _ .unit _,[]=>True
 |_,_=>False
def Ygj (w:World) (M:Ya) (L:Nat→Src) (ρ:Yb) (a:Act):TV→Value→Prop
 |.tup l,u=>∃ vs:Array Value,u=.tuple vs∧Ygl w M L ρ l vs.toList
 |.gd t b v,u=>(a.tmps.getD t undef=.bool b→v=.dead 1∨Yd w M L ρ v u)∧(a.tmps.getD t undef≠.bool b→u=undef)
 |.kb b,u=>u=.bool b
 |.dead _,_=>True
 |v,u=>Yd w M L ρ v u
def Y3 (D:Dd):TV→Prop
 |.pr a b=>Y3 D a∧Y3 D b
 |.loc r q=>¬ D.l r q
 |.seg r q=>¬ D.s r q
 |.sub r q _ _=>¬ D.s r q
 |.clo _ c=>Y3 D c
 |_=>True
def Kd (P:TV→Prop):TV→TV→Prop
 |.pr a b,v'=>∃ a' b',v'=.pr a' b'∧Kd P a a'∧Kd P b b'
 |.tup l,v'=>∃ l',v'=.tup l'∧Kd P l l'
 |.gd t w v,v'=>∃ u,v'=.gd t w u∧Kd P v u
 |.cl o t x,v'=>v'=.cl o t x
 |.dead n,v'=>v'=.dead n
 |.kb b,v'=>v'=.kb b
 |.op v,v'=>v'=.op v
 |.rw o e xs i v,v'=>v'=.rw o e xs i v
 |v,v'=>(v'=v∧P v)∨v'=.dead 1
theorem Kd.size {P:TV→Prop}:∀ {v v':TV},Kd P v v'→v'.size=v.size:=by
 intro v
 induction v with
 |pr a b iha ihb=>rintro v' ⟨a',b',rfl,h1,h2⟩;simp[TV.size,iha h1,ihb h2]
 |tup l ih=>rintro v' ⟨l',rfl,h⟩;rfl
 |gd t w v ih=>rintro v' ⟨u,rfl,h⟩;rfl
 |cl o t x=>intro v' h;rw[show v'=_ from h]
 |dead n=>intro v' h;rw[show v'=_ from h]
 |kb b=>intro v' h;rw[show v'=_ from h]
 |op v=>intro v' h;rw[show v'=_ from h]
 |rw o e xs i v=>intro v' h;rw[show v'=_ from h]
 |_=>rintro v' (⟨rfl,_⟩ | rfl)<;>rfl
theorem Kd.trans {P Q:TV→Prop}:∀ {v v' v'':TV},Kd P v v'→Kd Q v' v''→Kd (fun x=>P x∧Q x) v v'':=by
 intro v
 induction v with
 |pr a b iha ihb=>rintro v' v'' ⟨a',b',rfl,h1,h2⟩ ⟨a'',b'',rfl,g1,g2⟩;exact⟨_,_,rfl,iha h1 g1,ihb h2 g2⟩
 |tup l ih=>rintro v' v'' ⟨l',rfl,h⟩ ⟨l'',rfl,g⟩;exact⟨_,rfl,ih h g⟩
 |gd t w v ih=>rintro v' v'' ⟨l',rfl,h⟩ ⟨l'',rfl,g⟩;exact⟨_,rfl,ih h g⟩
 |cl o t x=>intro v' v'' h g;cases (show v'=_ from h);exact g
 |dead n=>intro v' v'' h g;cases (show v'=_ from h);exact g
 |kb n=>intro v' v'' h g;cases (show v'=_ from h);exact g
 |op n=>intro v' v'' h g;cases (show v'=_ from h);exact g
 |rw o e xs i v=>intro v' v'' h g;cases (show v'=_ from h);exact g
 |_=>
  rintro v' v'' (⟨rfl,h⟩ | rfl) g
  ·rcases g with ⟨rfl,g⟩ | rfl
   ·exact .inl ⟨rfl,h,g⟩
   ·exact .inr rfl
  ·exact .inr g
theorem Kd.mono {P Q:TV→Prop} (hpq:∀ v,P v→Q v):∀ {v v':TV},Kd P v v'→Kd Q v v':=by
 intro v
 induction v with
 |pr a b iha ihb=>rintro v' ⟨a',b',rfl,h1,h2⟩;exact⟨_,_,rfl,iha h1,ihb h2⟩
 |tup l ih=>rintro v' ⟨l',rfl,h⟩;exact⟨_,rfl,ih h⟩
 |gd t w v ih=>rintro v' ⟨l',rfl,h⟩;exact⟨_,rfl,ih h⟩
 |cl o t x=>intro v' h;exact h
 |dead n=>intro v' h;exact h
 |kb n=>intro v' h;exact h
 |op n=>intro v' h;exact h
 |rw o e xs i v=>intro v' h;exact h
 |_=>
  rintro v' (⟨rfl,h⟩ | rfl)
  ·exact .inl ⟨rfl,hpq _ h⟩
  ·exact .inr rfl
theorem Kd.refl {P:TV→Prop} (hp:∀ v,P v):∀ (v:TV),Kd P v v:=by
 intro v
 induction v with
 |pr a b iha ihb=>exact⟨_,_,rfl,iha,ihb⟩
 |tup l ih=>exact⟨_,rfl,ih⟩
 |gd t w v ih=>exact⟨_,rfl,ih⟩
 |cl o t x=>rfl
 |dead n=>rfl
 |kb n=>rfl
 |op n=>rfl
 |rw o e xs i v=>rfl
 |_=>exact .inl ⟨rfl,hp _⟩
def dd1 (r:Nat) (p:Option Path):Dd:=
 ⟨fun r' q=>r=r'∧(match p with | some p=>Path.far p q | none=>true)=true,fun r' q=>r=r'∧(match p with | some p=>Path.pre p q | none=>true)=true⟩
theorem Ye1 {a b:Nat} {c:Bool}:(Nat.beq a b&&c)=true↔(a=b∧c=true):=by simp[Nat.beq_eq]
theorem Yqf (r:Nat) (p:Option Path):∀ (v:TV),(v.kill r p).live=true→Y3 (dd1 r p) v:=by
 intro v
 induction v with
 |pr a b iha ihb=>intro h;simp only[TV.kill,TV.live,Bool.and_eq_true] at h;exact⟨iha h.1,ihb h.2⟩
 |loc r' q=>
  intro h;simp only[TV.kill] at h
  split at h
  ·simp[TV.live] at h
  ·rename_i hh;rintro⟨e1,e2⟩;exact Bool.noConfusion (hh.symm.trans (Ye1.2 ⟨e1,e2⟩))
 |seg r' q=>
  intro h;simp only[TV.kill] at h
  split at h
  ·simp[TV.live] at h
  ·rename_i hh;rintro⟨e1,e2⟩;exact Bool.noConfusion (hh.symm.trans (Ye1.2 ⟨e1,e2⟩))
 |sub r' q lo n=>
  intro h;simp only[TV.kill] at h
  split at h
  ·simp[TV.live] at h
  ·rename_i hh;rintro⟨e1,e2⟩;exact Bool.noConfusion (hh.symm.trans (Ye1.2 ⟨e1,e2⟩))
 |clo f c ih=>
  intro h;simp only[TV.kill] at h
  split at h
  ·rename_i hh;exact ih hh
  ·simp[TV.live] at h
 |_=>intro h;trivial
theorem Yte (r:Nat) (p:Option Path):∀ (v:TV),Kd (Y3 (dd1 r p)) v (v.kill r p):=by
 intro v
 induction v with
 |pr a b iha ihb=>exact⟨_,_,rfl,iha,ihb⟩
 |tup l ih=>exact⟨_,rfl,ih⟩
 |gd t w v ih=>exact⟨_,rfl,ih⟩
 |loc r' q=>
  simp only[TV.kill]
  split
  ·exact .inr rfl
  ·rename_i hh;exact .inl ⟨rfl,fun⟨e1,e2⟩=>Bool.noConfusion (hh.symm.trans (Ye1.2 ⟨e1,e2⟩))⟩
 |seg r' q=>
  simp only[TV.kill]
  split
  ·exact .inr rfl
  ·rename_i hh;exact .inl ⟨rfl,fun⟨e1,e2⟩=>Bool.noConfusion (hh.symm.trans (Ye1.2 ⟨e1,e2⟩))⟩
 |sub r' q lo n=>
  simp only[TV.kill]
  split
  ·exact .inr rfl
  ·rename_i hh;exact .inl ⟨rfl,fun⟨e1,e2⟩=>Bool.noConfusion (hh.symm.trans (Ye1.2 ⟨e1,e2⟩))⟩
 |clo f c ih=>
  simp only[TV.kill]
  split
  ·rename_i hh;exact .inl ⟨rfl,Yqf r p c hh⟩
  ·exact .inr rfl
 |cl o t x=>rfl
 |dead n=>rfl
 |kb n=>rfl
 |op n=>rfl
 |rw o e xs i v=>rfl
 |nl=>exact .inl ⟨rfl,trivial⟩
 |pt t x=>exact .inl ⟨rfl,trivial⟩
def ddK (ks:Ks):Dd:=⟨fun r q=>∃ k∈ks,(dd1 k.1 k.2).l r q,fun r q=>∃ k∈ks,(dd1 k.1 k.2).s r q⟩
theorem Y3.mono {D D':Dd} (hl:∀ r q,D'.l r q→D.l r q) (hs:∀ r q,D'.s r q→D.s r q):∀ v:TV,Y3 D v→Y3 D' v:=by
 intro v
 induction v with
 |pr a b iha ihb=>exact fun h=>⟨iha h.1,ihb h.2⟩
 |loc r q=>exact fun h x=>h (hl _ _ x)
 |seg r q=>exact fun h x=>h (hs _ _ x)
 |sub r q lo n=>exact fun h x=>h (hs _ _ x)
 |clo f c ih=>exact ih
 |_=>exact fun _=>trivial
theorem Y3.cons {k:Nat×Option Path} {ks:Ks}:∀ v:TV,Y3 (dd1 k.1 k.2) v→Y3 (ddK ks) v→Y3 (ddK (k::ks)) v:=by
 intro v
 induction v with
 |pr a b iha ihb=>exact fun h g=>⟨iha h.1 g.1,ihb h.2 g.2⟩
 |loc r q=>rintro h g ⟨k',hk,e⟩;cases hk with | head=>exact h e | tail _ hk=>exact g ⟨k',hk,e⟩
 |seg r q=>rintro h g ⟨k',hk,e⟩;cases hk with | head=>exact h e | tail _ hk=>exact g ⟨k',hk,e⟩
 |sub r q lo n=>rintro h g ⟨k',hk,e⟩;cases hk with | head=>exact h e | tail _ hk=>exact g ⟨k',hk,e⟩
 |clo f c ih=>exact ih
 |_=>exact fun _ _=>trivial
theorem Y3.none:∀ v:TV,Y3 (ddK []) v:=by
 intro v
 induction v with
 |pr a b iha ihb=>exact⟨iha,ihb⟩
 |loc r q=>rintro⟨k,hk,_⟩;cases hk
 |seg r q=>rintro⟨k,hk,_⟩;cases hk
 |sub r q lo n=>rintro⟨k,hk,_⟩;cases hk
 |clo f c ih=>exact ih
 |_=>trivial
theorem Ya1:∀ (ks:Ks) (v:TV),Kd (Y3 (ddK ks)) v (Yt ks v)
 |[],v=>Kd.refl Y3.none v
 |k::ks,v=>by
  simp only[Yt];exact(Kd.trans (Yte k.1 k.2 v) (Ya1 ks _)).mono (fun x h=>Y3.cons x h.1 h.2)
theorem Kd.nav {P:TV→Prop} (w:World):∀ (p:Path) {v v':TV} {s s':Src},Kd P v v'→nav w v s p=some s'→nav w v' s p=some s':=by
 intro p
 induction p with
 |nil=>intro v v' s s' _ h;rw[Yf] at h ⊢;exact h
 |cons a p ih=>
  intro v v' s s' hk h
  cases v with
  |pr x y=>
   obtain⟨a',b',rfl,h1,h2⟩:=hk
   cases a with
   |f1=>simp only[Mf.nav] at h ⊢;exact ih h1 h
   |f2=>simp only[Mf.nav] at h ⊢;rw[h1.size];exact ih h2 h
   |el i=>simp[Mf.nav] at h
  |cl o t x=>cases (show v'=_ from hk);exact h
  |rw o e xs i v=>cases (show v'=_ from hk);exact h
  |_=>cases a<;>simp[Mf.nav] at h
theorem Kd.get {P:TV→Prop}:∀ (p:Path) {v v':TV} {o:Ow} {t:Ty} {x:t.El},Kd P v v'→v.get p=some (.cl o t x)→v'.get p=some (.cl o t x):=by
 intro p
 induction p with
 |nil=>intro v v' o t x hk h;rw[TV.get_nil] at h ⊢;cases h;rw[show v'=_ from hk]
 |cons a p ih=>
  intro v v' o t x hk h
  cases v with
  |pr c d=>
   obtain⟨a',b',rfl,h1,h2⟩:=hk
   cases a<;>simp only[TV.get] at h ⊢<;>first | exact ih h1 h | exact ih h2 h | cases h
  |cl o' t' x'=>cases (show v'=_ from hk);exact h
  |rw o e xs i v=>cases (show v'=_ from hk);exact h
  |_=>cases a<;>simp[TV.get] at h
theorem Kd.gr {P:TV→Prop}:∀ (p:Path) {v v':TV} {o:Ow} {t:Ty} {x:t.El},Kd P v v'→v.gr p=some (.cl o t x)→v'.gr p=some (.cl o t x):=by
 intro p
 induction p with
 |nil=>
  intro v v' o t x hk h;rw[Ycq] at h ⊢
  cases v with
  |cl o' t' x'=>cases (show v'=_ from hk);exact h
  |rw o' e xs i u=>cases (show v'=_ from hk);exact h
  |_=>cases h
 |cons a p ih=>
  intro v v' o t x hk h
  cases v with
  |pr c d=>
   obtain⟨a',b',rfl,h1,h2⟩:=hk
   cases a with
   |f1=>exact ih h1 h
   |f2=>exact ih h2 h
   |el i=>cases h
  |cl o' t' x'=>cases (show v'=_ from hk);exact h
  |rw o' e xs i v=>cases (show v'=_ from hk);exact h
  |_=>cases a<;>cases h
section
variable {w w':World} {M M':Ya} {L L':Nat→Src} {ρ ρ':Yb} {D:Dd}
theorem Yd1.go (g:Gs w w' M M' ρ ρ' L L' D) {v:TV} {u:Value} (hv:Y3 D v) (h:Yd1 w M L ρ v u):Yd1 w' M' L' ρ' v u:=by
 cases v with
 |nl=>exact h
 |loc r p=>
  obtain⟨R,b,off,h1,h2,h3⟩:=h;obtain⟨R',g1,g2⟩:=g.rl r p R b off hv h1 h2
  exact⟨R',b,off,g1,g2,h3⟩
 |seg r p=>
  obtain⟨R,s,o,e,xs,h1,h2,h3,h4,h5⟩:=h;obtain⟨R',g1,g2,g3,o',xs',g4,g5⟩:=g.rs r p R s hv h1 h2 o e xs h3
  exact⟨R',s,o',e,xs',g1,g2,g4,by rw[g3];exact h4,h5⟩
 |sub r p lo n=>
  obtain⟨R,s,o,e,xs,A,len,c,A',c',h1,h2,h3,h4,h5,h6,h7,h8,h9⟩:=h;obtain⟨R',g1,g2,g3,o',xs',g4,g5⟩:=g.rs r p R s hv h1 h2 o e xs h3
  exact⟨R',s,o',e,xs',A,len,c,A',c',g1,g2,g4,by rw[g3];exact h4,h5,by rw[g5];exact h6,h7,h8,h9⟩
 |pt t x=>
  obtain⟨b,off,h1,h2,h3,h4⟩:=h;have hs:=g.st b h2 h3
  exact⟨b,off,h1,hs.2,Nat.lt_of_lt_of_le h3 g.size,h4.go ⟨g.size,fun _ x=>x.elim,g.st⟩ (fun i _=>by simp only[Src.cell];exact hs.1.cell _)⟩
 |_=>exact h.elim
theorem Ycw.go (g:Gs w w' M M' ρ ρ' L L' D):∀ {v:TV} {us:List Value},Y3 D v→Ycw w M L ρ v us→Ycw w' M' L' ρ' v us:=by
 intro v
 induction v with
 |pr a b iha ihb=>
  intro us hv h
  cases us with
  |nil=>exact h.elim
  |cons u us=>exact⟨h.1.go g hv.1,ihb hv.2 h.2⟩
 |cl o t x=>intro us hv h;cases t<;>cases us<;>first | exact h.elim | trivial
 |_=>intro us hv h;exact h.elim
theorem Yi.go (g:Gs w w' M M' ρ ρ' L L' D) {v:TV} {u:Value} (hv:Y3 D v) (h:Yi w M L ρ v u):Yi w' M' L' ρ' v u:=by
 cases v with
 |clo f c=>obtain⟨caps,h1,h2⟩:=h;exact⟨caps,h1,h2.go g hv⟩
 |_=>exact Yd1.go (u:=u) g hv h
def TV.Yjh:TV→Bool
 |.nl | .loc _ _ | .seg _ _ | .sub _ _ _ _ | .pt _ _ | .clo _ _=>true
 |_=>false
theorem Yi.Yjh {v:TV} {u:Value} (h:Yi w M L ρ v u):v.Yjh=true:=by
 cases v<;>first | rfl | exact h.elim
theorem Yc.kd {P:TV→Prop} {Lf Lf':TV→Value→Prop} (hn:∀ v u,Lf v u→v.Yjh=true) (hl:∀ v u,P v→Lf v u→Lf' v u):∀ {tv tv':TV} {s:Src} {F:Ya},Yc w M Lf tv s F→Kd P tv tv'→Yc w M Lf' tv' s F:=by
 intro tv
 induction tv with
 |pr a b iha ihb=>
  rintro tv' s F ⟨F1,F2,h1,h2,h3⟩ ⟨a',b',rfl,k1,k2⟩
  exact⟨F1,F2,iha h1 k1,by rw[k1.size];exact ihb h2 k2,h3⟩
 |cl o t x=>intro tv' s F h k;cases (show tv'=_ from k);exact h
 |dead n=>intro tv' s F h k;cases (show tv'=_ from k);trivial
 |tup l=>rintro tv' s F ⟨u,h1,h2⟩ _;cases hn _ _ h2
 |gd t w v=>rintro tv' s F ⟨u,h1,h2⟩ _;cases hn _ _ h2
 |kb b=>rintro tv' s F ⟨u,h1,h2⟩ _;cases hn _ _ h2
 |op b=>rintro tv' s F ⟨u,h1,h2⟩ _;cases hn _ _ h2
 |rw o e xs i v=>intro tv' s F h k;cases (show tv'=_ from k);exact h
 |_=>
  rintro tv' s F ⟨u,h1,h2⟩ (⟨rfl,hp⟩ | rfl)
  ·exact⟨u,h1,hl _ _ hp h2⟩
  ·trivial
theorem Kd.isAgg {P:TV→Prop}:∀ {v v':TV},Kd P v v'→v'=.dead 1∨v'.isAgg=v.isAgg:=by
 intro v v' h
 cases v with
 |pr a b=>obtain⟨_,_,rfl,_⟩:=h;exact .inr rfl
 |tup l=>obtain⟨_,rfl,_⟩:=h;exact .inr rfl
 |gd t w v=>obtain⟨_,rfl,_⟩:=h;exact .inr rfl
 |cl o t x=>exact .inr (by rw[show v'=_ from h])
 |dead n=>exact .inr (by rw[show v'=_ from h])
 |kb b=>exact .inr (by rw[show v'=_ from h])
 |op v=>exact .inr (by rw[show v'=_ from h])
 |rw o e xs i v=>exact .inr (by rw[show v'=_ from h])
 |_=>rcases h with ⟨rfl,_⟩ | rfl<;>first | exact .inr rfl | exact .inl rfl
theorem Yd.go (g:Gs w w' M M' ρ ρ' L L' D) {v v':TV} {u:Value} (hk:Kd (Y3 D) v v') (h:Yd w M L ρ v u):v'=.dead 1∨Yd w' M' L' ρ' v' u:=by
 obtain⟨h1,h2,h3⟩:=h;rcases hk.isAgg with e | e
 ·exact .inl e
 ·refine .inr ⟨?_,by rw[hk.size];exact h2,by rw[e];exact h3⟩
  have h1':Yc w' M' (Yi w M L ρ) v (.reg u.cells.toList 0) noB:=h1.go ⟨g.size,fun _ x=>x.elim,g.st⟩ (fun _ _=>rfl) (fun _ _ x=>x);exact h1'.kd (fun v u h=>h.Yjh) (fun v u hp hl=>hl.go g hp) hk
theorem Ygl.go (g:Gs w w' M M' ρ ρ' L L' D):∀ {v v':TV} {us:List Value},Kd (Y3 D) v v'→Ygl w M L ρ v us→Ygl w' M' L' ρ' v' us:=by
 intro v
 induction v with
 |pr a b iha ihb=>
  rintro v' us ⟨a',b',rfl,k1,k2⟩ h
  cases us with
  |nil=>exact h.elim
  |cons u us=>
   refine⟨?_,ihb k2 h.2⟩;rcases h.1 with e | h1
   ·rw[e] at k1;left;rw[show a'=_ from k1];rfl
   ·rcases h1.go g k1 with e | h1
    ·left;rw[e];rfl
    ·exact .inr h1
 |cl o t x=>
  intro v' us k h;cases (show v'=_ from k)
  cases t<;>cases us<;>first | exact h.elim | trivial
 |_=>intro v' us k h;exact h.elim
theorem Ygj.go (g:Gs w w' M M' ρ ρ' L L' D) {a a':Act} {v v':TV} {u:Value} (hk:Kd (Y3 D) v v') (h:Ygj w M L ρ a v u)
  (ht:∀ t b x,v=.gd t b x→a'.tmps.getD t undef=a.tmps.getD t undef):Ygj w' M' L' ρ' a' v' u:=by
 have plain:∀ v v':TV,Kd (Y3 D) v v'→Yd w M L ρ v u→(v'=.dead 1∨Yd w' M' L' ρ' v' u):=fun v v' hk h=>h.go g hk
 cases v with
 |tup l=>obtain⟨l',rfl,k⟩:=hk;obtain⟨vs,h1,h2⟩:=h;exact⟨vs,h1,h2.go g k⟩
 |gd t b x=>
  obtain⟨x',rfl,k⟩:=hk;have ht:=ht t b x rfl
  refine⟨fun hc=>?_,fun hc=>h.2 (by rw[←ht];exact hc)⟩
  rcases h.1 (by rw[←ht];exact hc) with e | h1
  ·rw[e] at k;exact .inl k
  ·exact h1.go g k
 |kb b=>cases (show v'=_ from hk);exact h
 |dead n=>cases (show v'=_ from hk);trivial
 |op x=>exact absurd h.1.choose_spec.2 (fun x=>x.elim)
 |rw o e xs i x=>cases (show v'=_ from hk);rcases plain _ _ hk h with e | e<;>first | exact e | cases e
 |pr x y=>obtain⟨_,_,rfl,_⟩:=id hk;rcases plain _ _ hk h with e | e<;>first | exact e | cases e
 |cl o t x=>cases (show v'=_ from hk);rcases plain _ _ hk h with e | e<;>first | exact e | cases e
 |_=>rcases id hk with ⟨rfl,_⟩ | rfl<;>first | trivial | (rcases plain _ _ hk h with e | e<;>first | exact e | cases e)
end
structure Inv (Z:W0) (S:St) (C:Cx) (a:Act) (w:World):Prop where
 str:Str Z (Yi w (Mt Z C S.root noB) C.L S.root) C noB S.root w
 tm:∀ i v,lk i S.tm=some v→Ygj w (Mt Z C S.root noB) C.L S.root a v (a.tmps.getD i undef)
 df:a.defers=[]
 ts:a.tmps.size=Z.nt
theorem Str.lf {Z:W0} {Lf Lf':TV→Value→Prop} {C:Cx} {G:Ya} {ρ:Yb} {w:World} (I:Str Z Lf C G ρ w) (h:∀ v u,Lf v u→Lf' v u):Str Z Lf' C G ρ w:=
 {I with rep:=fun r R hr=>(I.rep r R hr).go (Yil (fun _ x=>x)) (fun _ _=>rfl) h }
def Root.kill (ks:Ks) (R:Root):Root:={R with tv:=Yt ks R.tv }
theorem Yk2 (Z:W0) (C:Cx) (G:Ya) (ρ:Yb) (ks:Ks):Mt Z C (fun r=>(ρ r).map (Root.kill ks)) G=Mt Z C ρ G:=by
 funext b
 unfold Mt
 congr 1
 apply propext
 constructor
 ·rintro⟨r,R,h1,h2⟩
  dsimp only at h1
  cases h:ρ r with
  |none=>rw[h] at h1;cases h1
  |some R0=>rw[h] at h1;cases h1;exact⟨r,R0,h,h2⟩
 ·rintro⟨r,R,h1,h2⟩
  exact⟨r,R.kill ks,by dsimp only;rw[h1];rfl,h2⟩
theorem Str.kill {Z:W0} {Lf Lf':TV→Value→Prop} {C:Cx} {G:Ya} {ρ:Yb} {w:World} (I:Str Z Lf C G ρ w) (ks:Ks)
  (hn:∀ v u,Lf v u→v.Yjh=true) (hl:∀ v u,Y3 (ddK ks) v→Lf v u→Lf' v u):Str Z Lf' C G (fun r=>(ρ r).map (Root.kill ks)) w:=by
 have key:∀ {r R},(ρ r).map (Root.kill ks)=some R→∃ R0,ρ r=some R0∧R=R0.kill ks:=by
  intro r R h
  cases h0:ρ r with
  |none=>rw[h0] at h;cases h
  |some R0=>rw[h0] at h;cases h;exact⟨R0,rfl,rfl⟩
 refine⟨?_,?_,?_,?_,I.gbnd,?_,?_,?_,I.sz,I.old,I.kp,I.kf,I.xb,I.kb,I.os,I.tape,I.output⟩
 ·intro r R h
  obtain⟨R0,h0,rfl⟩:=key h;rw[Yk2];exact(I.rep r R0 h0).kd hn hl (Ya1 ks R0.tv)
 ·intro r R h hk;obtain⟨R0,h0,rfl⟩:=key h;exact I.reg r R0 h0 hk
 ·intro r R h hk;obtain⟨R0,h0,rfl⟩:=key h
  have hs:(R0.kill ks).tv.size=R0.tv.size:=(Ya1 ks R0.tv).size;rw[hs];exact I.mem r R0 h0 hk
 ·intro r R b h hb;obtain⟨R0,h0,rfl⟩:=key h;exact I.bnd r R0 b h0 hb
 ·intro r r' R R' hne h h';obtain⟨R0,h0,rfl⟩:=key h;obtain⟨R0',h0',rfl⟩:=key h';exact I.dis r r' R0 R0' hne h0 h0'
 ·intro r R h;obtain⟨R0,h0,rfl⟩:=key h;exact I.gdis r R0 h0
 ·intro r R h;obtain⟨R0,h0,rfl⟩:=key h;exact I.plc r R0 h0
theorem Gs.kill {w w':World} {M M':Ya} {L L':Nat→Src} {ρ ρ':Yb} {D:Dd} (g:Gs w w' M M' ρ ρ' L L' D) (ks:Ks):Gs w w' M M' ρ (fun r=>(ρ' r).map (Root.kill ks)) L L' D where
 size:=g.size
 st:=g.st
 rl:=fun r q R b off hd h1 h2=>by
  obtain⟨R',g1,g2⟩:=g.rl r q R b off hd h1 h2
  exact⟨R'.kill ks,by simp only[g1];rfl,Kd.nav w' q (Ya1 ks R'.tv) g2⟩
 rs:=fun r q R s hd h1 h2 o e xs h3=>by
  obtain⟨R',g1,g2,g3,o',xs',g4,g5⟩:=g.rs r q R s hd h1 h2 o e xs h3
  exact⟨R'.kill ks,by simp only[g1];rfl,Kd.nav w' q (Ya1 ks R'.tv) g2,g3,o',xs',Kd.gr q (Ya1 ks R'.tv) g4,g5⟩
theorem Inv.step {Z:W0} {S S':St} {C C':Cx} {a a':Act} {w w':World} {ρ':Yb} {D:Dd} {ks:Ks} {Q:TV→Value→Prop}
  (I:Inv Z S C a w)
  (J:Str Z (fun v u=>Yi w (Mt Z C S.root noB) C.L S.root v u∨Q v u) C' noB ρ' w')
  (g:Gs w w' (Mt Z C S.root noB) (Mt Z C' ρ' noB) S.root ρ' C.L C'.L D)
  (hQ:∀ v u,Q v u→Y3 (ddK ks) v→Yi w' (Mt Z C' S'.root noB) C'.L S'.root v u) (hQn:∀ v u,Q v u→v.Yjh=true)
  (hrt:S'.root=fun r=>(ρ' r).map (Root.kill ks))
  (hcl:∀ r q R,S.root r=some R→D.l r q→(ddK ks).l r q) (hcs:∀ r q R,S.root r=some R→D.s r q→(ddK ks).s r q)
  (hdf:a'.defers=[]) (hts:a'.tmps.size=Z.nt)
  (htm:∀ i v',lk i S'.tm=some v'→(∃ v,lk i S.tm=some v∧v'=Yt ks v∧a'.tmps.getD i undef=a.tmps.getD i undef∧
    ∀ t b x,v=.gd t b x→a'.tmps.getD t undef=a.tmps.getD t undef)∨
   Ygj w' (Mt Z C' S'.root noB) C'.L S'.root a' v' (a'.tmps.getD i undef)) :
  Inv Z S' C' a' w':=by
 have hM:Mt Z C' S'.root noB=Mt Z C' ρ' noB:=by rw[hrt,Yk2]
 have g':Gs w w' (Mt Z C S.root noB) (Mt Z C' S'.root noB) S.root S'.root C.L C'.L (ddK ks):=by
  have g1:=g.kill ks;rw[←hrt] at g1;rw[hM];exact⟨g1.size,g1.st,fun r q R b off hd h1=>g1.rl r q R b off (fun x=>hd (hcl r q R h1 x)) h1,fun r q R s hd h1=>g1.rs r q R s (fun x=>hd (hcs r q R h1 x)) h1⟩
 refine⟨?_,?_,hdf,hts⟩
 ·have:=J.kill (Lf':=Yi w' (Mt Z C' S'.root noB) C'.L S'.root) ks (fun v u h=>h.elim (fun h=>h.Yjh) (hQn v u)) (fun v u ha h=>h.elim (fun h=>h.go g' ha) (fun h=>hQ v u h ha))
  rw[←hrt] at this;exact this
 ·intro i v' h
  rcases htm i v' h with ⟨v,h1,rfl,h3,h4⟩ | h
  ·rw[h3];exact(I.tm i v h1).go g' (Ya1 ks v) h4
  ·exact h
end Mf
namespace Mf
open Go
set_option linter.unusedVariables false
def Yx:Ty→List Value
 |.int k=>[.int k 0]
 |.bool=>[.bool false]
 |.str=>[.string ⟨#[]⟩]
 |.unit=>[]
 |.pair a b=>Yx a++Yx b
 |.sl _=>[.slice none 0 0]
 |.arr n e=>(List.replicate n (Yx e)).flatten
def DOk (P:Program):TD→Ty→TypeDesc→Prop
 |.int k,t,d=>d=.int k∧t=.int k
 |.bool,t,d=>d=.bool∧t=.bool
 |.str,t,d=>d=.string∧t=.str
 |.sl e,t,d=>d=.slice e∧∃ te i,t=.sl te∧P.info? e=some i∧i.size=te.size∧(∃ z,i.zero=some z∧z.cells.toList=Yx te)∧(∀ k,te=.int k→P.underlying e=some (.int k))∧i.bytes≤4096
 |.arr n e,t,d=>d=.array n e∧∃ te i,t=.arr n te∧P.info? e=some i∧i.size=te.size∧(∃ de,P.underlying e=some de∧(te.isAgg=true↔de.isRow=true))
 |.st offs,t,d=>∃ fs:Array Field,d=.struct fs∧(t.isAgg=true)∧(fs.map (·.offset)).toList=offs∧
   ∀ i f,fs[i]? = some f→∃ j de,P.info? f.type=some j∧j.size≠0∧j.size=(Y7 t i).size∧P.underlying f.type=some de∧((Y7 t i).isAgg=true↔de.isRow=true)
 |.ptr e,t,d=>False
 |.other,t,d=>False
structure TOk (P:Program) (t:TypeId) (i:Ydn):Prop where
 d:∃ d,P.underlying t=some d∧DOk P i.d i.ty d∧(i.ty.isAgg=true↔d.isRow=true)
 i:∃ j,P.info? t=some j∧j.size=i.ty.size∧∃ z,j.zero=some z∧z.cells.toList=Yx i.ty
def Yvw (P:Program) (a:Ty) (k:Nat) (f:Field):Bool:=(!(f.name == "_"))&&(Nat.beq f.offset k&&match P.underlying f.type,a with
 |some (.int l),.int m=>decide (l=m)
 |some .bool,.bool=>true
 |some .string,.str=>true
 |_,_=>false)
def Yh1 (P:Program):Ty→Nat→List Field→Bool
 |.unit,_,[]=>true
 |.pair a r,k,f::fs=>Yvw P a k f&&Yh1 P r (k+1) fs
 |_,_,_=>false
def EqB (P:Program) (t:TypeId) (i:Ydn):Bool:=match i.d,Yix i.ty&&Nat.beq i.bytes 0 with
 |.st _,true=>(!P.stoodInHeld t)&&((!P.eqGuardType P.depth t)&&Yh1 P i.ty 0 (P.fieldsOf t).toList)
 |_,_=>true
structure Yag (P:Program) (tb:Tb):Prop where
 row:∀ t i,lk t tb=some i→TOk P t i
 eq:∀ t i,lk t tb=some i→EqB P t i=true
instance (P:Program) (tb:Tb):CoeFun (Yag P tb) (fun _=>∀ t i,lk t tb=some i→TOk P t i):=⟨Yag.row⟩
section
variable {w:World} {M:Ya} {L:Nat→Src} {ρ:Yb}
def TV.plain:TV→Bool
 |.tup _ | .gd _ _ _ | .kb _ | .dead _ | .op _ | .rw _ _ _ _ _=>false
 |_=>true
def VOk (w:World) (M:Ya) (L:Nat→Src) (ρ:Yb):TV→Value→Prop
 |.tup l,u=>∃ vs:Array Value,u=.tuple vs∧Ygl w M L ρ l vs.toList
 |.gd _ _ _,_=>False
 |.kb _,_=>False
 |.dead _,_=>False
 |.op _,_=>False
 |v,u=>Yd w M L ρ v u
theorem VOk.tm {v:TV} {u:Value} (h:VOk w M L ρ v u) (a:Act):Ygj w M L ρ a v u:=by
 cases v<;>first | exact h | exact h.elim
theorem Yb6 {u:Value} (h:¬ ∃ cs,u=.agg cs):u.cells=#[u]:=by cases u<;>first | rfl | exact absurd ⟨_,rfl⟩ h
theorem Yd.one {v:TV} {u:Value} (h:Yd w M L ρ v u) (ha:v.isAgg=false):u.cells=#[u]:=by
 refine Yb6 (fun hh=>?_);rw[h.2.2.2 hh] at ha;cases ha
theorem Yd.cell0 {v:TV} {u:Value} (h:Yd w M L ρ v u) (ha:v.isAgg=false):(Src.reg u.cells.toList 0).cell w 0=some u:=by rw[h.one ha];rfl
theorem Yd.int {o:Ow} {k:IntKind} {n:Int} {u:Value} (h:Yd w M L ρ (.cl o (.int k) n) u):u=.int k n:=by
 have h1:=h.cell0 rfl;have h2:(Src.reg u.cells.toList 0).cell w 0=some (.int k n):=h.1;rw[h1] at h2;exact Option.some.inj h2
theorem Yd.bool {o:Ow} {b:Bool} {u:Value} (h:Yd w M L ρ (.cl o .bool b) u):u=.bool b:=by
 have h1:=h.cell0 rfl;have h2:(Src.reg u.cells.toList 0).cell w 0=some (.bool b):=h.1;rw[h1] at h2;exact Option.some.inj h2
theorem Yd.str {o:Ow} {x:List UInt8} {u:Value} (h:Yd w M L ρ (.cl o .str x) u):∃ z:ByteArray,u=.string z∧z.data.toList=x:=by
 have h1:=h.cell0 rfl;obtain⟨z,h2,h3⟩:∃ z:ByteArray,(Src.reg u.cells.toList 0).cell w 0=some (.string z)∧z.data.toList=x:=h.1;rw[h1] at h2;exact⟨z,Option.some.inj h2,h3⟩
theorem Yd.mk1 {v:TV} {u:Value} (hr:Yc w M (Yi w M L ρ) v (.reg [u] 0) noB) (hs:v.size=1) (ha:v.isAgg=false) (hu:u.cells=#[u]) (hn:¬ ∃ cs,u=.agg cs):Yd w M L ρ v u:=
 ⟨by rw[hu];exact hr,by rw[hu,hs];rfl,by rw[ha];exact⟨fun h=>(by cases h),fun h=>absurd h hn⟩⟩
theorem Yd.Ycb (o:Ow) (k:IntKind) (n:Int):Yd w M L ρ (.cl o (.int k) n) (.int k n):=.mk1 rfl rfl rfl rfl (by rintro⟨_,h⟩;cases h)
theorem Yd.Ybx (o:Ow) (b:Bool):Yd w M L ρ (.cl o .bool b) (.bool b):=.mk1 rfl rfl rfl rfl (by rintro⟨_,h⟩;cases h)
theorem Yd.Yno (o:Ow) (z:ByteArray):Yd w M L ρ (.cl o .str z.data.toList) (.string z):=.mk1 ⟨z,rfl,rfl⟩ rfl rfl rfl (by rintro⟨_,h⟩;cases h)
theorem Yd.Yxg:Yd w M L ρ .nl (.slice none 0 0):=.mk1 ⟨_,rfl,none,rfl⟩ rfl rfl rfl (by rintro⟨_,h⟩;cases h)
theorem Yd.Yun (f:FuncId):Yd w M L ρ (.clo f (.cl .sh .unit ())) (.func (.func f) #[] #[]):=.mk1 ⟨_,rfl,#[],rfl,trivial⟩ rfl rfl rfl (by rintro⟨_,h⟩;cases h)
theorem Yi.one {v:TV} {u:Value} (h:Yi w M L ρ v u):u.oneCell'=true∧¬ ∃ cs,u=.agg cs:=by
 cases v with
 |nl=>obtain⟨A,rfl⟩:=h;exact⟨rfl,by rintro⟨_,h⟩;cases h⟩
 |loc r p=>obtain⟨_,_,_,_,_,rfl⟩:=h;exact⟨rfl,by rintro⟨_,h⟩;cases h⟩
 |seg r p=>obtain⟨_,_,_,_,_,_,_,_,_,A,n,c,rfl⟩:=h;exact⟨rfl,by rintro⟨_,h⟩;cases h⟩
 |sub r p lo n=>obtain⟨_,_,_,_,_,_,_,_,_,_,_,_,_,_,rfl,_⟩:=h;exact⟨rfl,by rintro⟨_,h⟩;cases h⟩
 |pt t x=>obtain⟨_,_,rfl,_⟩:=h;exact⟨rfl,by rintro⟨_,h⟩;cases h⟩
 |clo f c=>obtain⟨_,rfl,_⟩:=h;exact⟨rfl,by rintro⟨_,h⟩;cases h⟩
 |_=>exact h.elim
theorem Yd.leaf {v:TV} {u:Value} (h:Yd w M L ρ v u) (hv:v.Yjh=true):Yi w M L ρ v u:=by
 have ha:v.isAgg=false:=by cases v<;>first | rfl | cases hv
 have h1:=h.cell0 ha
 have h2:∃ u',(Src.reg u.cells.toList 0).cell w 0=some u'∧Yi w M L ρ v u':=by
  have:=h.1
  cases v<;>first | exact this | cases hv
 obtain⟨u',h3,h4⟩:=h2;rw[h1] at h3;cases h3;exact h4
theorem Yd.Yah {v:TV} {u:Value} (h:Yi w M L ρ v u):Yd w M L ρ v u:=by
 have hu:=h.one.2;have hv:=h.Yjh
 refine .mk1 ?_ (by cases v<;>first | rfl | cases hv) (by cases v<;>first | rfl | cases hv) (Yb6 hu) hu
 cases v<;>first | exact⟨u,rfl,h⟩ | cases hv
theorem Yd.Yxk {o:Ow} {e:Ty} {xs:List e.El} {i:Nat} {v:TV} {u:Value} (h:Yd w M L ρ (.rw o e xs i v) u):False:=by
 obtain⟨⟨_,_,_,b,_,_,_,_,Fs,h6,_⟩,_⟩:=h;exact h6
theorem VOk.val {v:TV} {u:Value} (h:VOk w M L ρ v u) (hv:∀ l,v≠.tup l):Yd w M L ρ v u:=by
 cases v<;>first | exact h | exact h.elim | exact absurd rfl (hv _)
theorem Yd.v {v:TV} {u:Value} (h:Yd w M L ρ v u) (hv:v.plain=true):VOk w M L ρ v u:=by
 cases v<;>first | exact h | cases hv
end
theorem RD.run_bind {α β:Type} (S:St):∀ (x:RD α) (f:α→RD β),(x.bind f).run S=(x.run S).bind (fun a=>(f a).run S)
 |.ret a,f=>rfl
 |.fail,f=>rfl
 |.ck r c g,f=>by
  simp only[RD.bind,RD.run]
  cases S.root r with
  |none=>rfl
  |some R=>exact RD.run_bind S (g _) f
 |.tm i g,f=>by
  simp only[RD.bind,RD.run]
  cases lk i S.tm with
  |none=>rfl
  |some v=>exact RD.run_bind S (g v) f
 |.rt r g,f=>by
  simp only[RD.bind,RD.run]
  cases S.root r with
  |none=>rfl
  |some v=>exact RD.run_bind S (g v) f
 |.rt? r g,f=>by
  simp only[RD.bind,RD.run]
  cases S.root r with
  |none=>exact RD.run_bind S (g false) f
  |some v=>exact RD.run_bind S (g true) f
theorem RD.bind_some {α β:Type} {S:St} {x:RD α} {f:α→RD β} {b:β} (h:(x.bind f).run S=some b):∃ a,x.run S=some a∧(f a).run S=some b:=by
 rw[RD.run_bind] at h
 cases hx:x.run S with
 |none=>rw[hx] at h;cases h
 |some a=>rw[hx] at h;exact⟨a,rfl,h⟩
theorem RD.Ymc {α:Type} {S:St} {o:Option α} {a:α} (h:(RD.of o).run S=some a):o=some a:=by
 cases o with
 |none=>cases h
 |some x=>exact h
theorem Ya2 {S:St} {r:Nat} {p:Path} {v:TV} (h:(Yhv r p).run S=some v):∃ R,S.root r=some R∧R.tv.get p=some v:=by
 simp only[Yhv,RD.run] at h
 split at h
 ·rename_i R hR;exact⟨R,hR,RD.Ymc h⟩
 ·cases h
def Yax (a:Act) (g:Gd):Prop:=∀ t w,Gd.has g t w=true→a.tmps.getD t undef=.bool w
theorem Yax.nil (a:Act):Yax a []:=fun t w h=>by simp[Gd.has] at h
theorem Yax.cons {a:Act} {g:Gd} {t:Nat} {b:Bool} (h:Yax a g) (hb:a.tmps.getD t undef=.bool b):Yax a ((t,b)::g):=by
 intro u w hu
 cases b<;>cases w<;>simp only[Gd.has,Bool.or_eq_true,Nat.beq_eq] at hu
 ·rcases hu with e | hu
  ·subst e;exact hb
  ·exact h u _ hu
 ·exact h u _ hu
 ·exact h u _ hu
 ·rcases hu with e | hu
  ·subst e;exact hb
  ·exact h u _ hu
section
variable {P:Program} {tb:Tb} {Z:W0} {S:St} {C:Cx} {a:Act} {w:World} {g:Gd}
theorem Yg (I:Inv Z S C a w) (hg:Yax a g) {x:Operand} {v:TV} (h:(opv g x).run S=some v) :
  VOk w (Mt Z C S.root noB) C.L S.root v (a.eval x):=by
 cases x with
 |tmp t=>
  simp only[opv,RD.run] at h
  split at h
  ·rename_i v0 hv0
   have hI:=I.tm t v0 hv0;show VOk _ _ _ _ v (a.tmps.getD t undef)
   cases v0 with
   |gd t' b v'=>
    simp only at h
    split at h
    ·rename_i hh
     have hb:=hg t' b hh;rcases hI.1 hb with e | e
     ·subst e;simp[RD.run] at h
     ·have e':=e.v (v:=v') (by
       cases v'<;>first | rfl | exact absurd e Yd.Yxk | exact absurd e.1.choose_spec.2 (fun x=>x.elim) | (simp[RD.run] at h))
      cases v'<;>simp only[RD.run,Option.some.injEq] at h<;>first | (subst h;exact e') | cases h | exact e'.elim
    ·simp[RD.run] at h
   |dead n=>simp[RD.run] at h
   |kb b=>
    simp only[RD.run,Option.some.injEq] at h;subst h
    rw[show a.tmps.getD t undef=.bool b from hI];exact .Ybx _ _
   |tup l=>simp only[RD.run,Option.some.injEq] at h;subst h;exact hI
   |op l=>exact absurd hI.1.choose_spec.2 (fun x=>x.elim)
   |_=>simp only[RD.run,Option.some.injEq] at h;subst h;exact hI
  ·cases h
 |const c=>
  cases c with
  |int k n=>simp only[opv,RD.run,Option.some.injEq] at h;subst h;exact .Ycb _ _ _
  |bool b=>simp only[opv,RD.run,Option.some.injEq] at h;subst h;exact .Ybx _ _
  |string s=>simp only[opv,RD.run,Option.some.injEq] at h;subst h;exact .Yno _ _
  |slice A n c=>
   cases A with
   |none=>
    cases n with
    |zero=>cases c with
     |zero=>simp only[opv,RD.run,Option.some.injEq] at h;subst h;exact .Yxg
     |succ c=>simp[opv,RD.run] at h
    |succ n=>simp[opv,RD.run] at h
   |some A=>simp[opv,RD.run] at h
  |_=>simp[opv,RD.run] at h
 |func f=>simp only[opv,RD.run,Option.some.injEq] at h;subst h;exact .Yun f
 |global g=>simp[opv,RD.run] at h
end
end Mf
namespace Mf
open Go
set_option linter.unusedVariables false
set_option linter.unusedSimpArgs false
section
variable {P:Program} {tb:Tb} {Z:W0} {S:St} {C:Cx} {a:Act} {w:World} {g:Gd} {o:Oper}
def PvS (P:Program) (tb:Tb) (g:Gd) (o:Oper):Prop:=∀ (Z:W0) (S:St) (C:Cx) (a:Act) (w:World),Yag P tb→Inv Z S C a w→Yax a g→
 ∀ b v,(pv tb g o).run S=some (b,v)→b≠some false→∃ u,(execOp a.eval o).run P w=.ok (.value u) w∧((∃ n,v=.dead n)∨VOk w (Mt Z C S.root noB) C.L S.root v u)
theorem Yp {t:TypeId} {i:Ydn} (h:(Ych tb t).run S=some i):lk t tb=some i:=RD.Ymc h
theorem Ycs {t:TypeId} {d:TypeDesc} (h:P.underlying t=some d) (w:World):(isAgg t).run P w=.ok d.isRow w:=by
 unfold isAgg;rw[Sem.run_bind,run_underlying h w];cases d<;>rfl
theorem Y1 {t:TypeId} {i:TypeInfo} (h:P.info? t=some i) (w:World):(Go.sizeOf t).run P w=.ok i.size w:=by
 simp[Go.sizeOf,typeInfo,h]
theorem Ye6 {t:TypeId} {i:TypeInfo} (h:P.info? t=some i) (w:World):(typeInfo t).run P w=.ok i w:=by
 simp[typeInfo,h]
theorem Ytn {x:Operand} (ho:o.op=.move x):PvS P tb g o:=by
 intro Z S C a w ht I hg b v h _;simp only[pv,ho] at h;obtain⟨v',h1,h2⟩:=RD.bind_some h;cases h2
 exact⟨a.eval x,by simp[execOp,ho],.inr (Yg I hg h1)⟩
theorem Yvf {w:World} {b off n:Nat} {cs:List Value} (h:∀ i,i<n→(Src.mem b off).cell w i=cs[i]?) (hn:cs.length=n):w.rangeAt b off cs:=by
 intro j v hj
 have:j<n:=by
  rcases Nat.lt_or_ge j n with h | h
  ·exact h
  ·rw[List.getElem?_eq_none (by omega)] at hj;cases hj
 rw[←hj,←h j this];rfl
theorem Ydx {w:World} (b off:Nat):∀ n,(∀ i,i<n→∃ v,w.cell? ⟨b,off+i,none⟩=some v)→∃ cs:List Value,cs.length=n∧∀ i,i<n→w.cell? ⟨b,off+i,none⟩=cs[i]?
 |0,_=>⟨[],rfl,fun i hi=>by omega⟩
 |n+1,h=>by
  obtain⟨cs,h1,h2⟩:=Ydx b off n (fun i hi=>h i (by omega))
  obtain⟨v,hv⟩:=h n (by omega)
  refine⟨cs++[v],by simp[h1],fun i hi=>?_⟩
  by_cases e:i<n
  ·rw[h2 i e,List.getElem?_append_left (by omega)]
  ·have:i=n:=by omega
   subst this;rw[hv,List.getElem?_append_right (by omega)];simp[h1]
theorem Ydt {t:TypeId} {d:TypeDesc} {j:TypeInfo} {b off:Nat} {w:World} (hd:P.underlying t=some d) (hj:P.info? t=some j) (hs:d.isRow=false→j.size=1)
  (hc:∀ i,i<j.size→∃ v,w.cell? ⟨b,off+i,none⟩=some v) (ho:d.isRow=false→∀ v,w.cell? ⟨b,off,none⟩=some v→¬ ∃ cs,v=.agg cs) :
  ∃ u,(Instr.loadAt t (.pointer (some ⟨b,off,none⟩))).run P w=.ok u w∧u.cells.size=j.size∧(d.isRow=true↔∃ cs,u=.agg cs)∧
   ∀ i,i<j.size→u.cells.toList[i]? = w.cell? ⟨b,off+i,none⟩:=by
 cases hr:d.isRow with
 |true=>
  obtain⟨cs,h1,h2⟩:=Ydx b off j.size hc
  refine⟨.agg cs.toArray,run_loadAt_mid w b off t cs d (fun i v hv=>?_) hd hr (by rw[hj];simp[h1]),by simp[Value.cells,h1],by simp,fun i hi=>?_⟩
  ·have:i<j.size:=by
    rcases Nat.lt_or_ge i j.size with h | h
    ·exact h
    ·rw[List.getElem?_eq_none (by omega)] at hv;cases hv
   rw[h2 i this,hv]
  ·simp[Value.cells,h2 i hi]
 |false=>
  have h1:=hs hr
  obtain⟨v,hv⟩:=hc 0 (by omega)
  rw[Nat.add_zero] at hv;have hna:=ho hr v hv;have hvc:v.cells=#[v]:=Yb6 hna
  refine⟨v,?_,by rw[hvc,h1];rfl,by simpa using hna,fun i hi=>?_⟩
  ·simp[Instr.loadAt,Instr.sureAddr,loadVar,Ycs hd,hr,hv]
  ·have:i=0:=by omega
   subst this;rw[hvc];simp[hv]
theorem Yey {v:TV} {t:Ty} (h:v.lay=t.lay) (hv:v≠.dead v.size):v.isAgg=t.isAgg:=by
 cases v with
 |cl o u x=>cases u<;>cases t<;>first | rfl | cases h
 |pr a b=>cases t<;>first | rfl | cases h
 |dead n=>exact absurd rfl hv
 |_=>cases t<;>first | rfl | cases h
theorem Rep.Yg4 {w:World} {M:Ya}:∀ {t:Ty} {x:t.El} {s s':Src} {F:Ya},Rep w M t .sh x s F→(∀ i,i<t.size→s'.cell w i=s.cell w i)→Rep w M t .sh x s' noB:=by
 intro t
 induction t with
 |int k=>intro x s s' F h hc;exact(hc 0 (by simp[Ty.size])).trans h
 |bool=>intro x s s' F h hc;exact(hc 0 (by simp[Ty.size])).trans h
 |str=>intro x s s' F h hc;obtain⟨z,h1,h2⟩:=h;exact⟨z,(hc 0 (by simp[Ty.size])).trans h1,h2⟩
 |unit=>intro x s s' F h hc;trivial
 |pair a b iha ihb=>
  intro x s s' F h hc;obtain⟨F1,F2,h1,h2,_⟩:=h
  refine⟨noB,noB,iha h1 (fun i hi=>hc i (by simp[Ty.size];omega)),ihb h2 (fun i hi=>?_),fun _ x=>x.elim,fun _ x=>x.elim,fun _ x=>x.elim⟩
  rw[Src.Yj,Src.Yj];exact hc _ (by simp[Ty.size];omega)
 |sl e ih=>
  intro x s s' F h hc;obtain⟨A,c,h1,h2,h3⟩:=h
  exact⟨A,c,(hc 0 (by simp[Ty.size])).trans h1,h2,h3⟩
 |arr n e ih=>
  intro x s s' F h hc;obtain⟨h1,Fs,h2,h3⟩:=h;refine⟨h1,fun _=>noB,fun i hi=>⟨ih (h2 i hi).1 (fun j hj=>?_),fun _ x=>x.elim⟩,fun _ _ _ _ _ x=>x.elim⟩;rw[Src.Yj,Src.Yj];refine hc _ ?_;simp only[Ty.size]
  have:=Yay (n:=n) (sz:=e.size) (i:=i) (by omega)
  omega
variable {M:Ya} {L:Nat→Src} {ρ:Yb}
theorem Yjo (r:Nat):∀ (t:Ty) (p:Path) (o:Ow) (x:t.El),(Yan r p o t x).size=t.size:=by
 intro t
 induction t with
 |pair a b iha ihb=>
  intro p o x;simp only[Yan];split
  ·rfl
  ·split
   ·rfl
   ·simp[TV.size,Ty.size,iha,ihb]
 |sl e=>intro p o x;simp only[Yan];split<;>rfl
 |arr n e=>intro p o x;simp only[Yan];(split<;>first | rfl | (split<;>rfl))
 |_=>intro p o x;rfl
theorem Ypz {r:Nat} {R:Root} (hR:ρ r=some R):∀ (t:Ty) (p:Path) (o:Ow) (x:t.El) {s s':Src} {F:Ya},Rep w M t o x s F→nav w R.tv (L r) p=some s→R.tv.get p=some (.cl o t x)→
  (∀ i,i<t.size→s'.cell w i=s.cell w i)→Yc w M (Yi w M L ρ) (Yan r p o t x) s' noB:=by
 intro t
 induction t with
 |int k=>intro p o x s s' F h _ _ hc;exact Rep.pure (o:=o) rfl h hc
 |bool=>intro p o x s s' F h _ _ hc;exact Rep.pure (o:=o) rfl h hc
 |str=>intro p o x s s' F h _ _ hc;exact Rep.pure (o:=o) rfl h hc
 |unit=>intro p o x s s' F h _ _ hc;trivial
 |pair a b iha ihb=>
  intro p o x s s' F h hn hg hc;simp only[Yan]
  split
  ·rename_i hp;exact Rep.pure hp h hc
  ·have go:o≠.sh→Yc w M (Yi w M L ρ) (.pr (Yan r (p++[.f1]) o a x.1) (Yan r (p++[.f2]) o b x.2)) s' noB:=by
    intro _;obtain⟨F1,F2,h1,h2,_⟩:=h;obtain⟨n1,g1⟩:=Y2 p [.f1] hn hg;obtain⟨n2,g2⟩:=Y2 p [.f2] hn hg;simp only[nav,Yf,TV.get,TV.get_nil] at n1 g1 n2 g2
    refine⟨noB,noB,iha _ _ _ h1 n1 g1 (fun i hi=>hc i (by simp[Ty.size];omega)),ihb _ _ _ h2 n2 g2 (fun i hi=>?_),fun _ x=>x.elim,fun _ x=>x.elim,fun _ x=>x.elim⟩
    rw[Yjo,Src.Yj,Src.Yj];exact hc _ (by simp[Ty.size];omega)
   cases o with
   |sh=>exact Rep.Yg4 h hc
   |top=>exact go (by simp)
   |deep=>exact go (by simp)
 |sl e=>
  intro p o x s s' F h hn hg hc;simp only[Yan]
  split
  ·exact Rep.Yg4 h hc
  ·obtain⟨A,c,h1,h2,h3⟩:=h
   exact⟨_,(hc 0 (by simp[Ty.size])).trans h1,R,s,o,e,x,hR,hn,Yeb hg,h1,_,_,_,rfl⟩
 |arr n e=>
  intro p o x s s' F h hn hg hc;simp only[Yan]
  split
  ·rename_i hp;exact Rep.pure (t:=.arr n e) hp h hc
  ·split
   ·exact Rep.Yg4 h hc
   ·trivial
theorem Yek (r:Nat):∀ (v:TV) (p:Path),(v.mir r p).size=v.size:=by
 intro v
 induction v with
 |pr a b iha ihb=>intro p;simp[TV.mir,TV.size,iha,ihb]
 |cl o t x=>intro p;exact Yjo r t p o x
 |_=>intro p;rfl
theorem Yhz {r:Nat} {R:Root} (hR:ρ r=some R):∀ (v:TV) (p:Path) {s s':Src} {F:Ya},Yc w M (Yi w M L ρ) v s F→nav w R.tv (L r) p=some s→R.tv.get p=some v→
  (∀ i,i<v.size→s'.cell w i=s.cell w i)→Yc w M (Yi w M L ρ) (v.mir r p) s' noB:=by
 intro v
 induction v with
 |pr a b iha ihb=>
  intro p s s' F h hn hg hc;obtain⟨F1,F2,h1,h2,_⟩:=h;obtain⟨n1,g1⟩:=Y2 p [.f1] hn hg;obtain⟨n2,g2⟩:=Y2 p [.f2] hn hg;simp only[nav,Yf,TV.get,TV.get_nil] at n1 g1 n2 g2
  refine⟨noB,noB,iha _ h1 n1 g1 (fun i hi=>hc i (by simp[TV.size];omega)),ihb _ h2 n2 g2 (fun i hi=>?_),fun _ x=>x.elim,fun _ x=>x.elim,fun _ x=>x.elim⟩
  rw[Yek,Src.Yj,Src.Yj];exact hc _ (by simp[TV.size];omega)
 |cl o t x=>intro p s s' F h hn hg hc;exact Ypz hR t p o x h hn hg hc
 |op v=>intro p s s' F h hn hg hc;trivial
 |dead n=>intro p s s' F h hn hg hc;trivial
 |rw o e xs i v=>intro p s s' F h hn hg hc;trivial
 |_=>intro p s s' F h hn hg hc;obtain⟨u,h1,h2⟩:=h;exact⟨u,(hc 0 (by simp[TV.size])).trans h1,h2⟩
theorem Yq0 (r:Nat) (t:Ty) (p:Path) (o:Ow) (x:t.El):(Yan r p o t x).isAgg=t.isAgg∨∃ n,Yan r p o t x=.dead n:=by
 cases t with
 |pair a b=>left;simp only[Yan];(split<;>first | rfl | (split<;>rfl))
 |sl e=>left;simp only[Yan];split<;>rfl
 |arr n e=>
  simp only[Yan]
  split
  ·exact .inl rfl
  ·split
   ·exact .inl rfl
   ·exact .inr ⟨_,rfl⟩
 |_=>exact .inl rfl
theorem Yh4 (r:Nat) (v:TV) (p:Path):(v.mir r p).isAgg=v.isAgg∨∃ n,v.mir r p=.dead n:=by
 cases v with
 |cl o t x=>exact Yq0 r t p o x
 |op v=>exact .inr ⟨_,rfl⟩
 |rw o e xs i v=>exact .inr ⟨_,rfl⟩
 |_=>exact .inl rfl
theorem Yc.cells {Lf:TV→Value→Prop} (hl:∀ v u,Lf v u→u.oneCell'=true):∀ {v:TV} {s:Src} {F:Ya},Yc w M Lf v s F→(∀ i,i<v.size→∃ u,s.cell w i=some u∧u.oneCell'=true)∨¬ v.live=true:=by
 intro v
 induction v with
 |cl o t x=>intro s F h;exact .inl (Rep.cells h)
 |pr a b iha ihb=>
  intro s F h;obtain⟨F1,F2,h1,h2,_⟩:=h;rcases iha h1 with h1 | h1
  ·rcases ihb h2 with h2 | h2
   ·refine .inl (fun i hi=>?_)
    by_cases e:i<a.size
    ·exact h1 i e
    ·obtain⟨u,h3,h4⟩:=h2 (i-a.size) (by simp[TV.size] at hi;omega)
     rw[Src.Yj,show a.size+(i-a.size)=i by omega] at h3
     exact⟨u,h3,h4⟩
   ·exact .inr (by simp[TV.live,h2])
  ·exact .inr (by simp[TV.live,h1])
 |dead n=>intro s F h;exact .inr (by simp[TV.live])
 |rw o e xs i v=>intro s F h;exact .inr (by simp[TV.live])
 |_=>
  intro s F h;obtain⟨u,h1,h2⟩:=h;refine .inl (fun i hi=>?_)
  have:i=0:=by simp[TV.size] at hi;exact hi
  subst this;exact⟨u,h1,hl _ _ h2⟩
theorem Yuf {n:Nat}:∀ t:Ty,t.lay≠.dead n:=by intro t;cases t<;>simp[Ty.lay]
theorem Yw1 {Z:W0} {Lf:TV→Value→Prop} {C:Cx} {G:Ya} {ρ:Yb} {w:World} (I:Str Z Lf C G ρ w) {r:Nat} {R:Root} (hR:ρ r=some R):∀ bs offs,C.L r=.mem bs offs→¬ C.F r bs:=by
 intro bs offs e
 cases hk:R.k with
 |reg=>obtain⟨cs,e'⟩:=I.reg r R hR hk;rw[e] at e';cases e'
 |mem=>obtain⟨b,off,e',h,_⟩:=I.mem r R hR hk;rw[e] at e';cases e';exact h
end
section
variable {P:Program} {tb:Tb} {g:Gd} {o:Oper}
theorem VOk.Yhd {w:World} {M:Ya} {L:Nat→Src} {ρ:Yb} {v:TV} {u:Value} (hr:Yc w M (Yi w M L ρ) v (.reg u.cells.toList 0) noB) (hs:u.cells.size=v.size)
  (ha:v.isAgg=true↔∃ cs,u=.agg cs) (hv:v.plain=true):VOk w M L ρ v u:=
 Yd.v ⟨hr,hs,ha⟩ hv
theorem Yi2 (r:Nat) (t:Ty) (p:Path) (o:Ow) (x:t.El):(∃ n,Yan r p o t x=.dead n)∨(Yan r p o t x).plain=true:=by
 cases t with
 |pair a b=>right;simp only[Yan];(split<;>first | rfl | (split<;>rfl))
 |sl e=>right;simp only[Yan];split<;>rfl
 |arr n e=>
  simp only[Yan]
  split
  ·exact .inr rfl
  ·split
   ·exact .inr rfl
   ·exact .inl ⟨_,rfl⟩
 |_=>exact .inr rfl
theorem Yfz {w:World} {M:Ya} {L:Nat→Src} {ρ:Yb} {v:TV} {s:Src} {F:Ya} (h:Yc w M (Yi w M L ρ) v s F) (r:Nat) (p:Path) :
  (∃ n,v.mir r p=.dead n)∨(v.mir r p).plain=true:=by
 cases v with
 |cl o t x=>exact Yi2 r t p o x
 |op v=>exact .inl ⟨_,rfl⟩
 |dead n=>exact .inl ⟨_,rfl⟩
 |rw o e xs i v=>exact .inl ⟨_,rfl⟩
 |tup l=>obtain⟨u,_,h⟩:=h;exact h.elim
 |gd t b l=>obtain⟨u,_,h⟩:=h;exact h.elim
 |kb l=>obtain⟨u,_,h⟩:=h;exact h.elim
 |_=>exact .inr rfl
theorem Ytq {t:TypeId} {x:Operand} (ho:o.op=.load t x):PvS P tb g o:=by
 intro Z S C a w ht I hg b v h _;simp only[pv,ho] at h;obtain⟨vx,h1,h⟩:=RD.bind_some h;obtain⟨i,h2,h⟩:=RD.bind_some h;have hx:=Yg I hg h1;obtain⟨⟨d,hd,hdk,hda⟩,⟨j,hj,hjs,_⟩⟩:=ht t i (Yp h2)
 have hex:∀ u w',(Instr.loadAt t (a.eval x)).run P w=.ok u w'→(execOp a.eval o).run P w=.ok (.value u) w':=by
  intro u w' h;simp[execOp,ho,h]
 have h1s:d.isRow=false→j.size=1:=by
  intro hr
  have:i.ty.isAgg=false:=by
   cases hh:i.ty.isAgg with
   |false=>rfl
   |true=>rw[hda.1 hh] at hr;cases hr
  rw[hjs]
  cases hty:i.ty<;>rw[hty] at this<;>first | rfl | cases this
 cases vx with
 |loc r p=>
  have old:(Ykz r p i.ty).run S=some (b,v)→∃ u,(execOp a.eval o).run P w=.ok (.value u) w∧((∃ n,v=.dead n)∨VOk w (Mt Z C S.root noB) C.L S.root v u):=by
   intro h;unfold Ykz at h;obtain⟨tv,h3,h⟩:=RD.bind_some h;obtain⟨R,hR,hget⟩:=Ya2 h3
   split at h
   ·rename_i hlay _ hlive
    simp only[RD.run,Option.some.injEq,Prod.mk.injEq] at h;obtain⟨rfl,rfl⟩:=h;obtain⟨R',b,off,e1,e2,e3⟩:=(hx:Yd _ _ _ _ _ _).leaf rfl;rw[hR] at e1;cases e1
    obtain⟨F',hrep⟩:∃ F',Yc w (Mt Z C S.root noB) (Yi w (Mt Z C S.root noB) C.L S.root) tv (.mem b off) F':=by
     obtain⟨Fo,h⟩:=focus p (I.str.rep r R hR) e2 hget
     exact⟨Fo,h.2⟩
    have hsz:tv.size=j.size:=by rw[←TV.lay_size,hlay,Ty.lay_size,hjs]
    have hcells:=(hrep.cells (fun v u h=>h.one.1)).resolve_right (by simp[hlive])
    obtain⟨u,hu1,hu2,hu3,hu4⟩:=Ydt (P:=P) (w:=w) (b:=b) (off:=off) hd hj h1s
     (fun i hi=>by obtain⟨v,hv,_⟩:=hcells i (by omega);exact⟨v,hv⟩)
     (fun hr v hv=>by
      obtain⟨v',hv',ho⟩:=hcells 0 (by rw[hsz,h1s hr];omega)
      have:v'=v:=by
       have:=hv';simp only[Src.cell,Nat.add_zero] at this;rw[hv] at this;exact(Option.some.inj this).symm
      subst this
      rintro⟨cs,rfl⟩;cases ho)
    refine⟨u,hex u w (by rw[e3];exact hu1),?_⟩
    rcases Yfz hrep r p with hk | hk
    ·exact .inl hk
    ·refine .inr (.Yhd ?_ (by rw[Yek,hu2,hsz]) ?_ hk)
     ·refine Yhz hR tv p hrep e2 hget (fun i hi=>?_)
      simp only[Src.cell,Nat.zero_add]
      exact hu4 i (by omega)
     ·have hag:(tv.mir r p).isAgg=tv.isAgg:=by
       rcases Yh4 r tv p with e | ⟨n,e⟩
       ·exact e
       ·rw[e] at hk;cases hk
      rw[hag,Yey hlay (fun e=>by rw[e] at hlive;cases hlive),hda,hu3]
   ·cases h
  simp only at h
  split at h
  ·rename_i e hty
   simp only[RD.run] at h
   split at h
   ·rename_i R hR
    split at h
    ·rename_i hck
     simp only[RD.run,Option.some.injEq,Prod.mk.injEq] at h;obtain⟨rfl,rfl⟩:=h;obtain⟨R',b,off,e1,e2,e3⟩:=(hx:Yd _ _ _ _ _ _).leaf rfl;rw[hR] at e1;cases e1
     obtain⟨A,l,c,o1,e',xs,hcell,hgr⟩:∃ (A:Option Addr) (l c:Nat) (o1:Ow) (e':Ty) (xs:List e'.El),(Src.mem b off).cell w 0=some (.slice A l c)∧R.tv.gr p=some (.cl o1 (.sl e') xs):=by
      simp only[Chk.run] at hck
      cases hget:R.tv.get p with
      |none=>rw[hget] at hck;cases hck
      |some c0=>
       obtain⟨Fo,_,hrep⟩:=focus p (I.str.rep r R hR) e2 hget
       rw[hget] at hck
       cases c0 with
       |cl o1 t1 x1=>
        cases t1 with
        |sl e'=>obtain⟨A,c,q1,_⟩:=(hrep:Rep w _ (.sl e') o1 x1 _ _);exact⟨A,_,c,o1,e',x1,q1,Yeb hget⟩
        |_=>cases o1<;>cases hck
       |rw o1 e' x1 j v1=>obtain⟨_,_,_,b1,off1,c,q1,_⟩:=hrep;exact⟨_,_,c,o1,e',x1,q1,by rw[TV.gr,hget];rfl⟩
       |_=>cases hck
     have hd':d.isRow=false:=by
      cases hh:d.isRow with
      |false=>rfl
      |true=>have:=hda.2 hh;rw[hty] at this;cases this
     have hj1:=h1s hd'
     obtain⟨u,hu1,hu2,hu3,hu4⟩:=Ydt (P:=P) (w:=w) (b:=b) (off:=off) hd hj h1s
      (fun i hi=>by
        have:i=0:=by omega
        subst this;exact⟨_,hcell⟩)
      (fun hr v hv=>by
       have:v=.slice A l c:=by
        have:=hcell;simp only[Src.cell,Nat.add_zero] at this;rw[hv] at this;exact Option.some.inj this
       subst this
       rintro⟨cs,e⟩;cases e)
     have hagg:¬ ∃ cs,u=.agg cs:=fun h=>by rw[hu3.2 h] at hd';cases hd'
     have hone:=Yb6 hagg
     have hu:u=.slice A l c:=by
      have h0:=hu4 0 (by omega)
      rw[hone] at h0
      have h1:some u=(Src.mem b off).cell w 0:=by simpa [Src.cell] using h0
      rw[hcell] at h1;exact Option.some.inj h1
     refine⟨u,hex u w (by rw[e3];exact hu1),.inr ?_⟩
     exact Yd.Yah (v:=.seg r p) ⟨R,.mem b off,o1,e',xs,hR,e2,hgr,by rw[hu];exact hcell,A,l,c,hu⟩
    ·exact old h
   ·cases h
  ·exact old h
 |pt ty y=>
  simp only at h
  split at h
  ·rename_i hlay _
   simp only[RD.run,Option.some.injEq,Prod.mk.injEq] at h;obtain⟨rfl,rfl⟩:=h;obtain⟨b,off,e1,e2,e3,e4⟩:=(hx:Yd _ _ _ _ _ _).leaf rfl
   have hsz:ty.size=j.size:=by rw[←Ty.lay_size,hlay,Ty.lay_size,hjs]
   have hcells:=Rep.cells e4
   obtain⟨u,hu1,hu2,hu3,hu4⟩:=Ydt (P:=P) (w:=w) (b:=b) (off:=off) hd hj h1s
    (fun i hi=>by obtain⟨v,hv,_⟩:=hcells i (by omega);exact⟨v,hv⟩)
    (fun hr v hv=>by
     obtain⟨v',hv',ho⟩:=hcells 0 (by rw[hsz,h1s hr];omega)
     have:v'=v:=by
      have:=hv';simp only[Src.cell,Nat.add_zero] at this;rw[hv] at this;exact(Option.some.inj this).symm
     subst this
     rintro⟨cs,rfl⟩;cases ho)
   refine⟨u,hex u w (by rw[e1];exact hu1),.inr (.Yhd (Rep.Yg4 e4 (fun i hi=>?_)) (by rw[hu2,←hsz];rfl) ?_ rfl)⟩
   ·simp only[Src.cell,Nat.zero_add];exact hu4 i (by omega)
   ·have:(TV.cl .sh ty y).isAgg=i.ty.isAgg:=Yey hlay (by simp)
    rw[this,hda,hu3]
  ·cases h
 |_=>cases h
end
end Mf
namespace Mf
open Go
set_option linter.unusedVariables false
set_option linter.unusedSimpArgs false
theorem Rep.mv {w:World} {M:Ya}:∀ {t:Ty} {o:Ow} {x:t.El} {s s':Src} {F:Ya},Rep w M t o x s F→(∀ i,i<t.size→s'.cell w i=s.cell w i)→Rep w M t o x s' F:=by
 intro t
 induction t with
 |int k=>intro o x s s' F h hc;exact(hc 0 (by simp[Ty.size])).trans h
 |bool=>intro o x s s' F h hc;exact(hc 0 (by simp[Ty.size])).trans h
 |str=>intro o x s s' F h hc;obtain⟨z,h1,h2⟩:=h;exact⟨z,(hc 0 (by simp[Ty.size])).trans h1,h2⟩
 |unit=>intro o x s s' F h hc;trivial
 |pair a b iha ihb=>
  intro o x s s' F h hc;obtain⟨F1,F2,h1,h2,h3⟩:=h
  refine⟨F1,F2,iha h1 (fun i hi=>hc i (by simp[Ty.size];omega)),ihb h2 (fun i hi=>?_),h3⟩
  rw[Src.Yj,Src.Yj];exact hc _ (by simp[Ty.size];omega)
 |sl e ih=>
  intro o x s s' F h hc;obtain⟨A,c,h1,h2,h3⟩:=h
  exact⟨A,c,(hc 0 (by simp[Ty.size])).trans h1,h2,h3⟩
 |arr n e ih=>
  intro o x s s' F h hc;obtain⟨h1,Fs,h2,h3⟩:=h;refine⟨h1,Fs,fun i hi=>⟨ih (h2 i hi).1 (fun j hj=>?_),(h2 i hi).2⟩,h3⟩;rw[Src.Yj,Src.Yj];refine hc _ ?_;simp only[Ty.size]
  have:=Yay (n:=n) (sz:=e.size) (i:=i) (by omega)
  omega
theorem Yc.mv {w:World} {M:Ya} {Lf:TV→Value→Prop}:∀ {v:TV} {s s':Src} {F:Ya},Yc w M Lf v s F→(∀ i,i<v.size→s'.cell w i=s.cell w i)→Yc w M Lf v s' F:=by
 intro v
 induction v with
 |cl o t x=>intro s s' F h hc;exact Rep.mv h hc
 |pr a b iha ihb=>
  intro s s' F h hc;obtain⟨F1,F2,h1,h2,h3⟩:=h
  refine⟨F1,F2,iha h1 (fun i hi=>hc i (by simp[TV.size];omega)),ihb h2 (fun i hi=>?_),h3⟩
  rw[Src.Yj,Src.Yj];exact hc _ (by simp[TV.size];omega)
 |dead n=>intro s s' F h hc;trivial
 |rw o e xs i v ih=>
  intro s s' F h hc;obtain⟨h1,h2,h3,b,off,c,h4,h5⟩:=h
  exact⟨h1,h2,h3,b,off,c,(hc 0 (by simp[TV.size])).trans h4,h5⟩
 |_=>intro s s' F h hc;obtain⟨u,h1,h2⟩:=h;exact⟨u,(hc 0 (by simp[TV.size])).trans h1,h2⟩
theorem Yjl {w:World}:∀ (f:Nat) {v:TV} {k:Nat} (s:Src),v.Ycc f=some k→nav w v s (Yai f)=some (s.sh k):=by
 intro f
 induction f with
 |zero=>
  intro v k s h
  cases v with
  |pr a b=>simp only[TV.Ycc,Option.some.injEq] at h;subst h;simp only[Yai,nav,Yf,Src.Yda]
  |cl o t x=>
   cases t with
   |pair a b=>simp only[TV.Ycc,Option.some.injEq] at h;subst h;simp only[Yai,nav,Yf,Src.Yda]
   |_=>cases h
  |_=>cases h
 |succ f ih=>
  intro v k s h
  cases v with
  |pr a b=>
   simp only[TV.Ycc] at h
   split at h
   ·rename_i k' hk
    cases h;simp only[Yai,nav];rw[ih (s.sh a.size) hk,Src.Ygg]
   ·cases h
  |cl o t x=>
   cases t with
   |pair a b=>
    simp only[TV.Ycc] at h
    split at h
    ·rename_i k' hk
     cases h;simp only[Yai,nav];rw[ih (s.sh a.size) hk,Src.Ygg]
    ·cases h
   |_=>cases h
  |_=>cases h
theorem Ylo:∀ (f:Nat) {o o':Ow} {t u:Ty} {x:t.El} {y:u.El},(TV.cl o t x).get (Yai f)=some (.cl o' u y)→o'=o:=by
 intro f
 induction f with
 |zero=>
  intro o o' t u x y h
  cases t with
  |pair a b=>simp only[Yai,TV.get,TV.get_nil] at h;cases h;rfl
  |_=>cases h
 |succ f ih=>intro o o' t u x y h;cases t<;>simp only[Yai,TV.get] at h<;>first | cases h | exact ih h
theorem Yjv:∀ (f:Nat) {v u:TV} {t:Ty},v.lay=t.lay→v.get (Yai f)=some u→u.lay=(Y7 t f).lay:=by
 intro f
 induction f with
 |zero=>
  intro v u t hl h
  cases v with
  |pr a b=>
   simp only[Yai,TV.get,TV.get_nil,Option.some.injEq] at h;subst h
   cases t<;>simp only[TV.lay,Ty.lay] at hl<;>first | cases hl | (simp only[Lay.pair.injEq] at hl;exact hl.1)
  |cl o t' x=>
   cases t' with
   |pair a b=>
    simp only[Yai,TV.get,TV.get_nil,Option.some.injEq] at h;subst h
    cases t<;>simp only[TV.lay,Ty.lay] at hl<;>first | cases hl | (simp only[Lay.pair.injEq] at hl;exact hl.1)
   |_=>cases h
  |_=>cases h
 |succ f ih=>
  intro v u t hl h
  cases v with
  |pr a b=>
   simp only[Yai,TV.get] at h
   cases t<;>simp only[TV.lay,Ty.lay] at hl<;>first | cases hl | (simp only[Lay.pair.injEq] at hl;exact ih hl.2 h)
  |cl o t' x=>
   cases t'<;>simp only[Yai,TV.get] at h<;>first | cases h | skip
   cases t<;>simp only[TV.lay,Ty.lay] at hl<;>first | cases hl | (simp only[Lay.pair.injEq] at hl;exact ih (v:=TV.cl o _ x.2) hl.2 h)
  |_=>cases h
section
variable {P:Program} {tb:Tb} {g:Gd} {o:Oper}
theorem Yit {P:Program} {t:Ty} {d:TypeDesc} {offs:List Nat} (h:DOk P (.st offs) t d) {f b:Nat} (hb:offs[f]? = some b) :
  ∃ fs:Array Field,∃ fd j de,d=.struct fs∧fs[f]? = some fd∧fd.offset=b∧P.info? fd.type=some j∧j.size≠0∧j.size=(Y7 t f).size∧P.underlying fd.type=some de∧((Y7 t f).isAgg=true↔de.isRow=true):=by
 obtain⟨fs,h1,h2,h3,h4⟩:=h
 have:(fs.map (·.offset))[f]? = some b:=by rw[←hb,←h3,Array.getElem?_toList]
 rw[Array.getElem?_map] at this
 cases hf:fs[f]? with
 |none=>rw[hf] at this;cases this
 |some fd=>
  rw[hf] at this;simp only[Option.map_some,Option.some.injEq] at this;obtain⟨j,de,q⟩:=h4 f fd hf;exact⟨fs,fd,j,de,h1,hf,this,q⟩
theorem Yg6 {t:TypeId} {fs:Array Field} {fd:Field} {j:TypeInfo} {f b off:Nat} {w:World} (hd:P.underlying t=some (.struct fs)) (hf:fs[f]? = some fd) (hj:P.info? fd.type=some j) (hz:j.size≠0) :
  (Instr.fieldAt t (.pointer (some ⟨b,off,none⟩)) f).run P w=.ok (.pointer (some ⟨b,off+fd.offset,none⟩)) w:=by
 simp[Instr.fieldAt,run_underlying hd,hf,Instr.sureAddr,fieldPlace,Y1 hj,hz,Addr.add_mid]
theorem Yl5 {t:TypeId} {x:Operand} {f:Nat} (ho:o.op=.fieldAddr t x f):PvS P tb g o:=by
 intro Z S C a w ht I hg b v h _;simp only[pv,ho] at h;replace h:=RD.bind_some h;obtain⟨vx,h1,h⟩:=h;replace h:=RD.bind_some h;obtain⟨i,h2,h⟩:=h;have hx:=Yg I hg h1;obtain⟨⟨d,hd,hdk,hda⟩,_⟩:=ht t i (Yp h2)
 split at h
 ·rename_i offs hoffs
  rw[hoffs] at hdk
  split at h
  ·rename_i r p
   split at h
   ·rename_i aa hob
    simp only[RD.run] at h
    split at h
    ·rename_i R hR
     have hck:(Chk.Ycc p f aa).run R.tv=true∧(b,v)=(none,TV.loc r (p++Yai f)):=by
      split at h
      ·rename_i hck;simp only[RD.run,Option.some.injEq] at h;exact⟨hck,h.symm⟩
      ·cases h
     obtain⟨hck,hbv⟩:=hck;cases hbv
     obtain⟨tv,hget,hfo⟩:∃ tv,R.tv.get p=some tv∧tv.Ycc f=some aa:=by
      simp only[Chk.run] at hck
      split at hck
      ·rename_i tv hget
       split at hck
       ·rename_i a' hfo;exact⟨tv,hget,by rw[hfo,show a'=aa by simpa using hck]⟩
       ·cases hck
      ·cases hck
     obtain⟨fs,fd,j,de,e1,e2,e3,e4,e5,_⟩:=Yit hdk hob;subst e1;obtain⟨R',b0,off,q1,q2,q3⟩:=(hx:Yd _ _ _ _ _ _).leaf rfl;rw[hR] at q1;cases q1
     refine⟨_,by simp only[execOp,ho,Sem.run_bind];rw[q3,Yg6 hd e2 e4 e5];rfl,.inr ?_⟩
     refine Yd.Yah (v:=.loc r (p++Yai f)) ⟨R,b0,off+fd.offset,hR,?_,rfl⟩;rw[(Y2 p (Yai f) q2 hget).1,Yjl f _ hfo,e3];rfl
    ·cases h
   ·cases h
  ·rename_i u y
   split at h
   ·rename_i aa bb o' u' y' hfo hob hget
    split at h
    ·rename_i hbeq
     cases h
     have:aa=bb:=by simpa using hbeq
     subst this;obtain⟨fs,fd,j,de,e1,e2,e3,e4,e5,_⟩:=Yit hdk hob;subst e1;obtain⟨b0,off,q1,q2,q3,q4⟩:=(hx:Yd _ _ _ _ _ _).leaf rfl
     refine⟨_,by simp only[execOp,ho,Sem.run_bind];rw[q1,Yg6 hd e2 e4 e5];rfl,.inr ?_⟩
     have hsh:=Ylo f hget;subst hsh
     obtain⟨F',_,hr⟩:=focus (Lf:=fun _ _=>True) (Yai f) (tv:=.cl .sh u y) q4 (Yjl f _ hfo) hget
     have hr':Rep w (Mt Z C S.root noB) u' .sh y' (Src.sh (.mem b0 off) aa) F':=hr
     exact Yd.Yah (v:=.pt u' y') ⟨b0,off+fd.offset,rfl,q2,q3,by rw[e3];exact Rep.Yg4 hr' (fun _ _=>rfl)⟩
    ·cases h
   ·cases h
  ·cases h
 ·cases h
theorem Ymm {x:Operand} (ho:o.op=.nilCheck x):PvS P tb g o:=by
 intro Z S C a w ht I hg b v h _;simp only[pv,ho] at h;replace h:=RD.bind_some h;obtain⟨vx,h1,h⟩:=h;have hx:=Yg I hg h1
 cases vx<;>simp only[RD.run] at h<;>first | cases h | skip
 ·obtain⟨R',b0,off,q1,q2,q3⟩:=(hx:Yd _ _ _ _ _ _).leaf rfl
  exact⟨a.eval x,by simp only[execOp,ho];rw[q3];rfl,.inr hx⟩
 ·obtain⟨b0,off,q1,_⟩:=(hx:Yd _ _ _ _ _ _).leaf rfl
  exact⟨a.eval x,by simp only[execOp,ho];rw[q1];rfl,.inr hx⟩
 ·obtain⟨caps,q1,_⟩:=(hx:Yd _ _ _ _ _ _).leaf rfl
  exact⟨a.eval x,by simp only[execOp,ho];rw[q1];rfl,.inr hx⟩
theorem Ygl.get {w:World} {M:Ya} {L:Nat→Src} {ρ:Yb}:∀ (i:Nat) {l u:TV} {vs:List Value},Ygl w M L ρ l vs→l.get (Yai i)=some u→
  ∃ v,vs[i]? = some v∧((∃ n,u=.dead n)∨VOk w M L ρ u v):=by
 intro i
 induction i with
 |zero=>
  intro l u vs h hg
  cases l with
  |pr a b=>
   cases vs with
   |nil=>exact h.elim
   |cons v vs=>
    simp only[Yai,TV.get,TV.get_nil,Option.some.injEq] at hg;subst hg;refine⟨v,rfl,?_⟩;rcases h.1 with e | e
    ·exact .inl ⟨_,e⟩
    ·cases a<;>first | exact .inr e | exact .inl ⟨_,rfl⟩ | exact absurd e.1.choose_spec.2 (fun x=>x.elim)
  |cl o t x=>
   cases t<;>simp only[Yai,TV.get] at hg<;>first | cases hg | skip
   cases vs<;>exact h.elim
  |_=>cases hg
 |succ i ih=>
  intro l u vs h hg
  cases l with
  |pr a b=>
   cases vs with
   |nil=>exact h.elim
   |cons v vs=>simp only[Yai,TV.get] at hg;exact ih h.2 hg
  |cl o t x=>
   cases t<;>simp only[Yai,TV.get] at hg<;>first | cases hg | skip
   cases vs<;>exact h.elim
  |_=>cases hg
theorem Yny {x:Operand} {i:Nat} (ho:o.op=.extract x i):PvS P tb g o:=by
 intro Z S C a w ht I hg b v h _;simp only[pv,ho] at h;replace h:=RD.bind_some h;obtain⟨vx,h1,h⟩:=h;have hx:=Yg I hg h1
 cases vx with
 |tup l=>
  simp only at h;obtain⟨vs,q1,q2⟩:=hx
  split at h
  ·rename_i u hu
   cases h;obtain⟨v',e1,e2⟩:=q2.get i hu;refine⟨v',?_,e2⟩;rw[Array.getElem?_toList] at e1;simp only[execOp,ho,q1,Instr.extract,Sem.run_bind,e1];rfl
  ·cases h
 |_=>cases h
theorem Ytd {op:UnOp} {t:TypeId} {x:Operand} (ho:o.op=.unOp op t x):PvS P tb g o:=by
 intro Z S C a w ht I hg b v h _;simp only[pv,ho] at h;replace h:=RD.bind_some h;obtain⟨vx,h1,h⟩:=h;have hx:=Yg I hg h1
 split at h
 ·rename_i o' b'
  cases h;have hx:=(hx:Yd _ _ _ _ _ _).bool
  exact⟨.bool (!b'),by simp[execOp,ho,hx,Op.unary],.inr (.Ybx _ _)⟩
 ·rename_i o' k n
  cases h;have hx:=(hx:Yd _ _ _ _ _ _).int;refine⟨.int k (k.wrap (0-n)),?_,.inr (.Ycb _ _ _)⟩;simp[execOp,ho,hx,Op.unary,Op.intArith]
 ·cases h
end
end Mf
namespace Mf
open Go
set_option linter.unusedVariables false
set_option linter.unusedSimpArgs false
section
variable {P:Program} {tb:Tb} {g:Gd} {o:Oper}
theorem Yr9:∀ x y,leB x y=Op.bytesLess x y
 |_,[]=>by simp[leB,Op.bytesLess]
 |[],_::_=>rfl
 |a::x,b::y=>by simp[leB,Op.bytesLess,Yr9 x y]
theorem Yt1 {c x y:Operand} (ho:o.op=.pick c x y):PvS P tb g o:=by
 intro Z S C a w ht I hg b v h _;simp only[pv,ho] at h
 cases c with
 |tmp u=>
  simp only[RD.run] at h
  split at h
  ·rename_i vc hvc
   have hI:=I.tm u vc hvc
   have go:∀ t:Bool,a.tmps.getD u undef=.bool t→∀ r:Value,(execOp a.eval o).run P w=.ok (.value (if t then a.eval x else a.eval y)) w:=by
    intro t ht _;have:a.eval (.tmp u)=.bool t:=ht;simp[execOp,ho,this,asBool]
   split at h
   ·have hb:a.tmps.getD u undef=.bool true:=hI
    replace h:=RD.bind_some h;obtain⟨vx,h1,h⟩:=h;cases h;exact⟨_,go true hb undef,.inr (Yg I (hg.cons hb) h1)⟩
   ·have hb:a.tmps.getD u undef=.bool false:=hI
    replace h:=RD.bind_some h;obtain⟨vx,h1,h⟩:=h;cases h;exact⟨_,go false hb undef,.inr (Yg I (hg.cons hb) h1)⟩
   ·replace h:=RD.bind_some h;obtain⟨vc',hc,h⟩:=h
    have hcs:=Yg I hg hc
    split at h
    ·rename_i o' t
     have hb:a.tmps.getD u undef=.bool t:=(hcs:Yd _ _ _ _ _ _).bool;replace h:=RD.bind_some h;obtain⟨va,h1,h⟩:=h;replace h:=RD.bind_some h;obtain⟨vb,h2,h⟩:=h;refine⟨_,go t hb undef,.inr ?_⟩
     cases t with
     |true=>
      have hv:=Yg I (hg.cons hb) h1
      split at h
      ·cases h;rw[(hv:Yd _ _ _ _ _ _).bool];exact .Ybx _ _
      ·split at h
       ·rename_i hk _;subst hk;cases h;rw[(hv:Yd _ _ _ _ _ _).int];exact .Ycb _ _ _
       ·cases h
      ·cases h
     |false=>
      have hv:=Yg I (hg.cons hb) h2
      split at h
      ·cases h;simp only[Bool.false_eq_true,if_false];rw[(hv:Yd _ _ _ _ _ _).bool];exact .Ybx _ _
      ·split at h
       ·rename_i hk _;subst hk;cases h;simp only[Bool.false_eq_true,if_false];rw[(hv:Yd _ _ _ _ _ _).int];exact .Ycb _ _ _
       ·cases h
      ·cases h
    ·cases h
  ·cases h
 |_=>cases h
theorem Ymo {fn:Fn} {first cap:Array Operand} (ho:o.op=.makeFunc fn first cap):PvS P tb g o:=by
 intro Z S C a w ht I hg b v h _;simp only[pv,ho] at h
 cases fn with
 |func f=>
  simp only at h
  split at h
  ·rename_i hf
   have hf0:first=#[]:=by cases first;simp at hf;rw[hf]
   subst hf0;replace h:=RD.bind_some h;obtain⟨c,h1,h⟩:=h;cases h
   refine⟨_,by simp[execOp,ho,Instr.makeFunc];rfl,.inr (Yd.Yah (v:=.clo f c) ⟨_,rfl,?_⟩)⟩
   rw[Array.toList_map];generalize cap.toList=l at h1;clear ho
   induction l generalizing c with
   |nil=>simp only[pv.caps] at h1;cases h1;trivial
   |cons x l ih=>
    simp only[pv.caps] at h1;replace h1:=RD.bind_some h1;obtain⟨v,h2,h1⟩:=h1;have hv:=Yg I hg h2
    split at h1
    ·replace h1:=RD.bind_some h1;obtain⟨c',h3,h1⟩:=h1
     cases h1;exact⟨(hv:Yd _ _ _ _ _ _).leaf rfl,ih c' h3⟩
    ·replace h1:=RD.bind_some h1;obtain⟨c',h3,h1⟩:=h1
     cases h1;exact⟨(hv:Yd _ _ _ _ _ _).leaf rfl,ih c' h3⟩
    ·cases h1
  ·cases h
 |_=>cases h
theorem Yb4 {S:St} {v:TV} {e:Ty} {xs:List e.El} {o:Ow} (h:(els v).run S=some (.mk e xs o)) :
  (∃ o',v=.cl o' (.sl e) xs∧o=.sh)∨(∃ r p R,v=.seg r p∧S.root r=some R∧R.tv.get p=some (.cl o (.sl e) xs))∨
  (∃ r p lo n R,∃ ys:List e.El,v=.sub r p lo n∧S.root r=some R∧R.tv.get p=some (.cl o (.sl e) ys)∧xs=(ys.drop lo).take n):=by
 cases v with
 |cl o' t x=>
  cases t with
  |sl e'=>cases h;exact .inl ⟨_,rfl,rfl⟩
  |_=>cases h
 |seg r p=>
  simp only[els] at h;replace h:=RD.bind_some h;obtain⟨v,h1,h⟩:=h;obtain⟨R,hR,hg⟩:=Ya2 h1
  cases v with
  |cl o' t x=>
   cases t with
   |sl e'=>cases h;exact .inr (.inl ⟨r,p,R,rfl,hR,hg⟩)
   |_=>cases h
  |_=>cases h
 |sub r p lo n=>
  simp only[els] at h;replace h:=RD.bind_some h;obtain⟨v,h1,h⟩:=h;obtain⟨R,hR,hg⟩:=Ya2 h1
  cases v with
  |cl o' t x=>
   cases t with
   |sl e'=>cases h;exact .inr (.inr ⟨r,p,lo,n,R,x,rfl,hR,hg,rfl⟩)
   |_=>cases h
  |_=>cases h
 |_=>cases h
variable {Z:W0} {S:St} {C:Cx} {a:Act} {w:World}
theorem Yd.sl {M:Ya} {L:Nat→Src} {ρ:Yb} {o:Ow} {e:Ty} {xs:List e.El} {u:Value} (h:Yd w M L ρ (.cl o (.sl e) xs) u):∃ A c,u=.slice A xs.length c:=by
 have h1:=h.cell0 rfl;obtain⟨A,c,h2,_⟩:=h.1;rw[h1] at h2;cases h2;exact⟨A,c,rfl⟩
theorem Yc7 (I:Inv Z S C a w) {r:Nat} {p:Path} {R:Root} {o:Ow} {e:Ty} {xs:List e.El} {u:Value} (h:Yi w (Mt Z C S.root noB) C.L S.root (.seg r p) u)
  (hR:S.root r=some R) (hg:R.tv.get p=some (.cl o (.sl e) xs)) :
  ∃ s A c F,nav w R.tv (C.L r) p=some s∧s.cell w 0=some (.slice A xs.length c)∧u=.slice A xs.length c∧Ye F (C.F r)∧Rep w (Mt Z C S.root noB) (.sl e) o xs s F:=by
 obtain⟨R',s,o',e',xs',h1,h2,h3,h4,_⟩:=h;rw[hR] at h1;cases h1
 obtain⟨F,hF,hr⟩:=focus p (I.str.rep r R hR) h2 hg
 obtain⟨A,c,q1,q2,q3⟩:=id (hr:Rep w _ (.sl e) o xs s F);rw[q1] at h4;cases h4;exact⟨s,A,c,F,h2,q1,rfl,hF,hr⟩
theorem Yed (I:Inv Z S C a w) {v:TV} {u:Value} {n:Nat} (hv:VOk w (Mt Z C S.root noB) C.L S.root v u) (h:(lenOf v).run S=some n) (hs:∀ o x,v≠.cl o .str x):∃ A c,u=.slice A n c:=by
 have viaEls:∀ v,((els v).bind fun | .mk _ xs _=>.ret xs.length).run S=some n→VOk w (Mt Z C S.root noB) C.L S.root v u→(∀ r p lo n,v≠.sub r p lo n)→∃ A c,u=.slice A n c:=by
  intro v h hv hns;replace h:=RD.bind_some h;obtain⟨⟨e,xs,o⟩,h1,h⟩:=h;cases h;rcases Yb4 h1 with ⟨o',rfl,rfl⟩ | ⟨r,p,R,rfl,hR,hg⟩ | ⟨r,p,lo,n,R,ys,rfl,_⟩
  ·exact(hv:Yd _ _ _ _ _ _).sl
  ·obtain⟨s,A,c,F,_,_,e1,_⟩:=Yc7 I ((hv:Yd _ _ _ _ _ _).leaf rfl) hR hg
   exact⟨A,c,e1⟩
  ·exact absurd rfl (hns r p lo n)
 cases v with
 |nl=>simp only[lenOf,RD.run] at h;cases h;obtain⟨A,e⟩:=(hv:Yd _ _ _ _ _ _).leaf rfl;exact⟨A,0,e⟩
 |sub r p lo n'=>
  simp only[lenOf,RD.run] at h;cases h
  obtain⟨_,_,_,_,_,_,_,_,A',c',_,_,_,_,e,_⟩:=(hv:Yd _ _ _ _ _ _).leaf rfl;exact⟨A',c',e⟩
 |cl o t x=>
  cases t with
  |str=>exact absurd rfl (hs o x)
  |_=>exact viaEls _ h hv (fun _ _ _ _=>by simp)
 |seg r p=>exact viaEls _ h hv (fun _ _ _ _=>by simp)
 |_=>cases h
theorem Yu4 {args:Array Operand} {ats:Array TypeId} (ho:o.op=.call ⟨.builtin .len,args,ats⟩):PvS P tb g o:=by
 intro Z S C a w ht I hg b v h _;simp only[pv,ho] at h
 split at h
 ·rename_i x t ts hargs hats
  replace h:=RD.bind_some h;obtain⟨vx,h1,h⟩:=h;replace h:=RD.bind_some h;obtain⟨i,h2,h⟩:=h;have hx:=Yg I hg h1;obtain⟨⟨d,hd,hdk,hda⟩,_⟩:=ht t i (Yp h2)
  have ha:args=#[x]:=by cases args;simp at hargs;rw[hargs]
  have hat:ats[0]? = some t:=by rw[←Array.getElem?_toList,hats];rfl
  subst ha
  have ex:∀ u,(Builtin.len_ ats o.type #[a.eval x]).run P w=.ok u w→(execOp a.eval o).run P w=.ok (.value u) w:=by
   intro u hu;simp[execOp,ho,resolve,invoke,builtin,hu]
  split at h
  ·have hid:i.d=.str:=by assumption
   cases h;rw[hid] at hdk;obtain⟨z,e1,e2⟩:=(hx:Yd _ _ _ _ _ _).str;obtain⟨rfl,_⟩:=hdk
   refine⟨.int .i64 (z.size:Int),ex _ (by simp[Builtin.len_,hat,e1,run_underlying hd,goInt]),.inr ?_⟩
   rw[←e2]
   have:(z.data.toList.length:Int)=z.size:=by simp
   rw[this];exact .Ycb _ _ _
  ·cases h
  ·cases h
  ·rename_i hid hns
   rw[hid] at hdk;obtain⟨rfl,_⟩:=hdk;replace h:=RD.bind_some h;obtain⟨n,h3,h⟩:=h;cases h;obtain⟨A,c,e1⟩:=Yed I hx h3 (fun o x e=>hns o x e)
   exact⟨.int .i64 n,ex _ (by simp[Builtin.len_,hat,e1,run_underlying hd,goInt]),.inr (.Ycb _ _ _)⟩
  ·cases h
 ·cases h
theorem Yux {args:Array Operand} {ats:Array TypeId} (ho:o.op=.call ⟨.builtin .min,args,ats⟩):PvS P tb g o:=by
 intro Z S C a w ht I hg b v h _;simp only[pv,ho] at h
 split at h
 ·rename_i x y hargs
  replace h:=RD.bind_some h;obtain⟨vx,h1,h⟩:=h;replace h:=RD.bind_some h;obtain⟨vy,h2,h⟩:=h;have hx:=Yg I hg h1;have hy:=Yg I hg h2
  have ha:args=#[x,y]:=by cases args;simp at hargs;rw[hargs]
  subst ha
  split at h
  ·rename_i o' k m o'' k' n
   cases h;have e1:=(hx:Yd _ _ _ _ _ _).int;have e2:=(hy:Yd _ _ _ _ _ _).int
   refine⟨.int k (if n<m then n else m),?_,.inr ?_⟩
   ·simp[execOp,ho,resolve,invoke,builtin,Builtin.min_,e1,e2,Builtin.min2]
   ·rw[show(if n<m then n else m)=cond (decide (n<m)) n m by by_cases h:n<m<;>simp[h]];exact .Ycb _ _ _
  ·cases h
 ·cases h
theorem Yuu {args:Array Operand} {ats:Array TypeId} (ho:o.op=.call ⟨.builtin .max,args,ats⟩):PvS P tb g o:=by
 intro Z S C a w ht I hg b v h _;simp only[pv,ho] at h
 split at h
 ·rename_i x y hargs
  replace h:=RD.bind_some h;obtain⟨vx,h1,h⟩:=h;replace h:=RD.bind_some h;obtain⟨vy,h2,h⟩:=h;have hx:=Yg I hg h1;have hy:=Yg I hg h2
  have ha:args=#[x,y]:=by cases args;simp at hargs;rw[hargs]
  subst ha
  split at h
  ·rename_i o' k m o'' k' n
   cases h;have e1:=(hx:Yd _ _ _ _ _ _).int;have e2:=(hy:Yd _ _ _ _ _ _).int
   refine⟨.int k (if n>m then n else m),?_,.inr ?_⟩
   ·simp[execOp,ho,resolve,invoke,builtin,Builtin.max_,e1,e2,Builtin.max2]
   ·rw[show(if n>m then n else m)=cond (decide (n>m)) n m by by_cases h:n>m<;>simp[h]];exact .Ycb _ _ _
  ·cases h
 ·cases h
end
end Mf
namespace Mf
open Go
set_option linter.unusedVariables false
set_option linter.unusedSimpArgs false
section
variable {P:Program} {tb:Tb} {g:Gd} {o:Oper}
def Ytx (P:Program) (op:BinOp) (t:TypeId) (x y:Operand) (va vb:TV):Prop:=∀ (w:World) (M:Ya) (L:Nat→Src) (ρ:Yb) (a:Act) (S:St) (b:Option Bool) (v:TV) (o:Oper),
 VOk w M L ρ va (a.eval x)→VOk w M L ρ vb (a.eval y)→(bin op va vb).run S=some (b,v)→b≠some false→
 ∃ u,(do eqGuard op t x y (a.eval x) (a.eval y);binOp op t (a.eval x) (a.eval y):Sem Value).run P w=.ok u w∧VOk w M L ρ v u
theorem Ys7 (op:BinOp) (t:TypeId) (x y:Operand) (ox oy:Ow) (kx ky:IntKind) (m n:Int):Ytx P op t x y (.cl ox (.int kx) m) (.cl oy (.int ky) n):=by
 intro w M L ρ a S b v o' hx hy h hb;have e1:=(hx:Yd _ _ _ _ _ _).int;have e2:=(hy:Yd _ _ _ _ _ _).int
 have gd:(eqGuard op t x y (.int kx m) (.int ky n)).run P w=.ok () w:=by
  unfold eqGuard;split<;>rfl
 rw[e1,e2];simp only[Sem.run_bind,gd,Result.andThen_ok]
 cases op<;>simp only[bin] at h
 case shl=>
  cases h
  have:0≤n:=by
   rcases Int.lt_or_le n 0 with h | h
   ·exact absurd (by simp;exact h) hb
   ·exact h
  refine⟨_,?_,.Ycb _ _ _⟩
  simp[binOp,Op.shift,show ¬ n<0 by omega]
 case shr=>
  cases h
  have:0≤n:=by
   rcases Int.lt_or_le n 0 with h | h
   ·exact absurd (by simp;exact h) hb
   ·exact h
  refine⟨_,?_,.Ycb _ _ _⟩
  simp[binOp,Op.shift,show ¬ n<0 by omega]
 all_goals (
  split at h
  ·rename_i hk _
   subst hk;simp only[Ywg,RD.run] at h
   first
   |(cases h;done)
   |(cases h;refine⟨_,?_,.Ycb _ _ _⟩;simp[binOp,Op.intArith];done)
   |(cases h;refine⟨_,?_,.Ybx _ _⟩;simp[binOp,Op.intCmp];done)
   |(cases h
     have hn:n≠0:=by
      rintro rfl;exact hb rfl
     refine⟨_,?_,.Ycb _ _ _⟩;simp[binOp,Op.intDiv,hn];done)
  ·cases h)
theorem Ytc (op:BinOp) (t:TypeId) (x y:Operand) (ox oy:Ow) (l m:List UInt8):Ytx P op t x y (.cl ox .str l) (.cl oy .str m):=by
 intro w M L ρ a S b v o' hx hy h hb;obtain⟨z1,e1,f1⟩:=(hx:Yd _ _ _ _ _ _).str;obtain⟨z2,e2,f2⟩:=(hy:Yd _ _ _ _ _ _).str
 have gd:(eqGuard op t x y (.string z1) (.string z2)).run P w=.ok () w:=by
  unfold eqGuard;split<;>rfl
 rw[e1,e2];simp only[Sem.run_bind,gd,Result.andThen_ok]
 have t1:z1.toList=l:=by rw[ByteArray.toList_eq,f1]
 have t2:z2.toList=m:=by rw[ByteArray.toList_eq,f2]
 cases op<;>simp only[bin,Ywe] at h
 case add=>
  cases h
  have hl:l.length+m.length≤2147483648:=by
   rcases Nat.lt_or_ge 2147483648 (l.length+m.length) with h | h
   ·exact absurd (by simp;exact h) hb
   ·exact h
  have s1:z1.size=l.length:=by rw[←f1];simp
  have s2:z2.size=m.length:=by rw[←f2];simp
  have hm:IntKind.i64.max=9223372036854775807:=by decide
  refine⟨.string (z1++z2),?_,?_⟩
  ·have:¬ (((z1.size+z2.size:Nat):Int)>IntKind.i64.max):=by rw[hm,s1,s2];omega
   simp[binOp,Op.stringOp];omega
  ·have:l++m=(z1++z2).data.toList:=by rw[ByteArray.data_append,Array.toList_append,f1,f2]
   rw[this];exact .Yno _ _
 all_goals first
  |(cases h;done)
  |(cases h;refine⟨_,?_,.Ybx _ _⟩;simp[binOp,Op.stringOp,t1,t2,Yr9])
theorem Yrf (op:BinOp) (t:TypeId) (x y:Operand) (ox oy:Ow) (l m:Bool) (ht:P.underlying t=some .bool):Ytx P op t x y (.cl ox .bool l) (.cl oy .bool m):=by
 intro w M L ρ a S b v o' hx hy h hb;have e1:=(hx:Yd _ _ _ _ _ _).bool;have e2:=(hy:Yd _ _ _ _ _ _).bool
 have gd:(eqGuard op t x y (.bool l) (.bool m)).run P w=.ok () w:=by
  unfold eqGuard;split<;>rfl
 rw[e1,e2];simp only[Sem.run_bind,gd,Result.andThen_ok];have he:(Op.equal t (.bool l) (.bool m)).run P w=.ok (l == m) w:=run_equalIn_bool' w 9999 t l m ht
 cases op<;>simp only[bin] at h
 case eql=>
  cases h;refine⟨_,?_,.Ybx _ _⟩
  show(do pure (.bool (← Op.equal t (.bool l) (.bool m))):Sem Value).run P w=_
  simp only[Sem.run_bind,he,Result.andThen_ok];rfl
 case neq=>
  cases h;refine⟨_,?_,.Ybx _ _⟩
  show(do pure (.bool (!(← Op.equal t (.bool l) (.bool m)))):Sem Value).run P w=_
  simp only[Sem.run_bind,he,Result.andThen_ok];rfl
 all_goals cases h
theorem Yco {w:World} {t:TypeId} {d:TypeDesc} {cs:Array Value} {off:Nat} {v:Value} (h:P.underlying t=some d) (hd:d.isRow=false) (hc:cs[off]? = some v):(part t cs off).run P w=.ok v w:=by
 simp only[part,isAgg,Sem.run_bind,run_underlying h,Result.andThen_ok]
 cases d<;>simp[hc,TypeDesc.isRow] at hd ⊢
theorem Ydp {w:World} {xs:Array Value} {k:Nat} {v:Value} (h:(Src.reg xs.toList k).cell w 0=some v):xs[k]? = some v:=by
 have:xs.toList[k+0]? = some v:=h
 simpa using this
theorem Ymr (w:World) (d:Nat):∀ (t:Ty) (k:Nat) (fs:List Field),Yix t=true→Yh1 P t k fs=true→∀ (x y:t.El) (xs ys:Array Value) (M1 M2 F1 F2:Ya) (o1 o2:Ow),
  Rep w M1 t o1 x (.reg xs.toList k) F1→Rep w M2 t o2 y (.reg ys.toList k) F2→(Op.eqFields (d+1) xs ys fs).run P w=.ok (eqV t t x y) w:=by
 intro t
 induction t with
 |unit=>
  intro k fs hf h x y xs ys M1 M2 F1 F2 o1 o2 h1 h2
  cases fs with
  |nil=>rfl
  |cons f fs=>cases h
 |pair a b iha ihb=>
  intro k fs hf h x y xs ys M1 M2 F1 F2 o1 o2 h1 h2
  cases fs with
  |nil=>cases h
  |cons f fs=>
   simp only[Yix,Bool.and_eq_true] at hf;simp only[Yh1,Bool.and_eq_true] at h;obtain⟨p1,p2,r1,r2,_⟩:=h1;obtain⟨q1,q2,s1,s2,_⟩:=h2
   have hs:a.size=1:=by cases a<;>first | rfl | (simp[Yt6] at hf)
   have r2':Rep w M1 b o1 x.2 (.reg xs.toList (k+1)) p2:=by rw[hs] at r2;exact r2
   have s2':Rep w M2 b o2 y.2 (.reg ys.toList (k+1)) q2:=by rw[hs] at s2;exact s2
   have ih:=ihb (k+1) fs hf.2 h.2 x.2 y.2 xs ys M1 M2 p2 q2 o1 o2 r2' s2';have hfl:=h.1;simp only[Yvw,Bool.and_eq_true,Bool.not_eq_true',beq_eq_false_iff_ne,Nat.beq_eq] at hfl;obtain⟨hn,ho,hl⟩:=hfl
   have key:∃ u v,(part f.type xs f.offset).run P w=.ok u w∧(part f.type ys f.offset).run P w=.ok v w∧(Op.equalIn (d+1) f.type u v).run P w=.ok (eqV a a x.1 y.1) w:=by
    rw[ho]
    split at hl
    ·rename_i l m hu
     rw[decide_eq_true_eq] at hl;subst hl;exact⟨_,_,Yco hu rfl (Ydp r1),Yco hu rfl (Ydp s1),run_equalIn_int w d f.type _ l _ _ hu⟩
    ·rename_i hu
     exact⟨_,_,Yco hu rfl (Ydp r1),Yco hu rfl (Ydp s1),run_equalIn_bool' w d f.type _ _ hu⟩
    ·rename_i hu
     obtain⟨z1,t1,t2⟩:=r1;obtain⟨z2,t3,t4⟩:=s1;refine⟨_,_,Yco hu rfl (Ydp t1),Yco hu rfl (Ydp t3),?_⟩;rw[run_equalIn_string w d f.type z1 z2 hu];show Result.ok (z1.toList == z2.toList) w=.ok (Yv9 _ _) w;rw[ByteArray.toList_eq,ByteArray.toList_eq,t2,t4];rfl
    ·cases hl
   obtain⟨u,v,k1,k2,k3⟩:=key;simp only[Op.eqFields,if_pos hn,Sem.run_bind,k1,k2,k3,Result.andThen_ok,Sem.run_ite,ih,Sem.run_pure,eqV]
   cases eqV a a x.1 y.1<;>rfl
 |_=>intro k fs hf;cases hf
theorem Ysh (op:BinOp) (t:TypeId) (x y:Operand) (ht:Yag P tb) {i:Ydn} (hi:lk t tb=some i) {offs:List Nat} (hd:i.d=.st offs) (hff:(Yix i.ty&&Nat.beq i.bytes 0)=true) {w:World} {M:Ya} {L:Nat→Src} {ρ:Yb} {ox oy:Ow} {l m:i.ty.El} {ux uy:Value}
  (hx:Yd w M L ρ (.cl ox i.ty l) ux) (hy:Yd w M L ρ (.cl oy i.ty m) uy) {S:St} {b:Option Bool} {v:TV} (h:(Yu8 op (eqV i.ty i.ty l m)).run S=some (b,v)) :
  ∃ u,(do eqGuard op t x y ux uy;binOp op t ux uy:Sem Value).run P w=.ok u w∧VOk w M L ρ v u:=by
 have hf:Yix i.ty=true:=by simp only[Bool.and_eq_true] at hff;exact hff.1
 obtain⟨⟨d,hu,hdk,_⟩,_⟩:=ht t i hi;have he:=ht.eq t i hi;rw[hd] at hdk;obtain⟨fs,rfl,hag,_⟩:=hdk;simp only[EqB,hd,hff,Bool.and_eq_true,Bool.not_eq_true'] at he;obtain⟨e1,e2,e3⟩:=he
 have hfs:P.underlying t=some (.struct (P.fieldsOf t)):=by rw[hu];simp only[Program.fieldsOf,hu]
 obtain⟨xs,rfl⟩:=hx.2.2.1 hag;obtain⟨ys,rfl⟩:=hy.2.2.1 hag
 have heq:(Op.equalIn 10000 t (.agg xs) (.agg ys)).run P w=.ok (eqV i.ty i.ty l m) w:=by
  rw[run_equalIn_struct w 9999 t xs ys hfs e1];exact Ymr w 9998 i.ty 0 _ hf e3 l m xs ys _ _ _ _ _ _ hx.1 hy.1
 simp only[Sem.run_bind,run_eqGuard_agg w op t x y xs ys e2,Result.andThen_ok]
 cases op<;>simp only[Yu8] at h
 case eql=>cases h;exact⟨_,by rw[run_eql_struct,heq];rfl,.Ybx _ _⟩
 case neq=>cases h;exact⟨_,by rw[run_neq_struct,heq];rfl,.Ybx _ _⟩
 all_goals cases h
theorem Ysn {op:BinOp} {t yt:TypeId} {x y:Operand} (ho:o.op=.binOp op t x y yt):PvS P tb g o:=by
 intro Z S C a w ht I hg b v h hb;simp only[pv,ho] at h;replace h:=RD.bind_some h;obtain⟨va,h1,h⟩:=h;replace h:=RD.bind_some h;obtain⟨vb,h2,h⟩:=h;have hx:=Yg I hg h1;have hy:=Yg I hg h2
 have fin:Ytx P op t x y va vb→(bin op va vb).run S=some (b,v)→∃ u,(execOp a.eval o).run P w=.ok (.value u) w∧((∃ n,v=.dead n)∨VOk w (Mt Z C S.root noB) C.L S.root v u):=by
  intro hB h;obtain⟨u,hu,hv⟩:=hB w _ _ _ a S b v o hx hy h hb;refine⟨u,?_,.inr hv⟩;simp only[execOp,ho,Sem.run_bind] at hu ⊢;rw[hu];rfl
 cases va with
 |cl oa ta xa=>
  cases ta with
  |bool=>
   simp only at h;replace h:=RD.bind_some h;obtain⟨i,h3,h⟩:=h;obtain⟨⟨d,hd,hdk,hda⟩,_⟩:=ht t i (Yp h3)
   split at h
   ·have hid:i.d=.bool:=by assumption
    rw[hid] at hdk;obtain⟨rfl,_⟩:=hdk
    cases vb with
    |cl ob tb' xb=>cases tb'<;>first | exact fin (Yrf op t x y _ _ _ _ hd) h | (simp only[bin] at h;cases h)
    |_=>simp only[bin] at h;cases h
   ·cases h
  |pair p q=>
   simp only at h;replace h:=RD.bind_some h;obtain⟨i,h3,h⟩:=h
   split at h
   ·rename_i offs ob ty xb hid
    split at h
    ·rename_i e1 e2 _ _ hfl
     obtain⟨id,ity,ib⟩:=i;simp only at e1 e2 hid hfl;subst e1;subst e2;obtain⟨u,hu,hv⟩:=Ysh op t x y ht (Yp h3) hid hfl hx hy h;refine⟨u,?_,.inr hv⟩;simp only[execOp,ho,Sem.run_bind] at hu ⊢;rw[hu];rfl
    ·cases h
   ·cases h
  |int k=>
   simp only at h
   cases vb with
   |cl ob tb' xb=>cases tb'<;>first | exact fin (Ys7 op t x y _ _ _ _ _ _) h | (simp only[bin] at h;cases h)
   |_=>simp only[bin] at h;cases h
  |str=>
   simp only at h
   cases vb with
   |cl ob tb' xb=>cases tb'<;>first | exact fin (Ytc op t x y _ _ _ _) h | (simp only[bin] at h;cases h)
   |_=>simp only[bin] at h;cases h
  |_=>simp only[bin] at h;cases h
 |_=>simp only[bin] at h;cases h
theorem Yfo {w:World} {b off n:Nat} {xs:List Int} (k:IntKind) (hl:xs.length=n) (h:∀ i (hi:i<xs.length),w.cell? ⟨b,off+i,none⟩=some (.int k (xs[i]'hi))) :
  (loadCells ⟨b,off,none⟩ n).run P w=.ok (xs.map (Value.int k)).toArray w:=by
 have:=run_loadCells_list (P:=P) w ⟨b,off,none⟩ (xs.map (Value.int k)) (fun j v hv=>by
  rw[Addr.add_mid];rw[List.getElem?_map] at hv;rcases Nat.lt_or_ge j xs.length with hj | hj
  ·rw[List.getElem?_eq_getElem hj] at hv;cases hv;exact h j hj
  ·rw[List.getElem?_eq_none hj] at hv;cases hv)
 rw[List.length_map,hl] at this;exact this
theorem Yhh:∀ (l:List Int) (r:ByteArray),(l.foldl (fun r n=>r.push (UInt8.ofNat n.toNat)) r).data.toList=r.data.toList++l.map (fun n=>UInt8.ofNat n.toNat)
 |[],r=>by simp
 |n::l,r=>by rw[List.foldl_cons,Yhh l];simp[ByteArray.push]
theorem Yv8 {w:World} {M:Ya} {o:Ow} {k:IntKind} {xs:List Int} {s:Src} {F:Ya} {A:Option Addr} {c:Nat} (h:Rep w M (.sl (.int k)) o xs s F)
  (hc:s.cell w 0=some (.slice A xs.length c)):xs≠[]→∃ b off,A=some ⟨b,off,none⟩∧∀ i (hi:i<xs.length),w.cell? ⟨b,off+i,none⟩=some (.int k (xs[i]'hi)):=by
 intro hne;obtain⟨A',c',h1,h2,h3⟩:=h;rw[hc] at h1;cases h1;have hl:0<xs.length:=List.length_pos_iff.2 hne
 have own:(c≠0→∃ b off,∃ Fs:Nat→Ya,A=some ⟨b,off,none⟩∧F b∧Room w b off (c*(Ty.int k).size)∧
   (∀ i (h:i<xs.length),Rep w M (.int k) o.elem (xs[i]'h) (.mem b (off+i*(Ty.int k).size)) (Fs i)∧Ye (Fs i) F∧¬ Fs i b)∧(∀ i j,i<j→j<xs.length→Dis (Fs i) (Fs j)))→
   ∃ b off,A=some ⟨b,off,none⟩∧∀ i (hi:i<xs.length),w.cell? ⟨b,off+i,none⟩=some (.int k (xs[i]'hi)):=by
  intro h3
  obtain⟨b,off,Fs,q1,_,_,q2,_⟩:=h3 (by omega)
  refine⟨b,off,q1,fun i hi=>?_⟩;have:=(q2 i hi).1
  simpa [Rep,Src.cell,Ty.size] using this
 cases o with
 |sh=>
  obtain⟨b,off,q1,_,_,q2⟩:=h3 hne;refine⟨b,off,q1,fun i hi=>?_⟩;have:=q2 i hi
  simpa [Rep,Src.cell,Ty.size] using this
 |top=>exact own h3
 |deep=>exact own h3
end
end Mf
namespace Mf
open Go
set_option linter.unusedVariables false
set_option linter.unusedSimpArgs false
section
variable {P:Program} {tb:Tb} {g:Gd} {o:Oper}
variable {Z:W0} {S:St} {C:Cx} {a:Act} {w:World}
def Ow.Yxl:Ow→Bool | .sh=>true | _=>false
def TV.Yut:TV→Bool | .cl _ _ _=>true | _=>false
def Yk1 (w:World) (M:Ya) (e:Ty) (sh:Bool) (xs:List e.El) (A:Option Addr):Prop:=
 xs≠[]→∃ b off,A=some ⟨b,off,none⟩∧(sh=true→¬ M b∧b<w.heap.size)∧
  ∀ i (hi:i<xs.length),∃ F o',Rep w M e o' (xs[i]'hi) (.mem b (off+i*e.size)) F∧(sh=true→o'=.sh)
theorem Rep.row {M:Ya} {e:Ty} {o:Ow} {xs:List e.El} {s:Src} {F:Ya} (h:Rep w M (.sl e) o xs s F):∃ A c,s.cell w 0=some (.slice A xs.length c)∧xs.length≤c∧Yk1 w M e o.Yxl xs A:=by
 obtain⟨A,c,h1,h2,h3⟩:=h;refine⟨A,c,h1,h2,fun hne=>?_⟩;have hl:0<xs.length:=List.length_pos_iff.2 hne
 cases o with
 |sh=>
  obtain⟨b,off,q1,q2,q3,q4⟩:=h3 hne
  exact⟨b,off,q1,fun _=>⟨q2,q3⟩,fun i hi=>⟨noB,.sh,q4 i hi,fun _=>rfl⟩⟩
 |top=>
  obtain⟨b,off,Fs,q1,_,_,q4,_⟩:=h3 (by omega)
  exact⟨b,off,q1,fun h=>(by cases h),fun i hi=>⟨_,_,(q4 i hi).1,fun h=>(by cases h)⟩⟩
 |deep=>
  obtain⟨b,off,Fs,q1,_,_,q4,_⟩:=h3 (by omega)
  exact⟨b,off,q1,fun h=>(by cases h),fun i hi=>⟨_,_,(q4 i hi).1,fun h=>(by cases h)⟩⟩
theorem Yf6 (I:Inv Z S C a w) {v:TV} {u:Value} {e:Ty} {xs:List e.El} {o:Ow} (hv:VOk w (Mt Z C S.root noB) C.L S.root v u) (h:(els v).run S=some (.mk e xs o)) :
  ∃ A c,u=.slice A xs.length c∧xs.length≤c∧Yk1 w (Mt Z C S.root noB) e v.Yut xs A:=by
 rcases Yb4 h with ⟨o',rfl,rfl⟩ | ⟨r,p,R,rfl,hR,hg⟩ | ⟨r,p,lo,n,R,ys,rfl,hR,hg,rfl⟩
 ·have hv:=(hv:Yd _ _ _ _ _ _)
  obtain⟨A,c,h1,h2,h3⟩:=Rep.row hv.1;have h0:=hv.cell0 rfl;rw[h1] at h0;cases h0;refine⟨A,c,rfl,h2,fun hne=>?_⟩
  cases o' with
  |sh=>exact h3 hne
  |top=>
   obtain⟨A',c',q1,q2,q3⟩:=hv.1;rw[h1] at q1;cases q1;have hl:0<xs.length:=List.length_pos_iff.2 hne
   obtain⟨_,_,_,_,q,_⟩:=q3 (by omega);exact q.elim
  |deep=>
   obtain⟨A',c',q1,q2,q3⟩:=hv.1;rw[h1] at q1;cases q1;have hl:0<xs.length:=List.length_pos_iff.2 hne
   obtain⟨_,_,_,_,q,_⟩:=q3 (by omega);exact q.elim
 ·obtain⟨s,A,c,F,e1,e2,e3,e4,e5⟩:=Yc7 I ((hv:Yd _ _ _ _ _ _).leaf rfl) hR hg
  obtain⟨A',c',h1,h2,h3⟩:=Rep.row e5;rw[e2] at h1;cases h1;refine⟨A,c,e3,h2,fun hne=>?_⟩;obtain⟨b,off,q1,q2,q3⟩:=h3 hne
  exact⟨b,off,q1,fun h=>(by cases h),fun i hi=>by obtain⟨F,o',q,_⟩:=q3 i hi;exact⟨F,o',q,fun h=>(by cases h)⟩⟩
 ·obtain⟨R',s,o2,e',xs',A,len,c,A',c',h1,h2,h3,h4,h5,h6,h7,h8,h9⟩:=(hv:Yd _ _ _ _ _ _).leaf rfl
  rw[hR] at h1;cases h1;rw[Yeb hg] at h3;cases h3
  obtain⟨F,hF,hr⟩:=focus p (I.str.rep r R hR) h2 hg
  obtain⟨A2,c2,k1,k2,k3⟩:=Rep.row (hr:Rep w _ (.sl e) o ys s F);rw[h4] at k1;cases k1
  have hlen:((ys.drop lo).take n).length=n:=by simp;omega
  refine⟨A',c',by rw[hlen];exact h5,by rw[hlen];exact h7,fun hne=>?_⟩
  have hn:0<n:=by rw[←hlen];exact List.length_pos_iff.2 hne
  obtain⟨b,off,q1,q2,q3⟩:=k3 (by intro h0;subst h0;simp at h6;omega)
  refine⟨b,off+lo*e.size,by rw[h9 (by omega),q1];simp[Addr.add_mid],fun h=>(by cases h),fun i hi=>?_⟩
  obtain⟨F,o',q,_⟩:=q3 (lo+i) (by omega)
  refine⟨F,o',?_,fun h=>(by cases h)⟩
  simp only[List.getElem_take,List.getElem_drop]
  rw[show off+lo*e.size+i*e.size=off+(lo+i)*e.size by rw[Nat.add_mul];omega]
  exact q
theorem Yoy {src dst:TypeId} {x:Operand} (ho:o.op=.convert src dst x):PvS P tb g o:=by
 intro Z S C a w ht I hg b v h _;simp only[pv,ho] at h;replace h:=RD.bind_some h;obtain⟨vx,h1,h⟩:=h;replace h:=RD.bind_some h;obtain⟨sd,h2,h⟩:=h;replace h:=RD.bind_some h;obtain⟨dd,h3,h⟩:=h;have hx:=Yg I hg h1;obtain⟨⟨ds,hds,hsk,_⟩,_⟩:=ht src sd (Yp h2);obtain⟨⟨d,hd,hdk,_⟩,_⟩:=ht dst dd (Yp h3)
 have ex:∀ u,(convert src dst (a.eval x)).run P w=.ok u w→(execOp a.eval o).run P w=.ok (.value u) w:=by
  intro u hu;simp[execOp,ho,hu]
 split at h
 ·rename_i k o' k' n hid
  have hid:dd.d=.int k:=by assumption
  rw[hid] at hdk;obtain⟨rfl,_⟩:=hdk;cases h;rw[(hx:Yd _ _ _ _ _ _).int] at ex;refine⟨.int k (k.wrap n),ex _ ?_,.inr (.Ycb _ _ _)⟩;simp[convert,run_underlying hds,run_underlying hd,Conv.intToInt]
 ·have hid:dd.d=.str:=by assumption
  rw[hid] at hdk;obtain⟨rfl,_⟩:=hdk
  split at h
  ·have hid:sd.d=.str:=by assumption
   rw[hid] at hsk;obtain⟨rfl,_⟩:=hsk;cases h;obtain⟨z,e1,e2⟩:=(hx:Yd _ _ _ _ _ _).str;rw[e1] at ex;refine⟨.string z,ex _ ?_,.inr ?_⟩
   ·simp[convert,run_underlying hds,run_underlying hd]
   ·rw[←e2];exact .Yno _ _
  ·cases h
 ·have hid:dd.d=.str:=by assumption
  rw[hid] at hdk;obtain⟨rfl,_⟩:=hdk
  split at h
  ·rename_i e _
   have hid:sd.d=.sl e:=by assumption
   rw[hid] at hsk
   split at h
   ·have hty:sd.ty=.sl (.int .u8):=by assumption
    replace h:=RD.bind_some h;obtain⟨⟨e',xs,o'⟩,h4,h⟩:=h
    split at h
    ·rename_i xs o'' heq
     cases heq;cases h;obtain⟨A,c,e1,e2,e3⟩:=Yf6 I hx h4;obtain⟨rfl,te,i,q1,q2,q3,q4,q5,_⟩:=hsk;rw[hty] at q1;cases q1;have he:=q5 .u8 rfl;rw[e1] at ex
     have hlist:∀ xs:List Int,(xs.foldl (fun r n=>r.push (UInt8.ofNat n.toNat)) ByteArray.empty).data.toList=xs.map (fun n=>UInt8.ofNat n.toNat):=by
      intro xs;rw[Yhh];simp
     refine⟨.string (xs.foldl (fun r n=>r.push (UInt8.ofNat n.toNat)) ByteArray.empty),ex _ ?_,.inr (by rw[←hlist];exact .Yno _ _)⟩
     cases hA:A with
     |none=>
      have hx0:xs=[]:=by
       rcases Classical.em (xs=[]) with h | h
       ·exact h
       ·obtain⟨b,off,q,_⟩:=e3 h;rw[hA] at q;cases q
      subst hx0;simp only[convert,run_underlying hds,run_underlying hd,run_underlying he,Sem.run_bind,Result.andThen_ok]
      rfl
     |some ad=>
      have hl:(loadCells ad xs.length).run P w=.ok (xs.map (Value.int .u8)).toArray w:=by
       rcases Classical.em (xs=[]) with h | h
       ·subst h;rfl
       ·obtain⟨b,off,q,_,q'⟩:=e3 h
        rw[hA] at q;cases q;refine Yfo .u8 rfl (fun i hi=>?_);obtain⟨F,o',hr,_⟩:=q' i hi
        simpa [Rep,Src.cell,Ty.size] using hr
      have:=run_bytesToString (P:=P) w ad xs.length c xs hl;simp only[convert,run_underlying hds,run_underlying hd,run_underlying he,Sem.run_bind,Result.andThen_ok];exact this
    ·cases h
   ·cases h
  ·cases h
 ·cases h
theorem Yce {n:Int} {len:Nat}:inB n len=true↔0≤n∧n<len:=by simp[inB]
theorem Yae {b:Bool} (h:(some b:Option Bool)≠some false):b=true:=by cases b<;>first | rfl | exact absurd rfl h
theorem Yr3 {t:TypeId} {x ix:Operand} (ho:o.op=.index t x ix):PvS P tb g o:=by
 intro Z S C a w ht I hg b v h hb;simp only[pv,ho] at h;replace h:=RD.bind_some h;obtain⟨vx,h1,h⟩:=h;replace h:=RD.bind_some h;obtain⟨vi,h2,h⟩:=h;replace h:=RD.bind_some h;obtain⟨ti,h3,h⟩:=h;have hx:=Yg I hg h1;have hi:=Yg I hg h2;obtain⟨⟨d,hd,hdk,_⟩,_⟩:=ht t ti (Yp h3)
 have ex:∀ u,(Instr.index t (a.eval x) (a.eval ix)).run P w=.ok u w→(execOp a.eval o).run P w=.ok (.value u) w:=by
  intro u hu;simp[execOp,ho,hu]
 split at h
 ·rename_i ol l oi k n _
  have hid:ti.d=.str:=by assumption
  rw[hid] at hdk;obtain⟨rfl,_⟩:=hdk;cases h;obtain⟨h0,hlt⟩:=Yce.1 (Yae hb);obtain⟨z,e1,e2⟩:=(hx:Yd _ _ _ _ _ _).str;have e3:=(hi:Yd _ _ _ _ _ _).int;rw[e1,e3] at ex
  have hz:n.toNat<z.size:=by
   have:z.size=l.length:=by rw[←e2];simp
   omega
  refine⟨.int .u8 ((l.getD n.toNat 0).toNat:Int),ex _ ?_,.inr (.Ycb _ _ _)⟩
  have hge:z[n.toNat]? = some (l.getD n.toNat 0):=by
   rw[getElem?_pos z n.toNat hz,←e2]
   congr 1
   rw[Yn _ _ _ (by simpa using hz)]
   simp[ByteArray.getElem_eq_getElem_data]
  simp[Instr.index,run_underlying hd,asIntOf,h0,hge]
 ·rename_i m ol m' e l oi k n _
  have hid:∃ m e',ti.d=.arr m e':=⟨_,_,by assumption⟩
  obtain⟨mm,ee,hid⟩:=hid;rw[hid] at hdk;obtain⟨rfl,te,j,q1,q2,q3,de,q4,q5⟩:=hdk;have e3:=(hi:Yd _ _ _ _ _ _).int
  split at h
  ·rename_i hty _
   rw[q1] at hty;cases hty;have hx':=(hx:Yd _ _ _ _ _ _);obtain⟨cs,hu⟩:=hx'.2.2.1 rfl;obtain⟨hlen,Fs,hF,_⟩:=hx'.1
   split at h
   ·rename_i kk l _ _ _ _
    cases h;obtain⟨h0,hlt⟩:=Yce.1 (Yae hb)
    have hc:=(hF n.toNat (by omega)).1
    have hagg:de.isRow=false:=by
     cases hh:de.isRow with
     |false=>rfl
     |true=>exact absurd (q5.2 hh) (by simp[Ty.isAgg])
    rw[hu] at hc
    have hc':cs[n.toNat]? = some (.int kk (l[n.toNat]'(by omega))):=by
     have:(Src.reg cs.toList 0).cell w (n.toNat*1+0)=some (.int kk (l[n.toNat]'(by omega))):=by rw[←Src.Yj];exact hc
     simpa [Src.cell,Value.cells] using this
    rw[hu,e3] at ex;refine⟨.int kk (l.getD n.toNat (Ty.int kk).zero),ex _ ?_,.inr (.Ycb _ _ _)⟩
    rw[Yn _ _ _ (by omega:n.toNat<l.length)]
    simp[Instr.index,run_underlying hd,asIntOf,h0,hlt,part,Ycs q4,hagg,Y1 q2,q3,Ty.size,hc']
   ·rename_i l _ _ _ _
    cases h;obtain⟨h0,hlt⟩:=Yce.1 (Yae hb)
    have hc:=(hF n.toNat (by omega)).1
    have hagg:de.isRow=false:=by
     cases hh:de.isRow with
     |false=>rfl
     |true=>exact absurd (q5.2 hh) (by simp[Ty.isAgg])
    rw[hu] at hc
    have hc':cs[n.toNat]? = some (.bool (l[n.toNat]'(by omega))):=by
     have:(Src.reg cs.toList 0).cell w (n.toNat*1+0)=some (.bool (l[n.toNat]'(by omega))):=by rw[←Src.Yj];exact hc
     simpa [Src.cell,Value.cells] using this
    rw[hu,e3] at ex;refine⟨.bool (l.getD n.toNat Ty.bool.zero),ex _ ?_,.inr (.Ybx _ _)⟩
    rw[Yn _ _ _ (by omega:n.toNat<l.length)]
    simp[Instr.index,run_underlying hd,asIntOf,h0,hlt,part,Ycs q4,hagg,Y1 q2,q3,Ty.size,hc']
   ·cases h
  ·cases h
 ·cases h
end
end Mf
