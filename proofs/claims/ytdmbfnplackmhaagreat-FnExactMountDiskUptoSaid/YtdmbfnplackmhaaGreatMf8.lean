import Derived.Test.YtdmbfnplackmhaaGreatMf7
import Derived.Below
import Derived.Calls
import Derived.ChangeSame
import Derived.ChangeShapes
import Derived.DataReads
import Derived.Deep.AppendSrc
import Derived.Deep.Draws
import Derived.Deep.MidRow
import Derived.Deep.Upon
import Derived.KernelRfl
import Derived.Laws.AppendOwn
import Derived.Laws.BytesString
import Derived.Laws.Entries
import Derived.Laws.IdiomCopy
import Derived.Laws.IdiomStrings
import Derived.Laws.Strings
import Derived.Laws.StructEq
import Derived.Laws.Tables
import Derived.Lay
import Derived.Lib.SliceRun
import Derived.Orders
import Derived.Sort.Grow
import Derived.Sort.Row
import GoSem.Core.Region
import GoSem.Core.View
set_option linter.unusedVariables false
set_option linter.unusedSimpArgs false
namespace Mf
open Go Go.RowKit
set_option linter.unusedVariables false
set_option linter.unusedSimpArgs false
variable {P:Program} {Z:W0}
theorem crash_cout {f:FuncId} (ht:FnThere P f)
  (h:∀ (w:World) (A C:Option Addr) (bd od bB oB bC oC nB cB nC cC:Nat) (at_:Nat→Nat) (hc hb:Nat→Hdr) (Pk:Option Addr) (nP cP bP oP:Nat) (pick:Nat→Bool),bd<w.heap.size→(0<nB→A=some ⟨bB,oB,none⟩∧bB<w.heap.size∧bd≠bB)→(0<nC→C=some ⟨bC,oC,none⟩∧bC<w.heap.size∧bC≠bB)→
   w.cell? ⟨bd,od,none⟩=some (.slice A nB cB)→w.cell? ⟨bd,od+1,none⟩=some (.slice C nC cC)→w.frozen? ⟨bd,od+1,none⟩=false→(∀ j,j<nB→w.cell? ⟨bB,oB+j,none⟩=some (hvl (hb j))∧w.frozen? ⟨bB,oB+j,none⟩=false)→
   (∀ j,j<nC→w.cell? ⟨bC,oC+j*2,none⟩=some (.int .i64 (at_ j))∧w.cell? ⟨bC,oC+j*2+1,none⟩=some (hvl (hc j))∧at_ j<nB)→nC≤1152921504606846976→(0<nP→Pk=some ⟨bP,oP,none⟩∧bP<w.heap.size∧(0<nB→bP≠bB)∧∀ k,k<nP→w.cell? ⟨bP,oP+k,none⟩=some (.bool (pick k)))→(∀ k,nP≤k→pick k=false)→
   Calls P f #[.pointer (some ⟨bd,od,none⟩),.slice Pk nP cP] w fun e W=>e=.returned (.tuple #[])∧∃ W1,FI w W1 bB oB nB (srcAt at_ hc pick hb nC)∧W=W1.setCell ⟨bd,od+1,none⟩ (.slice none 0 0))
  (d d':tDiskB.El) (picks:List Bool) (hd:crashP d picks=some d'):COut P f [.mu,.sh] [.op (.cl .deep tDiskB d),.cl .sh (.sl .bool) picks] ⟨[],[.op (.cl .deep tDiskB d')]⟩ where
 there:=ht
 calls:=by
  intro Z C us hl hnt hP1 hP2 I
  obtain⟨bs,ps,_⟩:=d
  have hus:us.size=2:=hl
  have hR:(initSt [.op (.cl .deep tDiskB (bs,ps,())),.cl .sh (.sl .bool) picks]).root 0=some ⟨.mem,.cl .deep tDiskB (bs,ps,())⟩:=rfl
  have hR':∀ r R,(initSt [.op (.cl .deep tDiskB (bs,ps,())),.cl .sh (.sl .bool) picks]).root r=some R→r=0:=by
   intro r R hr
   by_cases e:r=0
   ·exact e
   ·rw[initSt_root] at hr
    match r,e with
    |1,_=>cases hr
    |n+2,_=>cases hr
  obtain⟨bd,od,hL,m1,m2,m3,m4,m5,m6⟩:=I.str.mem 0 _ hR rfl
  have hrep:Rep Z.w _ tDiskB .deep (bs,ps,()) (C.L 0) (C.F 0):=I.str.rep 0 _ hR
  rw[hL] at hrep
  have h0:ValOk _ _ _ _ (.loc 0 []) ((⟨us,[]⟩:Act).tmps.getD 0 undef):=I.tm 0 (.loc 0 []) rfl
  obtain⟨R,b,off,q1,q2,q3⟩:=h0.leaf rfl
  rw[hR] at q1;cases q1
  rw[nav_nil,hL] at q2;cases q2
  have h1:ValOk _ _ _ _ (.cl .sh (.sl .bool) picks) ((⟨us,[]⟩:Act).tmps.getD 1 undef):=I.tm 1 (.cl .sh (.sl .bool) picks) rfl
  have hone:=h1.one rfl
  have hrp:Rep Z.w _ (.sl .bool) .sh picks (.reg (us.getD 1 undef).cells.toList 0) noB:=h1.1
  obtain⟨Pk,cP,p1,p2,p3⟩:=hrp
  have hv:us.getD 1 undef=.slice Pk picks.length cP:=by
   have:(Src.reg (us.getD 1 undef).cells.toList 0).cell Z.w 0=some (us.getD 1 undef):=by
    rw[show(us.getD 1 undef).cells=#[us.getD 1 undef] from hone];rfl
   rw[this] at p1;exact Option.some.inj p1
  have hus2:us=#[.pointer (some ⟨bd,od,none⟩),.slice Pk picks.length cP]:=by
   apply Array.ext (by simp[hus])
   intro i h4 h5
   have:i=0∨i=1:=by omega
   rcases this with rfl | rfl
   ·have:us.getD 0 undef=.pointer (some ⟨bd,od,none⟩):=q3
    simpa [Array.getD,h4] using this
   ·simpa [Array.getD,h4] using hv
  have hP:∃ bP oP,0<picks.length→Pk=some ⟨bP,oP,none⟩∧bP<Z.w.heap.size∧(∀ x,C.F 0 x→bP≠x)∧∀ k,k<picks.length→Z.w.cell? ⟨bP,oP+k,none⟩=some (.bool (picks.getD k false)):=by
   by_cases h0:0<picks.length
   ·obtain⟨b,off,q1,q2,q3,q4⟩:=p3 (show picks≠[] from List.ne_nil_of_length_pos h0)
    refine⟨b,off,fun _=>⟨q1,q3,fun x hx e=>q2 (.inl ⟨0,_,hR,.inl (e▸hx)⟩),fun k hk=>?_⟩⟩
    have:=q4 k hk
    have hg:picks.getD k false=picks[k]:=by simp[List.getD,hk]
    rw[hg]
    simpa [Rep,Src.cell,Ty.size] using this
   ·exact⟨0,0,fun h=>absurd h h0⟩
  obtain⟨bP,oP,hP⟩:=hP
  rw[hus2]
  simp only[crashP] at hd
  cases hcond:(decide (ps.length≤1152921504606846976)&&ps.all (fun p=>inB p.1 bs.length)) with
  |false=>rw[hcond] at hd;cases hd
  |true=>
   rw[hcond] at hd
   cases hd
   simp only[Bool.and_eq_true,decide_eq_true_eq,List.all_eq_true] at hcond
   obtain⟨hlen,hrng⟩:=hcond
   obtain⟨A,Cc,bB,oB,bC,oC,cB,cC,hb,hc,FB,FC,D⟩:=disk_row hrep
   have hFb:∀ x,C.F 0 x→x<Z.w.heap.size∧x≠bd:=fun x hx=>⟨(I.str.bnd 0 _ x hR hx).1,fun e=>m1 (e▸hx)⟩
   have hr2:=m3 1 (show 1<2 by omega)
   refine(h Z.w A Cc bd od bB oB bC oC bs.length cB ps.length cC (fun k=>(ps.getD k (0,[],())).1.toNat) hc hb Pk picks.length cP bP oP (fun k=>picks.getD k false) m2 (fun hn=>?_) (fun hn=>?_) D.a1 D.a2 hr2.2 (fun j hj=>?_) (fun j hj=>?_) hlen (fun hn=>⟨(hP hn).1,(hP hn).2.1,fun hn'=>(hP hn).2.2.1 bB (D.A0 (by have:=D.a3;omega)).2.1,(hP hn).2.2.2⟩) (fun k hk=>by simp[List.getD,hk])).mono ?_
   ·have h3:=D.A0 (by have:=D.a3;omega)
    exact⟨h3.1,(hFb _ h3.2.1).1,(hFb _ h3.2.1).2.symm⟩
   ·have h3:=D.C0 hn
    have hp:inB ps[0].1 bs.length=true:=hrng _ (List.getElem_mem hn)
    simp only[inB,Bool.and_eq_true,decide_eq_true_eq] at hp
    exact⟨h3.1,(hFb _ h3.2.1).1,h3.2.2 (by have:=D.a3;omega)⟩
   ·have h3:=D.A0 (by have:=D.a3;omega)
    exact⟨(D.eB j hj).1,(h3.2.2 j (by have:=D.a3;omega)).2⟩
   ·have hp:inB ps[j].1 bs.length=true:=hrng _ (List.getElem_mem hj)
    simp only[inB,Bool.and_eq_true,decide_eq_true_eq] at hp
    have hg:ps.getD j (0,[],())=ps[j]:=by simp[List.getD,hj]
    obtain⟨e1,e2,-⟩:=D.eC j hj
    simp only[hg]
    exact⟨by rw[e1];congr 2;omega,e2,by omega⟩
   ·rintro e W ⟨rfl,W1,hFI,rfl⟩
    have hnew:=fun M=>moved_rep (M:=M) D hFb m2 hFI
    refine⟨_,rfl,C,noB,fun r=>if r=0 then some ⟨.mem,.cl .deep tDiskB (movedF bs ps (fun k=>picks.getD k false) ps.length,[],())⟩ else none,noB,?_,⟨⟨_,rfl,rfl⟩,trivial⟩,fun _ h=>h,rfl,rfl,rfl⟩
    exact str_disk I.str hR hR' hL hFI.only (fun hn=>(D.A0 (by have:=D.a3;omega)).2.1) rfl hnew
theorem crash_fs {f:FuncId} (ht:FnThere P f)
  (h:∀ (w:World) (A C:Option Addr) (bd od bB oB bC oC nB cB nC cC:Nat) (at_:Nat→Nat) (hc hb:Nat→Hdr) (Pk:Option Addr) (nP cP bP oP:Nat) (pick:Nat→Bool),bd<w.heap.size→(0<nB→A=some ⟨bB,oB,none⟩∧bB<w.heap.size∧bd≠bB)→(0<nC→C=some ⟨bC,oC,none⟩∧bC<w.heap.size∧bC≠bB)→
   w.cell? ⟨bd,od,none⟩=some (.slice A nB cB)→w.cell? ⟨bd,od+1,none⟩=some (.slice C nC cC)→w.frozen? ⟨bd,od+1,none⟩=false→(∀ j,j<nB→w.cell? ⟨bB,oB+j,none⟩=some (hvl (hb j))∧w.frozen? ⟨bB,oB+j,none⟩=false)→
   (∀ j,j<nC→w.cell? ⟨bC,oC+j*2,none⟩=some (.int .i64 (at_ j))∧w.cell? ⟨bC,oC+j*2+1,none⟩=some (hvl (hc j))∧at_ j<nB)→nC≤1152921504606846976→(0<nP→Pk=some ⟨bP,oP,none⟩∧bP<w.heap.size∧(0<nB→bP≠bB)∧∀ k,k<nP→w.cell? ⟨bP,oP+k,none⟩=some (.bool (pick k)))→(∀ k,nP≤k→pick k=false)→
   Calls P f #[.pointer (some ⟨bd,od,none⟩),.slice Pk nP cP] w fun e W=>e=.returned (.tuple #[])∧∃ W1,FI w W1 bB oB nB (srcAt at_ hc pick hb nC)∧W=W1.setCell ⟨bd,od+1,none⟩ (.slice none 0 0)) :
  FsOk P f (mkFS [.mu,.sh] [.op (.cl .deep tDiskB),.cl .sh (.sl .bool)] (fun x=>crashP x.1 x.2.1) fun y=>⟨[],[.op (.cl .deep tDiskB y)]⟩):=by
 intro cs R k r he
 simp only[mkFS] at he
 split at he
 ·rename_i x hx
  have e:=PT.rds_mks hx
  subst e
  cases hb:crashP x.1 x.2.1 with
  |none=>rw[hb] at he;cases he
  |some t=>rw[hb] at he;exact⟨_,he,crash_cout ht h x.1 t x.2.1 hb⟩
 ·cases he
end Mf
namespace Mf
open Go Go.RowKit
set_option linter.unusedVariables false
set_option linter.unusedSimpArgs false
variable {P:Program} {Z:W0}
def Out.frz:Out→Out
 |⟨[.cl _ t x],os⟩=>⟨[.cl .sh t x],os⟩
 |⟨[.cl _ t x,.cl _ u y],os⟩=>⟨[.cl .sh t x,.cl .sh u y],os⟩
 |o=>o
def FS.frz (fs:FS):FS:=⟨fs.modes,fun cs R k=>fs.F cs R fun out=>k out.frz⟩
theorem COut.frz {f:FuncId} {ms:List Md} {cs:List TV} {o:Ow} {t:Ty} {x:t.El} {os:List TV} (h:COut P f ms cs ⟨[.cl o t x],os⟩):COut P f ms cs ⟨[.cl .sh t x],os⟩ where
 there:=h.there
 calls:=by
  intro Z C us h1 h2 h3 h4 I
  refine(h.calls Z C us h1 h2 h3 h4 I).mono ?_
  rintro e w' ⟨v,rfl,C',G,ρ,Fr,hs,ho,hF,hr,hs1,hs2⟩
  obtain⟨r1,r2,r3⟩:RepTV w' (Mt Z C' ρ G) (LfOk w' (Mt Z C' ρ G) C'.L ρ) (.cl o t x) (.reg v.cells.toList 0) Fr∧v.cells.size=(TV.cl o t x).size∧((TV.cl o t x).isAgg=true↔∃ cs,v=.agg cs):=hr
  obtain⟨w1,hm⟩:=hs.weak (ρ':=ρ) (G':=noB) (fun _ _ h=>h) (fun _ h=>h.elim)
  have gs:=hs.weak_gs (ρ':=ρ) (G':=noB) hm Dd.none (fun _ _ _ h _=>h) (fun _ _ _ h _=>h)
  refine⟨v,rfl,C',noB,ρ,noB,w1.lf (fun v u hl=>LfOk.go gs (Alive.noneD v) hl),ho,fun _ h=>h,⟨?_,r2,r3⟩,rfl,hs2⟩
  show Rep w' (Mt Z C' ρ noB) t .sh x _ noB
  refine Rep.share (r1:Rep w' _ t o x _ Fr) hm (fun b hb=>⟨?_,(hs.gbnd b (hF b hb)).1⟩)
  rintro(⟨r,R,hR,hT⟩ | hh | hh)
  ·exact hs.gdis r R hR b hT (hF b hb)
  ·exact hh
  ·exact(hs.gbnd b (hF b hb)).2.2.1 hh
theorem COut.frz2 {f:FuncId} {ms:List Md} {cs:List TV} {o p:Ow} {t u:Ty} {x:t.El} {y:u.El} {os:List TV} (h:COut P f ms cs ⟨[.cl o t x,.cl p u y],os⟩):COut P f ms cs ⟨[.cl .sh t x,.cl .sh u y],os⟩ where
 there:=h.there
 calls:=by
  intro Z C us h1 h2 h3 h4 I
  refine(h.calls Z C us h1 h2 h3 h4 I).mono ?_
  rintro e w' ⟨v,rfl,C',G,ρ,Fr,hs,ho,hF,hr,hs1,hs2⟩
  obtain⟨vs,rfl,hr⟩:=hr
  obtain⟨w1,hm⟩:=hs.weak (ρ':=ρ) (G':=noB) (fun _ _ h=>h) (fun _ h=>h.elim)
  have gs:=hs.weak_gs (ρ':=ρ) (G':=noB) hm Dd.none (fun _ _ _ h _=>h) (fun _ _ _ h _=>h)
  have one:∀ {o:Ow} {t:Ty} {x:t.El} {v:Value} {F:BSet},BSub F G→ResV w' (Mt Z C' ρ G) C'.L ρ (.cl o t x) v F→ResV w' (Mt Z C' ρ noB) C'.L ρ (.cl .sh t x) v noB:=by
   rintro o t x v F hFG ⟨r1,r2,r3⟩
   refine⟨?_,r2,r3⟩
   show Rep w' (Mt Z C' ρ noB) t .sh x _ noB
   refine Rep.share (r1:Rep w' _ t o x _ F) hm (fun b hb=>⟨?_,(hs.gbnd b (hFG b hb)).1⟩)
   rintro(⟨r,R,hR,hT⟩ | hh | hh)
   ·exact hs.gdis r R hR b hT (hFG b hb)
   ·exact hh
   ·exact(hs.gbnd b (hFG b hb)).2.2.1 hh
  refine⟨.tuple vs,rfl,C',noB,ρ,noB,w1.lf (fun v u hl=>LfOk.go gs (Alive.noneD v) hl),ho,fun _ h=>h,⟨vs,rfl,?_⟩,rfl,hs2⟩
  match vs.toList,hr with
  |[v1,v2],hr=>
   obtain⟨F1,F2,a1,⟨F3,F4,a2,_,b1,b2,_⟩,c1,c2,_⟩:=hr
   exact⟨noB,noB,one (fun b hb=>hF b (c1 b hb)) a1,⟨noB,noB,one (fun b hb=>hF b (c2 b (b1 b hb))) a2,trivial,fun _ h=>h,fun _ h=>h,fun _ h=>h.elim⟩,fun _ h=>h,fun _ h=>h,fun _ h=>h.elim⟩
  |[],hr=>exact hr.elim
  |[v1],hr=>obtain⟨_,_,_,h,_⟩:=hr;exact h.elim
  |v1::v2::v3::l,hr=>obtain⟨_,_,_,⟨_,_,_,h,_⟩,_⟩:=hr;exact h.elim
theorem FsOk.frz {f:FuncId} {fs:FS} (h:FsOk P f fs):FsOk P f fs.frz:=by
 intro cs R k r he
 obtain⟨out,h1,h2⟩:=h cs R (fun out=>k out.frz) r he
 refine⟨out.frz,h1,?_⟩
 show COut P f fs.modes cs out.frz
 obtain⟨res,os⟩:=out
 match res,h2 with
 |[.cl o t x],h2=>exact h2.frz
 |[],h2=>exact h2
 |[.pr a b],h2=>exact h2
 |[.loc a b],h2=>exact h2
 |[.seg a b],h2=>exact h2
 |[.sub a b c d],h2=>exact h2
 |[.pt a b],h2=>exact h2
 |[.clo a b],h2=>exact h2
 |[.nl],h2=>exact h2
 |[.dead a],h2=>exact h2
 |[.rw a b c d e],h2=>exact h2
 |[.tup a],h2=>exact h2
 |[.op a],h2=>exact h2
 |[.gd a b c],h2=>exact h2
 |[.kb a],h2=>exact h2
 |[a,b],h2=>
  cases a with
  |cl o t x=>
   cases b with
   |cl p u y=>exact h2.frz2
   |_=>exact h2
  |_=>exact h2
 |a::b::c::l,h2=>cases a<;>first | exact h2 | (cases b<;>exact h2)
end Mf
