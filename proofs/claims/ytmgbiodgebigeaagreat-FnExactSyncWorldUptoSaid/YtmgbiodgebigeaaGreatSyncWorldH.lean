import Derived.RangeFuncNested
import Derived.RangeFuncBound
import Derived.RangeFuncCalls
import Derived.RangeFuncLeaves
import Derived.RangeFuncBox
import Derived.Shelf.Abstract
import Derived.Shelf.RegionOpen
import Derived.WalkKit
import Derived.OwnWalkIn
import Derived.TacticsInMore
import Derived.LoopNIn
import Derived.LoopIn
import Derived.IntWalk
import Derived.Test.YtmgbiodgebigeaaGreatMf4
import Derived.Test.YtmgbiodgebigeaaGreatProg
namespace Go.Proofs
open Go.RowKit Go.Shelf
attribute [local go_sem] Oper.semAt_some
set_option linter.unusedVariables false
set_option linter.unusedSimpArgs false
set_option maxRecDepth 100000 in
set_option maxHeartbeats 2000000 in
theorem Bk.back1_in (F:Fence) (n:Nat) (h7:F.fn 189) (hro:F.round=none) (hn:1≤n) (l Bs n₀ len cap:Nat) (A:Option Addr) (hd:Nat→Bk.Hd) (hreach:len≤1152921504606846976) (hb:Bs<n₀) (J Jx:List (Int×Bk.Hd)→World→Prop)
  (hY:∀ pre x W,J pre W→pre.length<len→YieldAt F (n-1) Tryz.prog l (Bk.enc x) W fun e W'=>
   (e=.returned (.bool true)∧J (pre++[x]) W'∧Below n₀ W W')∨(e=.returned (.bool false)∧Jx (pre++[x]) W'))
  (W:World) (hBs:W.cell? ⟨Bs,0,none⟩=some (.slice A len cap)) (hc:Bk.Yqh n₀ W A len hd) (h0:J [] W) :
  CallsIn F n Tryz.prog 189 #[.func (.yield l) #[] #[],.pointer (some ⟨Bs,0,none⟩)] W fun e W'=>(∃ v,e=.returned v)∧
   ((∃ ys,ys=Bk.upto len hd len∧J ys W')∨(∃ pre,(∃ k,k≤len∧pre=Bk.upto len hd k)∧Jx pre W')):=by
 have hw0:wrap64 ((len:Int)-1)=(len:Int)-1:=Go.IntWalk.wrap64_in _ (by omega)
 refine callsIn_of_wp Tryz.func189 rfl h7 ?_ hro;simp only[Tryz.ntmps189,List.size_toArray,List.length_cons,List.length_nil,Nat.reduceAdd,Nat.reduceSub,Array.replicate_succ,Array.replicate_zero,List.push_toArray,List.append_toArray,List.nil_append,List.cons_append]
 gi_wp2
 gi_loopw [3] (fun i wr=>∃ k:Nat,k≤len∧i=.int .i64 ((len:Int)-1-k)∧J (Bk.upto len hd k) wr∧Below n₀ W wr)
  (fun i _=>(intOf i+1).toNat)
 case atStart=>exact⟨0,Nat.zero_le _,by simp[hw0],h0,Below.refl _ _⟩
 case round=>
  obtain⟨k,hk,rfl,hJs,hnx⟩:=hrel;have hBs':=(hnx.cell (p:=⟨Bs,0,none⟩) hb).trans hBs
  by_cases hlt:k<len
  ·obtain⟨b,off,rfl,hb2,hcs⟩:=hc.below hnx (by omega)
   obtain⟨c1,c2⟩:=hcs (len-1-k) (by omega)
   obtain⟨fn,tmps,assign,body,hy,hR⟩:=hY _ (Bk.at_ len hd k) wr hJs (by rw[Bk.Ytp];exact hlt)
   simp only[Bk.enc,Bk.at_] at hy
   have e1:((len:Int)-1-k).toNat=len-1-k:=by omega
   have hw1:wrap64 ((len:Int)-1-k-1)=(len:Int)-1-k-1:=Go.IntWalk.wrap64_in _ (by omega)
   gi_wp2
   refine hR.mono ?_;rintro e W3 (⟨rfl,hJ3,hk3⟩ | ⟨rfl,hJx3⟩)
   ·gi_wp2
    go_roundw
    case rel=>exact⟨k+1,by omega,by simp[hw1];omega,by rw[Bk.Yqb];exact hJ3,hnx.trans hk3⟩
    case measure=>simp[intOf,hw1];omega
   ·gi_wp2
    refine bodyPost_ret (results_none rfl _ _ _) rfl ?_
    exact⟨⟨_,rfl⟩,.inr ⟨_,⟨k+1,by omega,(Bk.Yqb _ _ _).symm⟩,hJx3⟩⟩
  ·obtain rfl:k=len:=by omega
   gi_wp2
   go_end0
   exact⟨⟨_,rfl⟩,.inl ⟨_,rfl,hJs⟩⟩
set_option maxHeartbeats 1000000 in
theorem Bk.back_in (F:Fence) (n:Nat) (h5:F.fn 167) (hro:F.round=none) (a:Option Addr) (len cap:Nat) (w:World) :
  CallsIn F n Tryz.prog 167 #[.slice a len cap] w fun e w'=>e=.returned (.func (.func 189) #[] #[.pointer (some ⟨w.heap.size,0,none⟩)])∧w'=w.alloc (.cells #[.slice a len cap] 40):=by
 refine callsIn_of_wp Tryz.func167 rfl h5 ?_ hro;simp only[Tryz.ntmps167,List.size_toArray,List.length_cons,List.length_nil,Nat.reduceAdd,Nat.reduceSub,Array.replicate_succ,Array.replicate_zero,List.push_toArray,List.append_toArray,List.nil_append,List.cons_append]
 gi_wp2
 go_ret
 exact⟨rfl,rfl⟩
theorem Bk.back_stops (F:Fence) (n:Nat) (h7:F.fn 189) (hro:F.round=none) (hn:1≤n) (Bs n₀ len cap:Nat) (A:Option Addr) (hd:Nat→Bk.Hd) (hreach:len≤1152921504606846976) (w:World) (hBs:Bs<n₀) (hn₀:n₀≤w.heap.size)
  (hc:w.cell? ⟨Bs,0,none⟩=some (.slice A len cap)) (hI:Bk.Yqh n₀ w A len hd) :
  SeqStopsK F n Tryz.prog 189 #[.pointer (some ⟨Bs,0,none⟩)] Bk.enc (Below n₀) (fun ys=>ys=Bk.upto len hd len) (fun pre=>∃ k,k≤len∧pre=Bk.upto len hd k) len w:=fun l J Jx W hW _ _ hY h0=>by
 exact Bk.back1_in F n h7 hro hn l Bs n₀ len cap A hd hreach hBs J Jx hY W ((hW.cell (p:=⟨Bs,0,none⟩) (by show Bs<w.heap.size;omega)).trans hc) (hI.below (hW.mono hn₀)) h0
set_option maxRecDepth 100000 in
set_option maxHeartbeats 4000000 in
theorem Bk.block_in (F:Fence) (n:Nat) (h3:F.fn 119) (h4:F.fn 167) (h5:F.fn 189) (hro:F.round=none) (hn:3≤n) (bd od:Nat) (at_:Int) (A C:Option Addr) (nB cB nC cC:Nat) (hd:Nat→Bk.Hd) (w:World) (v:Bk.Hd)
  (hbd:bd<w.heap.size) (hBl:w.cell? ⟨bd,od,none⟩=some (.slice A nB cB)) (hCa:w.cell? ⟨bd,od+1,none⟩=some (.slice C nC cC)) (hreach:nC≤1152921504606846976) (hL:Bk.Yqh w.heap.size w C nC hd)
  (hv:Bk.last hd at_ nC=none→∃ bB oB,A=some ⟨bB,oB,none⟩∧bB<w.heap.size∧0≤at_∧at_<nB∧w.cell? ⟨bB,oB+at_.toNat,none⟩=some (Bk.hv v)) :
  CallsIn F n Tryz.prog 119 #[.pointer (some ⟨bd,od,none⟩),.int .i64 at_] w fun e W'=>e=.returned (Bk.hv ((Bk.last hd at_ nC).getD v))∧Below w.heap.size w W':=by
 have h1:1≤n:=by omega
 refine callsIn_of_wp_marks Tryz.func119 rfl h3 ?_ hro;simp only[Tryz.ntmps119,List.size_toArray,List.length_cons,List.length_nil,Nat.reduceAdd,Nat.reduceSub,Array.replicate_succ,Array.replicate_zero,List.push_toArray,List.append_toArray,List.nil_append,List.cons_append]
 gi_wp2_with (gi_at_call 167;refine(Bk.back_in F (n-1) h4 hro _ _ _ _).mono ?_;rintro e w' ⟨rfl,rfl⟩)
 obtain⟨W0,hW0⟩:∃ W0,((w.alloc (.cells #[.int .i64 at_] 2)).alloc (.cells #[.slice none 0 0] 97)).alloc (.cells #[.slice C nC cC] 40)=W0:=⟨_,rfl⟩;have bA:=((Boxed.new w 2 (.int .i64 at_)).alloc (.cells #[.slice none 0 0] 97)).alloc (.cells #[.slice C nC cC] 40);have bR:=(Boxed.new (w.alloc (.cells #[.int .i64 at_] 2)) 97 (.slice none 0 0)).alloc (.cells #[.slice C nC cC] 40);have bS:=Boxed.new ((w.alloc (.cells #[.int .i64 at_] 2)).alloc (.cells #[.slice none 0 0] 97)) 40 (.slice C nC cC);simp only[World.size_alloc] at bR bS
 have hB0:Below w.heap.size w (((w.alloc (.cells #[.int .i64 at_] 2)).alloc (.cells #[.slice none 0 0] 97)).alloc (.cells #[.slice C nC cC] 40)):=(((Below.refl _ w).alloc (Nat.le_refl _) _).alloc (by simp) _).alloc (by simp;omega) _
 have hsz:(((w.alloc (.cells #[.int .i64 at_] 2)).alloc (.cells #[.slice none 0 0] 97)).alloc (.cells #[.slice C nC cC] 40)).heap.size=w.heap.size+3:=by simp
 rw[hW0] at bA bR bS hB0 hsz ⊢;clear hW0
 have hL0:Bk.Yqh W0.heap.size W0 C nC hd:=fun h0=>by
  obtain⟨b,off,p1,p2,p3⟩:=hL.below hB0 h0
  exact⟨b,off,p1,by omega,p3⟩
 refine wpIn_rangeFunc_ownH hro h1 (gf:=189) (lb:=#[.pointer (some ⟨w.heap.size+1+1,0,none⟩)]) rfl h5 (enters_of Tryz.func189 (by kernel_rfl) rfl)
  (Bk.back_stops F (n-1) h5 hro (by omega) (w.heap.size+1+1) W0.heap.size nC cC C hd hreach W0 (by omega) (by omega) bS.cell hL0) belowK_t (belowK_b (by omega)) (Below.refl _ _) (fun _=>rfl)
  (fun pre W=>((Boxed W w.heap.size 2 (.int .i64 at_)∧Boxed W (w.heap.size+1) 97 (.slice none 0 0))∧(∀ y∈pre,y.2.1≠at_))∧Below w.heap.size W0 W)
  (fun c pre W=>(∃ pre' x,c=.ret∧pre=pre'++[x]∧(∀ y∈pre',y.2.1≠at_)∧x.2.1=at_∧Boxed W (w.heap.size+1) 97 (Bk.hv x.2))∧Below w.heap.size W0 W)
  (OwnFrom.and (OwnFrom.and (OwnFrom.and (Own.from (boxed_own _ _ _) _) (Own.from (boxed_own _ _ _) _)) (ownFrom_pure _ _)) (ownFrom_below (by omega) (by omega)))
  (fun c=>OwnFrom.and (fun s A B row hs hg hr=>by
   obtain⟨pre',x,q1,q2,q3,q4,q5⟩:=hs
   exact⟨pre',x,q1,q2,q3,q4,boxed_own (w.heap.size+1) 97 (fun(_:Unit)=>Bk.hv x.2) () A B row q5 hg (fun r e=>(hr r e).2)⟩) (ownFrom_below (by omega) (by omega)))
  ⟨⟨⟨bA,bR⟩,by simp⟩,Below.refl _ _⟩
  (fun x a' W=>∃ Bx,w.heap.size+1<Bx∧(W.cell? ⟨Bx,0,none⟩=some (.int .i64 x.2.1)∧W.cell? ⟨Bx,1,none⟩=some (Bk.hv x.2))∧a'={tmps:=#[.pointer (some ⟨bd,od,none⟩),.int .i64 at_,undef,.pointer (some ⟨w.heap.size,0,none⟩),.pointer (some ⟨w.heap.size+1,0,none⟩),undef,.pointer (some ⟨Bx,0,none⟩),.pointer (some ⟨bd,od,none⟩),.pointer (some ⟨bd,od,none⟩),.pointer (some ⟨bd,od+1,none⟩),.slice C nC cC,.func (.func 189) #[] #[.pointer (some ⟨w.heap.size+1+1,0,none⟩)],.int .i64 x.1,.agg #[.int .i64 x.2.1,Bk.hv x.2],undef,undef,undef,undef,undef,undef,undef,undef,undef,undef,undef,undef,undef],defers:=[] })
  (fun x a' _ X Y row hs hg hr=>by obtain⟨Bx,h1,⟨h2,h2'⟩,h3⟩:=hs;exact⟨Bx,h1,⟨cell_kept h2 hg (fun r e=>(hr r e).2),cell_kept h2' hg (fun r e=>(hr r e).2)⟩,h3⟩)
  ?assign ?body ?done ?stop
 case assign=>
  rintro l pre x W K ⟨⟨⟨bA1,bR1⟩,hne⟩,hB1⟩ hK;simp only[Bk.enc,Bk.hv]
  gi_wp2
  have hh:=World.alloc_heap_new W (.cells #[.int .i64 x.2.1,.slice x.2.2.1 x.2.2.2.1 x.2.2.2.2] 121)
  exact hK _ _ ((KeepsOthers.alloc _ _).from _) ((Below.refl _ W).alloc hB1.size _) ⟨⟨⟨bA1.alloc _,bR1.alloc _⟩,hne⟩,hB1.alloc (by have:=hB1.size;omega) _⟩ ⟨W.heap.size,bR1.lt,⟨by unfold World.cell?;rw[hh];rfl,by unfold World.cell?;rw[hh];rfl⟩,rfl⟩
 case body=>
  rintro l pre x a' W hl ⟨r,hr⟩ ⟨⟨⟨bA1,bR1⟩,hne⟩,hB1⟩ ⟨Bx,hBx,⟨c1,c2⟩,rfl⟩ hlt;have cA:=bA1.cell;have cR:=bR1.cell;have fR:=bR1.frozen;simp only[Bk.hv] at c2 ⊢
  by_cases he:x.2.1=at_
  ·gi_wp2
   exact⟨(KeepsOthers.setCell _ _ _).from _,⟨pre,x,rfl,rfl,hne,he,bR1.set _⟩,hB1.setCell (p:=⟨w.heap.size+1,0,none⟩) (by simp) _⟩
  ·gi_wp2
   exact⟨KeepsFrom.refl _ _,Below.refl _ _,⟨⟨bA1,bR1⟩,fun y hy=>by rcases List.mem_append.1 hy with h | h;exact hne y h;simp at h;subst h;exact he⟩,hB1⟩
 case done=>
  rintro D zs W hD rfl ⟨⟨⟨bA1,bR1⟩,hne⟩,hB1⟩ hK;have cA:=bA1.cell;have cR:=bR1.cell;have fR:=bR1.frozen;have hl0:=Bk.Yp1 nC hd at_ nC (Nat.le_refl _) hne;rw[Nat.sub_self] at hl0;replace hl0:Bk.last hd at_ nC=none:=hl0;obtain⟨bB,oB,rfl,v1,v2,v3,v4⟩:=hv hl0;replace hB1:=hB0.trans hB1;have cB:=(hB1.cell (p:=⟨bd,od,none⟩) hbd).trans hBl;have cV:=(hB1.cell (p:=⟨bB,oB+at_.toNat,none⟩) v1).trans v4
  have hi0:(at_.toNat:Int)=at_:=by omega
  simp only[Bk.hv] at cV
  gi_wp2
  gi_region
  all_goals gi_wp2
  all_goals (
   rw[hl0]
   refine⟨by simp,.inl ⟨_,_,rfl,run_takeDeferred ((KeepsOthers.setCell _ _ _).same D _ hK rfl),?_⟩⟩
   have hK':=(KeepsOthers.setCell W ⟨w.heap.size+1,0,none⟩ (.slice v.2.1 v.2.2.1 v.2.2.2)).same D _ hK rfl;have hK2:(W.setCell ⟨w.heap.size+1,0,none⟩ (.slice v.2.1 v.2.2.1 v.2.2.2)).drew.heap[D]? = some (.deferred (some [])):=hK';have hc4:(W.setCell ⟨w.heap.size+1,0,none⟩ (.slice v.2.1 v.2.2.1 v.2.2.2)).drew.cell? ⟨w.heap.size+1,0,none⟩=some (.slice v.2.1 v.2.2.1 v.2.2.2):=(bR1.set (.slice v.2.1 v.2.2.1 v.2.2.2)).cell
   have hc5:=cell_kept hc4 (grownBy_putObj' _ D (.deferred none)) (fun r e=>by cases e;exact⟨_,hK2,rfl⟩)
   refine⟨_,?_,rfl,((hB1.setCell (p:=⟨w.heap.size+1,0,none⟩) (by simp) _).drew).trans (belowK_b (w:=w) (Nat.le_refl _) _ D _ _ (by omega) hK2 rfl rfl)⟩
   simp[results,Tryz.f119,go_sem,hc5,Bk.hv])
 case stop=>
  rintro D c pre W hD ⟨k,hk,rfl⟩ ⟨⟨pre',x,rfl,q2,q3,q4,bR1⟩,hB1⟩ hK;have cR:=bR1.cell
  gi_wp2
  have hl1:Bk.last hd at_ nC=some x.2:=by
   cases k with
   |zero=>simp[Bk.upto] at q2
   |succ k=>
    rw[Bk.Yqb] at q2;obtain⟨e1,e2⟩:=List.append_inj' q2 rfl;cases e2
    rw[Bk.Yp1 nC hd at_ k (by omega) (by rw[e1];exact q3),show nC-k=(nC-1-k)+1 by omega,Bk.last]
    simp only[Bk.at_] at q4;rw[if_pos q4];rfl
  rw[hl1]
  refine⟨by simp,.inl ⟨_,_,rfl,run_takeDeferred hK,?_⟩⟩
  have hc5:=cell_kept cR (grownBy_putObj' _ D (.deferred none)) (fun r e=>by cases e;exact⟨_,hK,rfl⟩)
  refine⟨_,?_,rfl,(hB0.trans hB1).trans (belowK_b (w:=w) (Nat.le_refl _) W D _ _ (by omega) hK rfl rfl)⟩
  simp[results,Tryz.f119,go_sem,hc5,Bk.hv]
end Go.Proofs
namespace Go.Proofs
open Go.RowKit Go.Shelf
attribute [local go_sem] Oper.semAt_some
set_option linter.unusedVariables false
set_option linter.unusedSimpArgs false
set_option maxRecDepth 100000 in
set_option maxHeartbeats 4000000 in
theorem Cp.clonePuts_in (F:Fence) (n:Nat) (h1:F.fn 68) (h2:F.fn 139) (h3:F.fn 63) (hn:1≤n) (hro:F.round=none)
  (hA:∀ (m:Nat) (w:World) (A:Option Addr) (c:Nat) (xs:Mf.Ya3),Mf.Rep w Mf.noB (.sl Mf.Ya7) .sh xs (.reg [.slice A xs.length c] 0) Mf.noB→xs.length≤2147483648→CallsIn F m Tryz.prog 139 #[.slice A xs.length c] w (Mf.Ybp Mf.Ya7 .top xs w))
  (hB:∀ (m:Nat) (w:World) (A:Option Addr) (c:Nat) (xs:List Int),Mf.Rep w Mf.noB (.sl (.int .i64)) .sh xs (.reg [.slice A xs.length c] 0) Mf.noB→xs.length≤2147483648→CallsIn F m Tryz.prog 63 #[.slice A xs.length c] w (Mf.Ybp (.int .i64) .deep xs w))
  (w:World) (A:Option Addr) (c:Nat) (l:Mf.Ya3) (hr:Mf.Rep w Mf.noB (.sl Mf.Ya7) .sh l (.reg [.slice A l.length c] 0) Mf.noB) (hl:l.length≤2147483648) (hls:∀ x∈l,x.2.1.length≤2147483648) :
  CallsIn F n Tryz.prog 68 #[.slice A l.length c] w (Mf.Ybp Mf.Ya7 .deep l w):=by
 refine callsIn_of_wp Tryz.func68 rfl h1 ?_ hro;simp only[Tryz.ntmps68,List.size_toArray,List.length_cons,List.length_nil,Nat.reduceAdd,Nat.reduceSub,Array.replicate_succ,Array.replicate_zero,List.push_toArray,List.append_toArray,List.nil_append,List.cons_append]
 gi_wp2_with (gi_at_call 139;refine(hA _ _ _ _ _ hr hl).mono ?_;rintro e w1 ⟨A1,c1,rfl,hb1,G,hG,hGf⟩)
 by_cases hc:c1=0
 ·subst hc
  obtain⟨hl0,hg⟩:=Mf.Ybp.none hb1 hG;rw[hl0] at hg ⊢
  gi_loopw [10] (fun i wr=>i=.int .i64 0∧wr=w1) (fun _ _=>0)
  case atStart=>exact⟨rfl,rfl⟩
  case round=>
   obtain⟨rfl,rfl⟩:=hrel
   gi_wp2
   go_ret
   exact hg
 ·obtain⟨b,off,rfl,hcap,I0⟩:=Mf.CpI.start hb1 hG hGf hc
  gi_loopw [10] (fun i wr=>∃ k:Nat,k≤l.length∧i=.int .i64 k∧Mf.CpI w wr l b off c1 k) (fun i _=>l.length-(intOf i).toNat)
  case atStart=>exact⟨0,Nat.zero_le _,rfl,I0⟩
  case round=>
   obtain⟨k,hk,rfl,I⟩:=hrel
   by_cases hlt:k<l.length
   ·have c1':=I.ats k hlt
    obtain⟨Ak,ck,d1',hrk⟩:=I.arg hlt;have hB1:Below wr.heap.size wr (wr.alloc (.cells #[.int .i64 l[k].1,.slice Ak l[k].2.1.length ck] 121)):=(Below.refl _ wr).alloc (Nat.le_refl _) _
    gi_wp2_with (gi_at_call 63;refine(hB _ _ _ _ _ (hrk _ hB1) (hls _ (List.getElem_mem hlt))).mono ?_;rintro e w2 ⟨A2,c2,rfl,hb2,G2,hG2,hGf2⟩;have hp5:=I.place hlt hcap (hB1.trans (hb2.mono hB1.size));have hc5:=hp5.1.trans d1';have hf5:=hp5.2)
    go_roundw
    case rel=>exact⟨k+1,by omega,by simp,I.step hlt hcap hB1 hb2 hG2 hGf2⟩
    case measure=>simp[intOf];omega
   ·obtain rfl:k=l.length:=by omega
    gi_wp2
    go_ret
    exact I.done hcap
end Go.Proofs
namespace Go.Proofs
open Go.RowKit Go.Shelf
attribute [local go_sem] Oper.semAt_some
set_option linter.unusedVariables false
set_option linter.unusedSimpArgs false
set_option maxRecDepth 100000 in
set_option maxHeartbeats 4000000 in
theorem Ps.putSteps_in (F:Fence) (n:Nat) (h1:F.fn 66) (h2:F.fn 68) (hn:1≤n) (hro:F.round=none)
  (hA:∀ (m:Nat) (w:World) (A:Option Addr) (c:Nat) (l:Mf.Ya3),Mf.Rep w Mf.noB (.sl Mf.Ya7) .sh l (.reg [.slice A l.length c] 0) Mf.noB→l.length≤2147483648→(∀ x∈l,x.2.1.length≤2147483648)→CallsIn F m Tryz.prog 68 #[.slice A l.length c] w (Mf.Ybp Mf.Ya7 .deep l w))
  (hI:(Tryz.prog.info? 118).map (fun i=>(i.zero,i.size,i.bytes))=some (some (.agg #[.bool false,.int .i64 0,.slice none 0 0]),3,40))
  (w:World) (A:Option Addr) (c:Nat) (l:Mf.Ya3) (hr:Mf.Rep w Mf.noB (.sl Mf.Ya7) .sh l (.reg [.slice A l.length c] 0) Mf.noB) (hl:l.length≤1048576) (hls:∀ x∈l,x.2.1.length≤2147483648) :
  CallsIn F n Tryz.prog 66 #[.slice A l.length c] w (Mf.Ybp Mf.Yik .deep (l.map Mf.toStep) w):=by
 obtain⟨i0,hi,hz0,hz1,hz2⟩:=info_parts hI;refine callsIn_of_wp Tryz.func66 rfl h1 ?_ hro;simp only[Tryz.ntmps66,List.size_toArray,List.length_cons,List.length_nil,Nat.reduceAdd,Nat.reduceSub,Array.replicate_succ,Array.replicate_zero,List.push_toArray,List.append_toArray,List.nil_append,List.cons_append]
 gi_wp2_with (gi_at_call 68;refine(hA _ _ _ _ _ hr (by omega) hls).mono ?_;rintro e w1 ⟨A1,c1,rfl,hb1,G,hG,hGf⟩)
 have hS:∃ b off hs Fs,(0<l.length→A1=some ⟨b,off,none⟩∧Mf.Yn9 w1 l b off hs Fs G):=by
  by_cases h0:0<l.length
  ·obtain⟨b,off,hs,Fs,e1,e2⟩:=hG.src h0
   exact⟨b,off,hs,Fs,fun _=>⟨e1,e2⟩⟩
  ·exact⟨0,0,fun _=>(none,0,0),fun _=>Mf.noB,fun h=>absurd h h0⟩
 obtain⟨b,off,hs,Fs,hS⟩:=hS
 gi_loopw [3,9] (fun v i wr=>∃ k:Nat,k≤l.length∧i=.int .i64 k∧wr.ownsRow w1.heap.size 118 3 v k (Mf.cellsOf l hs k)∧Below w1.heap.size w1 wr) (fun _ i _=>l.length-(intOf i).toNat)
 case atStart=>exact⟨0,Nat.zero_le _,rfl,World.ownsRow_nil _ _ _ _,Below.refl _ _⟩
 case round=>
  obtain⟨k,hk,rfl,hrow,hB⟩:=hrel
  by_cases hlt:k<l.length
  ·obtain⟨rfl,S⟩:=hS (by omega)
   have hbG:=(hGf b S.blk).2;have c1':=(hB.cell (p:=⟨b,off+k*2,none⟩) hbG).trans (S.at1 k hlt);have c2':=(hB.cell (p:=⟨b,off+k*2+1,none⟩) hbG).trans (S.hd k hlt);simp only[Mf.hvl] at c2';have hsW:=hB.size
   have hcells:∀ j u,[Value.bool false,.int .i64 l[k].1,.slice (hs k).1 (hs k).2.1 (hs k).2.2][j]? = some u→((wr.alloc (.cells #[.int .i64 l[k].1,.slice (hs k).1 (hs k).2.1 (hs k).2.2] 121)).alloc (.cells #[.bool false,.int .i64 l[k].1,.slice (hs k).1 (hs k).2.1 (hs k).2.2] 118)).cell? (Addr.add ⟨wr.heap.size+1,0,none⟩ j)=some u:=fun j u hj=>by
    have hh:=World.alloc_heap_new (wr.alloc (.cells #[.int .i64 l[k].1,.slice (hs k).1 (hs k).2.1 (hs k).2.2] 121)) (.cells #[.bool false,.int .i64 l[k].1,.slice (hs k).1 (hs k).2.1 (hs k).2.2] 118);rw[World.size_alloc] at hh
    have e:Addr.add ⟨wr.heap.size+1,0,none⟩ j=⟨wr.heap.size+1,j,none⟩:=by
     unfold Addr.add
     split
     ·rename_i h;subst h;rfl
     ·simp
    rw[e];unfold World.cell?
    show(match (World.alloc _ _).heap[wr.heap.size+1]? with | some (.cells c _ _)=>_ | _=>none)=some u
    rw[hh]
    simpa using hj
   gi_wp2_with (gi_at_builtin;refine wpListIn_append_own _ rfl _ _ 58 rfl w1.heap.size 118 i0 (.agg #[.bool false,.int .i64 0,.slice none 0 0]) 3 40 Tryz.underlying58 hi hz0 hz1 hz2 rfl (by decide) _ _ _ rfl ((hrow.alloc _).alloc _) ⟨wr.heap.size+1,0,none⟩ 1 1 [.bool false,.int .i64 l[k].1,.slice (hs k).1 (hs k).2.1 (hs k).2.2] rfl rfl hcells (by simp[Value.oneCell']) (by simp only[maxLen];omega) (by omega) (by simp;omega) ?_;intro v' w3 hown' hgrow _)
   go_roundw
   case rel=>
    have hlk:l.getD k (0,[],())=l[k]:=by simp[List.getD,hlt]
    refine⟨k+1,by omega,by simp,by simp only[Mf.cellsOf,Mf.hvl,hlk];exact hown',((hB.alloc hsW _).alloc (by simp;omega) _).grown hgrow (by simp;omega) (fun x e=>?_)⟩
    obtain⟨-,⟨rfl,-⟩ | ⟨g,cap,cur,rfl,hg,-⟩⟩:=hrow
    ·cases e
    ·cases e;exact hg
   case measure=>simp[intOf];omega
  ·obtain rfl:k=l.length:=by omega
   gi_wp2
   go_ret
   exact Mf.Yup hb1 hGf (fun h=>(hS h).2) hB hrow
end Go.Proofs
