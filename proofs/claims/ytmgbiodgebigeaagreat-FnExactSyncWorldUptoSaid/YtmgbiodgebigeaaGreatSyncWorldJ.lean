import Derived.BigRegion
import Derived.LoopTactic
import Derived.WalkKit
import Derived.RangeFuncRecord
import Derived.Below
import Derived.Shelf.Abstract
import Derived.IntWalk
import Derived.OwnWalk
import Derived.Lib.AppendZerosOnto
import Derived.Lib.AppendZeros
import Derived.Lib.SliceRun
import Derived.Lib.Walk
import Derived.Test.YtmgbiodgebigeaaGreatMf4
import Derived.Test.YtmgbiodgebigeaaGreatProg
namespace Go.Proofs
open Go.RowKit Go.Shelf
attribute [local go_sem] Oper.semAt_some
set_option linter.unusedVariables false
set_option linter.unusedSimpArgs false
set_option maxRecDepth 100000 in
set_option maxHeartbeats 4000000 in
theorem Fl.flush_in (w:World) (A C:Option Addr) (bd od bB oB bC oC nB cB nC cC:Nat) (at_:Nat→Nat) (hc hb:Nat→Mf.Hdr)
  (hbd:bd<w.heap.size) (hA:0<nB→A=some ⟨bB,oB,none⟩∧bB<w.heap.size∧bd≠bB) (hC:0<nC→C=some ⟨bC,oC,none⟩∧bC<w.heap.size∧bC≠bB)
  (cB1:w.cell? ⟨bd,od,none⟩=some (.slice A nB cB)) (cC1:w.cell? ⟨bd,od+1,none⟩=some (.slice C nC cC)) (fC1:w.frozen? ⟨bd,od+1,none⟩=false)
  (eB:∀ j,j<nB→w.cell? ⟨bB,oB+j,none⟩=some (Mf.hvl (hb j))∧w.frozen? ⟨bB,oB+j,none⟩=false)
  (eC:∀ j,j<nC→w.cell? ⟨bC,oC+j*2,none⟩=some (.int .i64 (at_ j))∧w.cell? ⟨bC,oC+j*2+1,none⟩=some (Mf.hvl (hc j))∧at_ j<nB) (hl:nC≤1152921504606846976) :
  Calls Tryz.prog 69 #[.pointer (some ⟨bd,od,none⟩)] w fun e W=>e=.returned (.tuple #[])∧∃ W1,Mf.FI w W1 bB oB nB (Mf.Yed at_ hc (fun _=>true) hb nC)∧W=W1.setCell ⟨bd,od+1,none⟩ (.slice none 0 0):=by
 refine calls_of_wp Tryz.func69 rfl ?_;simp only[Tryz.ntmps69,List.size_toArray,List.length_cons,List.length_nil,Nat.reduceAdd,Nat.reduceSub,Array.replicate_succ,Array.replicate_zero,List.push_toArray,List.append_toArray,List.nil_append,List.cons_append]
 go_wp2
 go_loopw [9] (fun i wr=>∃ k:Nat,k≤nC∧i=.int .i64 k∧Mf.FI w wr bB oB nB (Mf.Yed at_ hc (fun _=>true) hb k)) (fun i _=>nC-(intOf i).toNat)
 case atStart=>exact⟨0,Nat.zero_le _,rfl,Mf.OnlyC.refl _ _,fun j hj=>(eB j hj).1⟩
 case round=>
  obtain⟨k,hk,rfl,I⟩:=hrel
  have d1:=(I.only.cell bd od hbd (fun h=>(hA (by have:=h.2;omega)).2.2 h.1)).trans cB1
  have d2:=(I.only.cell bd (od+1) hbd (fun h=>(hA (by have:=h.2;omega)).2.2 h.1)).trans cC1
  have d3:=(I.only.frz bd (od+1) hbd).trans fC1
  by_cases hlt:k<nC
  ·obtain⟨e1,e2,e3⟩:=eC k hlt
   obtain⟨rfl,hbB,n1⟩:=hA (by omega)
   obtain⟨rfl,hbC,n2⟩:=hC (by omega)
   have e1':=(I.only.cell bC _ hbC (fun h=>n2 h.1)).trans e1;have e2':=(I.only.cell bC _ hbC (fun h=>n2 h.1)).trans e2;have e4:=I.at1 (at_ k) e3;have e5:=(I.only.frz bB (oB+at_ k) hbB).trans (eB (at_ k) e3).2;simp only[Mf.hvl] at e2' e4;have hB1:Below wr.heap.size wr (wr.alloc (.cells #[.int .i64 (at_ k),.slice (hc k).1 (hc k).2.1 (hc k).2.2] 121)):=(Below.refl _ wr).alloc (Nat.le_refl _) _;have I1:=I.alloc (fun _=>hbB) (.cells #[.int .i64 (at_ k),.slice (hc k).1 (hc k).2.1 (hc k).2.2] 121);have hsz:=I.only.size
   have d1':=(hB1.cell (p:=⟨bd,od,none⟩) (by show bd<_;omega)).trans d1
   have e4':=(hB1.cell (p:=⟨bB,oB+at_ k,none⟩) (by show bB<_;omega)).trans e4
   have e5':=(hB1.frozen (p:=⟨bB,oB+at_ k,none⟩) (by show bB<_;omega)).trans e5
   have hh:=World.alloc_heap_new wr (.cells #[.int .i64 (at_ k),.slice (hc k).1 (hc k).2.1 (hc k).2.2] 121)
   have x1:(wr.alloc (.cells #[.int .i64 (at_ k),.slice (hc k).1 (hc k).2.1 (hc k).2.2] 121)).cell? ⟨wr.heap.size,0,none⟩=some (.int .i64 (at_ k)):=by unfold World.cell?;rw[hh];rfl
   have x2:(wr.alloc (.cells #[.int .i64 (at_ k),.slice (hc k).1 (hc k).2.1 (hc k).2.2] 121)).cell? ⟨wr.heap.size,1,none⟩=some (.slice (hc k).1 (hc k).2.1 (hc k).2.2):=by unfold World.cell?;rw[hh];rfl
   go_wp2
   clear hh hB1;generalize wr.alloc (.cells #[.int .i64 (at_ k),.slice (hc k).1 (hc k).2.1 (hc k).2.2] 121)=W1 at d1' e4' e5' x1 x2 I1 ⊢
   go_region
   all_goals (
    go_wp2
    go_roundw
    case rel=>exact⟨k+1,by omega,by simp,by rw[Mf.Yur rfl];exact(I1.set e3 _).drew⟩
    case measure=>simp[intOf];omega)
  ·obtain rfl:k=nC:=by omega
   go_wp2
   go_end0
   exact⟨rfl,wr,I,rfl⟩
end Go.Proofs
namespace Go.Proofs
open Go.RowKit Go.Shelf Go.Lib
attribute [local go_sem] Oper.semAt_some
set_option linter.unusedVariables false
set_option linter.unusedSimpArgs false
set_option maxRecDepth 100000 in
set_option maxHeartbeats 4000000 in
theorem Cc65.grow0 (w:World) (l c n:Nat) (hl0:l=0) (hc0:c=0) (hn:n=0):Calls Tryz.prog 138 #[.slice none l c,.int .i64 n] w fun e w'=>e=.returned (.slice none l c)∧w'=w:=by
 have h1:¬ ((n:Int)<0):=by omega
 have h2:wrap64 ((c:Int)-(l:Int))=(c:Int)-(l:Int):=by unfold wrap64;omega
 have h3:wrap64 ((n:Int)-((c:Int)-(l:Int)))=(n:Int)-((c:Int)-(l:Int)):=by unfold wrap64;omega
 have h4:¬ ((n:Int)-((c:Int)-(l:Int))>0):=by omega
 go_enter Tryz.func138,Tryz.ntmps138
 go_wp2
 go_ret
 exact⟨rfl,rfl⟩
set_option maxRecDepth 100000 in
set_option maxHeartbeats 4000000 in
theorem Cc65.grow1 (w:World) (l c n:Nat) (hl0:l=0) (hc0:c=0) (hn:0<n) (hbig:n≤1048576) (i0:TypeInfo) (hi:Tryz.prog.info? 118=some i0) (hz:i0.zero=some ((Go.Value.agg #[(Go.Value.bool false),(Go.Value.int Go.IntKind.i64 0),(Go.Value.slice none 0 0)]))) (hs:i0.size=3) (hb:i0.bytes=40) :
  Calls Tryz.prog 138 #[.slice none l c,.int .i64 n] w fun e w'=>e=.returned (.slice (some ⟨w.heap.size,0,none⟩) l (grownCap w (l+n) c 118))∧
   w'=w.drew.alloc (.cells (#[]++Builtin.zeroCells (Value.cells ((Go.Value.agg #[(Go.Value.bool false),(Go.Value.int Go.IntKind.i64 0),(Go.Value.slice none 0 0)]))) (l+n-c)++Builtin.zeroCells (Value.cells ((Go.Value.agg #[(Go.Value.bool false),(Go.Value.int Go.IntKind.i64 0),(Go.Value.slice none 0 0)]))) (grownCap w (l+n) c 118-(l+n))) 118):=by
 have h1:¬ ((n:Int)<0):=by omega
 have h2:wrap64 ((c:Int)-(l:Int))=(c:Int)-(l:Int):=by unfold wrap64;omega
 have h3:wrap64 ((n:Int)-((c:Int)-(l:Int)))=(n:Int)-((c:Int)-(l:Int)):=by unfold wrap64;omega
 have h4:(n:Int)-((c:Int)-(l:Int))>0:=by omega
 have hck:c+(l+n-c)=l+n:=by omega
 have hold:(Builtin.firstCells i0.size c (.slice none c c)).run Tryz.prog w.drew=.ok ([]:List Value).toArray w.drew:=by subst hc0;exact run_firstCells_none w.drew i0.size 0 0 0
 have hrz:∀ ty,(Builtin.append_ #[58,3] ty #[.slice none c c,.int .i64 ((n:Int)-((c:Int)-(l:Int)))]).run Tryz.prog w =
   .ok (.slice (some ⟨w.heap.size,0,none⟩) (l+n) (grownCap w (l+n) c 118)) (w.drew.alloc (.cells (#[]++Builtin.zeroCells (Value.cells ((Go.Value.agg #[(Go.Value.bool false),(Go.Value.int Go.IntKind.i64 0),(Go.Value.slice none 0 0)]))) (l+n-c)++Builtin.zeroCells (Value.cells ((Go.Value.agg #[(Go.Value.bool false),(Go.Value.int Go.IntKind.i64 0),(Go.Value.slice none 0 0)]))) (grownCap w (l+n) c 118-(l+n))) 118)):=fun ty=>by
  have h:=Lib.run_append_grow_zeros w 58 3 ty 118 i0 ((Go.Value.agg #[(Go.Value.bool false),(Go.Value.int Go.IntKind.i64 0),(Go.Value.slice none 0 0)])) .i64 .i64 Tryz.underlying58 Tryz.underlying3 hi hz none c c [] hold (l+n-c) (by omega) (by omega) (by omega) (by omega)
   (by rw[hb];omega) (by rw[hck];exact growslice_fits (by omega) (by rw[hb];omega))
  rw[hck] at h
  rw[show(n:Int)-((c:Int)-(l:Int))=((l+n-c:Nat):Int) by omega]
  exact h
 have hGn:l+n≤grownCap w (l+n) c 118:=grownCap_ge w _ _ _;obtain⟨G,hG⟩:∃ G,G=grownCap w (l+n) c 118:=⟨_,rfl⟩;rw[←hG] at hrz hGn ⊢
 have hG63:G≤9223372036854775807:=by
  have:=grownCap_le_maxLen w (l+n) c 118 (by unfold maxLen;omega)
  rw[←hG] at this;unfold maxLen at this;omega
 clear hold hck hG
 go_enter Tryz.func138,Tryz.ntmps138
 subst hc0
 obtain rfl:l=0:=by omega
 go_wp2_with (at_builtin;refine Lib.wpList_append_run _ rfl _ _ _ _ rfl _ _ rfl rfl _ _ (hrz _) ?_)
 all_goals (go_ret;exact⟨rfl,rfl⟩)
theorem Cc65.app0 {w:World} {base:Nat} {v:Value} {n:Nat} {xs:List Value} (hO:w.ownsRow base 118 3 v n xs) (i0:TypeInfo) (hi:Tryz.prog.info? 118=some i0) (hs:i0.size=3) (A:Option Addr) (c:Nat) (ty:TypeId) :
  (Builtin.append_ #[58,58] ty #[v,.slice A 0 c]).run Tryz.prog w=.ok v w:=by
 obtain⟨-,hv⟩:=hO;rcases hv with ⟨rfl,hn⟩ | ⟨g,cap,cur,rfl,hg,hh,hcap,-,hsz,htake⟩
 ·cases A<;>simp[Builtin.append_,run_underlying Tryz.underlying58,Go.sizeOf,typeInfo,hi,Builtin.lenOf,Builtin.firstCells,loadCells,loadCellsFrom]
 ·cases A<;>simp[Builtin.append_,run_underlying Tryz.underlying58,Go.sizeOf,typeInfo,hi,Builtin.lenOf,Builtin.firstCells,loadCells,loadCellsFrom,storeCells,hcap]
theorem Cc65.wr {t n:Nat} (h:t+n≤1048576):wrap64 ((t:Int)+(n:Int))=(t:Int)+(n:Int):=by unfold wrap64;omega
attribute [local go_sem] Cc65.wr
set_option maxRecDepth 100000 in
set_option maxHeartbeats 8000000 in
theorem Cc65.concat_in (w:World) (A:Option Addr) (b off m c:Nat) (hs:Nat→Mf.Hdr) (cs:Nat→List Value) (hI:(Tryz.prog.info? 118).map (fun i=>(i.zero,i.size,i.bytes))=some (some ((Go.Value.agg #[(Go.Value.bool false),(Go.Value.int Go.IntKind.i64 0),(Go.Value.slice none 0 0)])),3,40))
  (hA:0<m→A=some ⟨b,off,none⟩∧b<w.heap.size∧∀ j,j<m→w.cell? ⟨b,off+j,none⟩=some (Mf.hvl (hs j)))
  (hr:∀ j,j<m→(cs j).length=(hs j).2.1*3∧(∀ u∈cs j,u.oneCell'=true)∧(((hs j).2.1=0∧cs j=[])∨∃ b' o',(hs j).1=some ⟨b',o',none⟩∧b'<w.heap.size∧∀ i u,(cs j)[i]? = some u→w.cell? ⟨b',o'+i,none⟩=some u))
  (hm:m≤1048576) (ht:Mf.Ykz hs m≤1048576) :
  Calls Tryz.prog 65 #[.slice A m c] w fun e W=>∃ v,e=.returned v∧Below w.heap.size w W∧W.ownsRow w.heap.size 118 3 v (Mf.Ykz hs m) (Mf.Yt9 cs m):=by
 obtain⟨i0,hi,hz0,hz1,hz2⟩:=info_parts hI;refine calls_of_wp Tryz.func65 rfl ?_;simp only[Tryz.ntmps65,List.size_toArray,List.length_cons,List.length_nil,Nat.reduceAdd,Nat.reduceSub,Array.replicate_succ,Array.replicate_zero,List.push_toArray,List.append_toArray,List.nil_append,List.cons_append]
 go_wp2
 go_loopw [3,11] (fun sz i wr=>∃ k:Nat,k≤m∧i=.int .i64 k∧sz=.int .i64 (Mf.Ykz hs k)∧wr=w) (fun _ i _=>m-(RowKit.intOf i).toNat)
 case atStart=>exact⟨0,Nat.zero_le _,rfl,rfl,rfl⟩
 case round=>
  obtain⟨k,hk,rfl,rfl,hwr⟩:=hrel;have hwr':=hwr.symm;subst hwr'
  by_cases hlt:k<m
  ·obtain⟨rfl,hb,hc⟩:=hA (by omega)
   have c1:=hc k hlt;clear hc;simp only[Mf.hvl] at c1
   have t1:=Mf.Yvu hs (show k+1≤m by omega)
   obtain⟨t,ht'⟩:∃ t,t=Mf.Ykz hs k:=⟨_,rfl⟩
   have t2:Mf.Ykz hs (k+1)=t+(hs k).2.1:=by rw[ht'];rfl
   have htn:t+(hs k).2.1≤1048576:=by omega
   have hneg:¬ ((t:Int)+((hs k).2.1:Int)<0):=by omega
   rw[←ht'];clear t1 ht
   go_wp2
   go_roundw
   case rel=>exact⟨k+1,by omega,by simp,by rw[t2];simp[ht'],by first | rfl | trivial⟩
   case measure=>simp[RowKit.intOf];omega
  ·obtain rfl:k=m:=by omega
   have hG:Calls Tryz.prog 138 #[.slice none 0 0,.int .i64 (Mf.Ykz hs k)] w fun e W=>∃ v,e=.returned v∧Below w.heap.size w W∧W.ownsRow w.heap.size 118 3 v 0 []:=by
    by_cases h0:Mf.Ykz hs k=0
    ·refine(Cc65.grow0 w 0 0 (Mf.Ykz hs k) rfl rfl h0).mono ?_
     rintro e W ⟨rfl,rfl⟩;exact⟨_,rfl,Below.refl _ _,World.ownsRow_nil _ _ _ _⟩
    ·refine(Cc65.grow1 w 0 0 (Mf.Ykz hs k) rfl rfl (by omega) ht i0 hi hz0 hz1 hz2).mono ?_
     rintro e W ⟨rfl,rfl⟩;have hge:=grownCap_ge w (0+Mf.Ykz hs k) 0 118
     refine⟨_,rfl,((Below.refl _ w).drew).alloc (Nat.le_refl _) _,World.ownsRow_made w.drew _ _ (Nat.le_refl _) (grownCap_le_maxLen w (0+Mf.Ykz hs k) 0 118 (by simp only[maxLen];omega)) ?_⟩
     simp only[Array.size_append,List.size_toArray,size_zeroCells,List.length_nil,Nat.zero_add];rw[show(Value.cells ((Go.Value.agg #[(Go.Value.bool false),(Go.Value.int Go.IntKind.i64 0),(Go.Value.slice none 0 0)]))).size=3 from rfl,←Nat.add_mul];rw[Nat.zero_add] at hge;have hg0:=hge
     congr 1;omega
   go_wp2_with (go_at_call 138;refine hG.mono ?_;rintro e w1 ⟨v1,rfl,hB1,hO1⟩)
   clear hG
   go_loopw [6,27] (fun v i W=>∃ k':Nat,k'≤k∧i=.int .i64 k'∧Below w.heap.size w W∧W.ownsRow w.heap.size 118 3 v (Mf.Ykz hs k') (Mf.Yt9 cs k')) (fun _ i _=>k-(RowKit.intOf i).toNat)
   case atStart=>exact⟨0,Nat.zero_le _,rfl,hB1,hO1⟩
   case round=>
    obtain⟨k',hk',rfl,hB,hO⟩:=hrel
    by_cases hlt':k'<k
    ·obtain⟨rfl,hb,hc⟩:=hA (by omega)
     have c1:=(hB.cell (p:=⟨b,off+k',none⟩) hb).trans (hc k' hlt');clear hc;simp only[Mf.hvl] at c1
     have t1:=Mf.Yvu hs (show k'+1≤k by omega)
     have t2:Mf.Ykz hs (k'+1)=Mf.Ykz hs k'+(hs k').2.1:=rfl;obtain⟨r1,r2,r3⟩:=hr k' hlt';have hsz:=hB.size;rcases r3 with ⟨n0,n1⟩ | ⟨b',o',n0,n1,n2⟩
     ·rw[n0] at c1
      have h0:=fun ty=>Cc65.app0 hO i0 hi hz1 (hs k').1 (hs k').2.2 ty
      go_wp2_with (at_builtin;refine Lib.wpList_append_run _ rfl _ _ _ _ rfl _ _ rfl rfl _ _ (h0 _) ?_)
      go_roundw
      case rel=>exact⟨k'+1,by omega,by simp,hB,by rw[t2,n0];simp only[Mf.Yt9,n1,List.append_nil,Nat.add_zero];exact hO⟩
      case measure=>simp[RowKit.intOf];omega
     ·rw[n0] at c1
      have hnews:∀ j u,(cs k')[j]? = some u→wr.cell? (Addr.add ⟨b',o',none⟩ j)=some u:=fun j u hj=>by
       have e:Addr.add ⟨b',o',none⟩ j=⟨b',o'+j,none⟩:=by
        unfold Addr.add
        split
        ·rename_i h;subst h;rfl
        ·simp
       rw[e];exact(hB.cell (p:=⟨b',o'+j,none⟩) n1).trans (n2 j u hj)
      go_wp2_with (at_builtin;refine wpList_append_own _ rfl _ _ 58 rfl w.heap.size 118 i0 ((Go.Value.agg #[(Go.Value.bool false),(Go.Value.int Go.IntKind.i64 0),(Go.Value.slice none 0 0)])) 3 40 Tryz.underlying58 hi hz0 hz1 hz2 rfl (by decide) _ _ _ rfl hO ⟨b',o',none⟩ (hs k').2.1 (hs k').2.2 (cs k') rfl r1 hnews r2 (by simp only[maxLen];omega) (by omega) (by omega) ?_;intro v' w3 hown' hgrow _)
      go_roundw
      case rel=>
       refine⟨k'+1,by omega,by simp,hB.grown hgrow hsz (fun x e=>?_),hown'⟩
       obtain⟨-,⟨rfl,-⟩ | ⟨g,cap,cur,rfl,hg,-⟩⟩:=hO
       ·cases e
       ·cases e;exact hg
      case measure=>simp[RowKit.intOf];omega
    ·obtain rfl:k'=k:=by omega
     go_wp2
     go_ret
     exact⟨_,rfl,hB,hO⟩
end Go.Proofs
