import Derived.BigRegion
import Derived.LoopTactic
import Derived.WalkKit
import Derived.RangeFuncRecord
import Derived.Below
import Derived.Shelf.Abstract
import Derived.IntWalk
import Derived.OwnWalk
import Derived.Lib.AppendZerosOnto
import Derived.Lib.AppendZeros
import Derived.Lib.SliceRun
import Derived.Lib.Walk
import Derived.Lib.Walk
import Derived.Lib.Bytealg
import Derived.Shelf.RegionOpenPlain
import Derived.Laws.Strings3
import Derived.Shelf.Strings.OnBuilder
import Derived.Test.YtbfbhdehdgnkjaaGreatDoorMf4
import Derived.Test.YtbfbhdehdgnkjaaGreatDoorProg
namespace Go.Proofs
open Go.RowKit Go.Shelf Go.Lib
attribute [local go_sem] Oper.semAt_some
set_option linter.unusedVariables false
set_option linter.unusedSimpArgs false
set_option maxRecDepth 100000 in
set_option maxHeartbeats 4000000 in
theorem Cc79.grow0 (w:World) (l c n:Nat) (hl0:l=0) (hc0:c=0) (hn:n=0):Calls Tryz.prog 92 #[.slice none l c,.int .i64 n] w fun e w'=>e=.returned (.slice none l c)∧w'=w:=by
 have h1:¬ ((n:Int)<0):=by omega
 have h2:wrap64 ((c:Int)-(l:Int))=(c:Int)-(l:Int):=by unfold wrap64;omega
 have h3:wrap64 ((n:Int)-((c:Int)-(l:Int)))=(n:Int)-((c:Int)-(l:Int)):=by unfold wrap64;omega
 have h4:¬ ((n:Int)-((c:Int)-(l:Int))>0):=by omega
 go_enter Tryz.func92,Tryz.ntmps92
 go_wp2
 go_ret
 exact⟨rfl,rfl⟩
set_option maxRecDepth 100000 in
set_option maxHeartbeats 4000000 in
theorem Cc79.grow1 (w:World) (l c n:Nat) (hl0:l=0) (hc0:c=0) (hn:0<n) (hbig:n≤1048576) (i0:TypeInfo) (hi:Tryz.prog.info? 9=some i0) (hz:i0.zero=some ((Go.Value.string ⟨#[]⟩))) (hs:i0.size=1) (hb:i0.bytes=16) :
  Calls Tryz.prog 92 #[.slice none l c,.int .i64 n] w fun e w'=>e=.returned (.slice (some ⟨w.heap.size,0,none⟩) l (grownCap w (l+n) c 9))∧
   w'=w.drew.alloc (.cells (#[]++Builtin.zeroCells (Value.cells ((Go.Value.string ⟨#[]⟩))) (l+n-c)++Builtin.zeroCells (Value.cells ((Go.Value.string ⟨#[]⟩))) (grownCap w (l+n) c 9-(l+n))) 9):=by
 have h1:¬ ((n:Int)<0):=by omega
 have h2:wrap64 ((c:Int)-(l:Int))=(c:Int)-(l:Int):=by unfold wrap64;omega
 have h3:wrap64 ((n:Int)-((c:Int)-(l:Int)))=(n:Int)-((c:Int)-(l:Int)):=by unfold wrap64;omega
 have h4:(n:Int)-((c:Int)-(l:Int))>0:=by omega
 have hck:c+(l+n-c)=l+n:=by omega
 have hold:(Builtin.firstCells i0.size c (.slice none c c)).run Tryz.prog w.drew=.ok ([]:List Value).toArray w.drew:=by subst hc0;exact run_firstCells_none w.drew i0.size 0 0 0
 have hrz:∀ ty,(Builtin.append_ #[42,3] ty #[.slice none c c,.int .i64 ((n:Int)-((c:Int)-(l:Int)))]).run Tryz.prog w =
   .ok (.slice (some ⟨w.heap.size,0,none⟩) (l+n) (grownCap w (l+n) c 9)) (w.drew.alloc (.cells (#[]++Builtin.zeroCells (Value.cells ((Go.Value.string ⟨#[]⟩))) (l+n-c)++Builtin.zeroCells (Value.cells ((Go.Value.string ⟨#[]⟩))) (grownCap w (l+n) c 9-(l+n))) 9)):=fun ty=>by
  have h:=Lib.run_append_grow_zeros w 42 3 ty 9 i0 ((Go.Value.string ⟨#[]⟩)) .i64 .i64 Tryz.underlying42 Tryz.underlying3 hi hz none c c [] hold (l+n-c) (by omega) (by omega) (by omega) (by omega)
   (by rw[hb];omega) (by rw[hck];exact growslice_fits (by omega) (by rw[hb];omega))
  rw[hck] at h
  rw[show(n:Int)-((c:Int)-(l:Int))=((l+n-c:Nat):Int) by omega]
  exact h
 have hGn:l+n≤grownCap w (l+n) c 9:=grownCap_ge w _ _ _;obtain⟨G,hG⟩:∃ G,G=grownCap w (l+n) c 9:=⟨_,rfl⟩;rw[←hG] at hrz hGn ⊢
 have hG63:G≤9223372036854775807:=by
  have:=grownCap_le_maxLen w (l+n) c 9 (by unfold maxLen;omega)
  rw[←hG] at this;unfold maxLen at this;omega
 clear hold hck hG
 go_enter Tryz.func92,Tryz.ntmps92
 subst hc0
 obtain rfl:l=0:=by omega
 go_wp2_with (at_builtin;refine Lib.wpList_append_run _ rfl _ _ _ _ rfl _ _ rfl rfl _ _ (hrz _) ?_)
 all_goals (go_ret;exact⟨rfl,rfl⟩)
theorem Cc79.app0 {w:World} {base:Nat} {v:Value} {n:Nat} {xs:List Value} (hO:w.ownsRow base 9 1 v n xs) (i0:TypeInfo) (hi:Tryz.prog.info? 9=some i0) (hs:i0.size=1) (A:Option Addr) (c:Nat) (ty:TypeId) :
  (Builtin.append_ #[42,42] ty #[v,.slice A 0 c]).run Tryz.prog w=.ok v w:=by
 obtain⟨-,hv⟩:=hO;rcases hv with ⟨rfl,hn⟩ | ⟨g,cap,cur,rfl,hg,hh,hcap,-,hsz,htake⟩
 ·cases A<;>simp[Builtin.append_,run_underlying Tryz.underlying42,Go.sizeOf,typeInfo,hi,Builtin.lenOf,Builtin.firstCells,loadCells,loadCellsFrom]
 ·cases A<;>simp[Builtin.append_,run_underlying Tryz.underlying42,Go.sizeOf,typeInfo,hi,Builtin.lenOf,Builtin.firstCells,loadCells,loadCellsFrom,storeCells,hcap]
theorem Cc79.wr {t n:Nat} (h:t+n≤1048576):wrap64 ((t:Int)+(n:Int))=(t:Int)+(n:Int):=by unfold wrap64;omega
attribute [local go_sem] Cc79.wr
set_option maxRecDepth 100000 in
set_option maxHeartbeats 8000000 in
theorem Cc79.concat_in (w:World) (A:Option Addr) (b off m c:Nat) (hs:Nat→Mf.Hdr) (cs:Nat→List Value) (hI:(Tryz.prog.info? 9).map (fun i=>(i.zero,i.size,i.bytes))=some (some ((Go.Value.string ⟨#[]⟩)),1,16))
  (hA:0<m→A=some ⟨b,off,none⟩∧b<w.heap.size∧∀ j,j<m→w.cell? ⟨b,off+j,none⟩=some (Mf.hvl (hs j)))
  (hr:∀ j,j<m→(cs j).length=(hs j).2.1*1∧(∀ u∈cs j,u.oneCell'=true)∧(((hs j).2.1=0∧cs j=[])∨∃ b' o',(hs j).1=some ⟨b',o',none⟩∧b'<w.heap.size∧∀ i u,(cs j)[i]? = some u→w.cell? ⟨b',o'+i,none⟩=some u))
  (hm:m≤1048576) (ht:Mf.Ylj hs m≤1048576) :
  Calls Tryz.prog 79 #[.slice A m c] w fun e W=>∃ v,e=.returned v∧Below w.heap.size w W∧W.ownsRow w.heap.size 9 1 v (Mf.Ylj hs m) (Mf.Ys9 cs m):=by
 obtain⟨i0,hi,hz0,hz1,hz2⟩:=info_parts hI;refine calls_of_wp Tryz.func79 rfl ?_;simp only[Tryz.ntmps79,List.size_toArray,List.length_cons,List.length_nil,Nat.reduceAdd,Nat.reduceSub,Array.replicate_succ,Array.replicate_zero,List.push_toArray,List.append_toArray,List.nil_append,List.cons_append]
 go_wp2
 go_loopw [3,11] (fun sz i wr=>∃ k:Nat,k≤m∧i=.int .i64 k∧sz=.int .i64 (Mf.Ylj hs k)∧wr=w) (fun _ i _=>m-(RowKit.intOf i).toNat)
 case atStart=>exact⟨0,Nat.zero_le _,rfl,rfl,rfl⟩
 case round=>
  obtain⟨k,hk,rfl,rfl,hwr⟩:=hrel;have hwr':=hwr.symm;subst hwr'
  by_cases hlt:k<m
  ·obtain⟨rfl,hb,hc⟩:=hA (by omega)
   have c1:=hc k hlt;clear hc;simp only[Mf.hvl] at c1
   have t1:=Mf.Yu0 hs (show k+1≤m by omega)
   obtain⟨t,ht'⟩:∃ t,t=Mf.Ylj hs k:=⟨_,rfl⟩
   have t2:Mf.Ylj hs (k+1)=t+(hs k).2.1:=by rw[ht'];rfl
   have htn:t+(hs k).2.1≤1048576:=by omega
   have hneg:¬ ((t:Int)+((hs k).2.1:Int)<0):=by omega
   rw[←ht'];clear t1 ht
   go_wp2
   go_roundw
   case rel=>exact⟨k+1,by omega,by simp,by rw[t2];simp[ht'],by first | rfl | trivial⟩
   case measure=>simp[RowKit.intOf];omega
  ·obtain rfl:k=m:=by omega
   have hG:Calls Tryz.prog 92 #[.slice none 0 0,.int .i64 (Mf.Ylj hs k)] w fun e W=>∃ v,e=.returned v∧Below w.heap.size w W∧W.ownsRow w.heap.size 9 1 v 0 []:=by
    by_cases h0:Mf.Ylj hs k=0
    ·refine(Cc79.grow0 w 0 0 (Mf.Ylj hs k) rfl rfl h0).mono ?_
     rintro e W ⟨rfl,rfl⟩;exact⟨_,rfl,Below.refl _ _,World.ownsRow_nil _ _ _ _⟩
    ·refine(Cc79.grow1 w 0 0 (Mf.Ylj hs k) rfl rfl (by omega) ht i0 hi hz0 hz1 hz2).mono ?_
     rintro e W ⟨rfl,rfl⟩;have hge:=grownCap_ge w (0+Mf.Ylj hs k) 0 9
     refine⟨_,rfl,((Below.refl _ w).drew).alloc (Nat.le_refl _) _,World.ownsRow_made w.drew _ _ (Nat.le_refl _) (grownCap_le_maxLen w (0+Mf.Ylj hs k) 0 9 (by simp only[maxLen];omega)) ?_⟩
     simp only[Array.size_append,List.size_toArray,size_zeroCells,List.length_nil,Nat.zero_add];rw[show(Value.cells ((Go.Value.string ⟨#[]⟩))).size=1 from rfl,←Nat.add_mul];rw[Nat.zero_add] at hge;have hg0:=hge
     congr 1;omega
   go_wp2_with (go_at_call 92;refine hG.mono ?_;rintro e w1 ⟨v1,rfl,hB1,hO1⟩)
   clear hG
   go_loopw [6,27] (fun v i W=>∃ k':Nat,k'≤k∧i=.int .i64 k'∧Below w.heap.size w W∧W.ownsRow w.heap.size 9 1 v (Mf.Ylj hs k') (Mf.Ys9 cs k')) (fun _ i _=>k-(RowKit.intOf i).toNat)
   case atStart=>exact⟨0,Nat.zero_le _,rfl,hB1,hO1⟩
   case round=>
    obtain⟨k',hk',rfl,hB,hO⟩:=hrel
    by_cases hlt':k'<k
    ·obtain⟨rfl,hb,hc⟩:=hA (by omega)
     have c1:=(hB.cell (p:=⟨b,off+k',none⟩) hb).trans (hc k' hlt');clear hc;simp only[Mf.hvl] at c1
     have t1:=Mf.Yu0 hs (show k'+1≤k by omega)
     have t2:Mf.Ylj hs (k'+1)=Mf.Ylj hs k'+(hs k').2.1:=rfl;obtain⟨r1,r2,r3⟩:=hr k' hlt';have hsz:=hB.size;rcases r3 with ⟨n0,n1⟩ | ⟨b',o',n0,n1,n2⟩
     ·rw[n0] at c1
      have h0:=fun ty=>Cc79.app0 hO i0 hi hz1 (hs k').1 (hs k').2.2 ty
      go_wp2_with (at_builtin;refine Lib.wpList_append_run _ rfl _ _ _ _ rfl _ _ rfl rfl _ _ (h0 _) ?_)
      go_roundw
      case rel=>exact⟨k'+1,by omega,by simp,hB,by rw[t2,n0];simp only[Mf.Ys9,n1,List.append_nil,Nat.add_zero];exact hO⟩
      case measure=>simp[RowKit.intOf];omega
     ·rw[n0] at c1
      have hnews:∀ j u,(cs k')[j]? = some u→wr.cell? (Addr.add ⟨b',o',none⟩ j)=some u:=fun j u hj=>by
       have e:Addr.add ⟨b',o',none⟩ j=⟨b',o'+j,none⟩:=by
        unfold Addr.add
        split
        ·rename_i h;subst h;rfl
        ·simp
       rw[e];exact(hB.cell (p:=⟨b',o'+j,none⟩) n1).trans (n2 j u hj)
      go_wp2_with (at_builtin;refine wpList_append_own _ rfl _ _ 42 rfl w.heap.size 9 i0 ((Go.Value.string ⟨#[]⟩)) 1 16 Tryz.underlying42 hi hz0 hz1 hz2 rfl (by decide) _ _ _ rfl hO ⟨b',o',none⟩ (hs k').2.1 (hs k').2.2 (cs k') rfl r1 hnews r2 (by simp only[maxLen];omega) (by omega) (by omega) ?_;intro v' w3 hown' hgrow _)
      go_roundw
      case rel=>
       refine⟨k'+1,by omega,by simp,hB.grown hgrow hsz (fun x e=>?_),hown'⟩
       obtain⟨-,⟨rfl,-⟩ | ⟨g,cap,cur,rfl,hg,-⟩⟩:=hO
       ·cases e
       ·cases e;exact hg
      case measure=>simp[RowKit.intOf];omega
    ·obtain rfl:k'=k:=by omega
     go_wp2
     go_ret
     exact⟨_,rfl,hB,hO⟩
end Go.Proofs
namespace Go.Proofs
open Go.RowKit Go.Shelf
set_option maxRecDepth 100000 in
set_option maxHeartbeats 1000000 in
theorem Ib.index_any (s:ByteArray) (c:Int) (w:World) :
  Calls Tryz.prog 140 #[.string s,.int .u8 c] w fun e w'=>e=.returned (.int .i64 (Lib.indexByte s.data.toList c.toNat.toUInt8))∧w'=w:=by
 go_enter Tryz.func140,Tryz.ntmps140
 go_wp2
 rw[run_callFunc_extern Tryz.func144 (by kernel_rfl) (by kernel_rfl) (by kernel_rfl) (e:=Extern.BytealgIndexByte.indexByte) (by kernel_rfl),Lib.run_indexByteString]
 simp only[Result.andThen];rw[Oper.upon_value]
 go_wp2
 go_ret
 exact⟨rfl,rfl⟩
end Go.Proofs
namespace Go.Proofs
open Go.RowKit Go.Shelf
set_option maxRecDepth 100000 in
set_option maxHeartbeats 1000000 in
theorem Ct.count_one (s:ByteArray) (c:UInt8) (w:World) :
  Calls Tryz.prog 117 #[.string s,.string ⟨#[c]⟩] w fun e w'=>e=.returned (.int .i64 (s.data.toList.count c:Nat))∧w'=w:=by
 go_enter Tryz.func117,Tryz.ntmps117
 go_wp2
 rw[run_callFunc_extern Tryz.func133 (by kernel_rfl) (by kernel_rfl) (by kernel_rfl) (e:=Extern.BytealgCount.count) (by kernel_rfl),Lib.run_countString]
 simp only[Result.andThen];rw[Oper.upon_value]
 go_wp2
 go_ret
 exact⟨rfl,rfl⟩
end Go.Proofs
namespace Go.Proofs
open Go.Shelf
def Tryz.laysJoin_ren:Go.Shelf.Ren:=⟨fun | 156=>93 | 165=>113 | 166=>114 | 169=>115 | 240=>129 | 241=>130 | 276=>137 | 277=>138 | n=>n,fun | 31=>42 | 9=>9 | 3=>3 | 4=>4 | 0=>0 | 20=>20 | 72=>140 | 76=>144 | 70=>138 | 37=>65 | 75=>143 | 127=>157 | 164=>166 | 5=>5 | 80=>146 | n=>n,fun | n=>n⟩
theorem Tryz.laysJoin:Go.Proofs.Lays.n156 Tryz.prog Tryz.laysJoin_ren:={
 mixed:=by kernel_rfl
 f156:=Tryz.func93.trans (congrArg some (by kernel_rfl))
 f165:=Tryz.func113.trans (congrArg some (by kernel_rfl))
 f166:=Tryz.func114.trans (congrArg some (by kernel_rfl))
 f169:=Tryz.func115.trans (congrArg some (by kernel_rfl))
 f240:=Tryz.func129.trans (congrArg some (by kernel_rfl))
 f241:=Tryz.func130.trans (congrArg some (by kernel_rfl))
 f276:=Tryz.func137.trans (congrArg some (by kernel_rfl))
 f277:=Tryz.func138.trans (congrArg some (by kernel_rfl))
 t0:=Tryz.underlying0
 a0:=Tryz.isAgg0
 z0:=Tryz.sizeOf0
 v0:=Tryz.zeroValue0
 t3:=Tryz.underlying3
 a3:=Tryz.isAgg3
 z3:=Tryz.sizeOf3
 v3:=Tryz.zeroValue3
 t4:=Tryz.underlying4
 a4:=Tryz.isAgg4
 z4:=Tryz.sizeOf4
 v4:=Tryz.zeroValue4
 t9:=Tryz.underlying9
 a9:=Tryz.isAgg9
 z9:=Tryz.sizeOf9
 v9:=Tryz.zeroValue9
 t20:=Tryz.underlying20
 a20:=Tryz.isAgg20
 z20:=Tryz.sizeOf20
 v20:=Tryz.zeroValue20
 t31:=Tryz.underlying42
 a31:=Tryz.isAgg42
 z31:=Tryz.sizeOf42
 v31:=Tryz.zeroValue42
 t37:=Tryz.underlying65
 a37:=Tryz.isAgg65
 z37:=Tryz.sizeOf65
 v37:=Tryz.zeroValue65
 t70:=Tryz.underlying138
 a70:=Tryz.isAgg138
 z70:=Tryz.sizeOf138
 v70:=Tryz.zeroValue138
 t72:=Tryz.underlying140
 a72:=Tryz.isAgg140
 z72:=Tryz.sizeOf140
 v72:=Tryz.zeroValue140
 t75:=Tryz.underlying143
 a75:=Tryz.isAgg143
 z75:=Tryz.sizeOf143
 v75:=Tryz.zeroValue143
 t76:=Tryz.underlying144
 a76:=Tryz.isAgg144
 z76:=Tryz.sizeOf144
 v76:=Tryz.zeroValue144
 t127:=Tryz.underlying157
 a127:=Tryz.isAgg157
 z127:=Tryz.sizeOf157
 v127:=Tryz.zeroValue157
 t164:=Tryz.underlying166
 a164:=Tryz.isAgg166
 z164:=Tryz.sizeOf166
 v164:=Tryz.zeroValue166 }
end Go.Proofs
namespace Go.Proofs
open Go.RowKit Go.Shelf
theorem Tryz.extraJoin:Builder.Extra Tryz.prog Tryz.laysJoin_ren where
 sizeBuilder:=by kernel_rfl
 liesBuilder:=by kernel_rfl
 t5:=Tryz.underlying5
 a5:=Tryz.isAgg5
 z5:=Tryz.sizeOf5
 v5:=Tryz.zeroValue5
 infoByte:=by kernel_rfl
 cellsByte:=by kernel_rfl
 sizeByte:=by kernel_rfl
 neB5:=by decide
theorem Jn.join_any (w:World) (A:Option Addr) (c:Nat) (zs:List ByteArray) (s:ByteArray) (h1:zs.length≤1048576) (h2:(Lib.join (zs.map (·.data.toList)) s.data.toList).length≤1048576)
  (h3:zs≠[]→∃ b o,A=some ⟨b,o,none⟩∧b<w.heap.size∧∀ (j:Nat) x,zs[j]? = some x→w.cell? ⟨b,o+j,none⟩=some (.string x)) (h4:zs.length≤c) :
  Calls Tryz.prog 93 #[.slice A zs.length c,.string s] w fun e w'=>e=.returned (.string ⟨(Lib.join (zs.map (·.data.toList)) s.data.toList).toArray⟩)∧Below w.heap.size w w':=by
 cases zs with
 |nil=>exact(Any.strings_Join_none Tryz.laysJoin Tryz.extraJoin A c s w).mono fun e w' ⟨he,hw⟩=>⟨he,hw▸Below.refl _ _⟩
 |cons z r=>
  obtain⟨b,o,rfl,hb,hc⟩:=h3 (by simp)
  exact Any.strings_Join Tryz.laysJoin Tryz.extraJoin b o c (z::r) s w hc hb (by omega) h4 (by omega)
end Go.Proofs
