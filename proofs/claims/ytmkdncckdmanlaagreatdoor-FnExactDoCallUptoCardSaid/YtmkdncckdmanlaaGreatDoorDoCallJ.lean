import Derived.BigRegion
import Derived.LoopTactic
import Derived.WalkKit
import Derived.RangeFuncRecord
import Derived.Below
import Derived.Shelf.Abstract
import Derived.IntWalk
import Derived.Lib.Walk
import Derived.Lib.Bytealg
import Derived.Shelf.RegionOpenPlain
import Derived.Laws.Strings3
import Derived.Shelf.Spec.SlicesInsert
import Derived.Lib.AppendZerosOnto
import Derived.Laws.NewBlocks
import Derived.Lib.Overlaps
import Derived.Test.YtmkdncckdmanlaaGreatDoorMf4
import Derived.Test.YtmkdncckdmanlaaGreatDoorProg
namespace Go.Proofs
open Go.RowKit Go.Shelf
set_option maxRecDepth 100000 in
set_option maxHeartbeats 1000000 in
theorem Ib.index_any (s:ByteArray) (c:Int) (w:World) :
  Calls Tryz.prog 229 #[.string s,.int .u8 c] w fun e w'=>e=.returned (.int .i64 (Lib.indexByte s.data.toList c.toNat.toUInt8))∧w'=w:=by
 go_enter Tryz.func229,Tryz.ntmps229
 go_wp2
 rw[run_callFunc_extern Tryz.func233 (by kernel_rfl) (by kernel_rfl) (by kernel_rfl) (e:=Extern.BytealgIndexByte.indexByte) (by kernel_rfl),Lib.run_indexByteString]
 simp only[Result.andThen];rw[Oper.upon_value]
 go_wp2
 go_ret
 exact⟨rfl,rfl⟩
end Go.Proofs
namespace Go.Proofs
open Go.RowKit Go.Shelf
set_option maxRecDepth 100000 in
set_option maxHeartbeats 1000000 in
theorem Ct.count_one (s:ByteArray) (c:UInt8) (w:World) :
  Calls Tryz.prog 213 #[.string s,.string ⟨#[c]⟩] w fun e w'=>e=.returned (.int .i64 (s.data.toList.count c:Nat))∧w'=w:=by
 go_enter Tryz.func213,Tryz.ntmps213
 go_wp2
 rw[run_callFunc_extern Tryz.func225 (by kernel_rfl) (by kernel_rfl) (by kernel_rfl) (e:=Extern.BytealgCount.count) (by kernel_rfl),Lib.run_countString]
 simp only[Result.andThen];rw[Oper.upon_value]
 go_wp2
 go_ret
 exact⟨rfl,rfl⟩
end Go.Proofs
namespace Go.Proofs
open Go.RowKit Go.Shelf Go.Lib
set_option linter.unusedVariables false
set_option linter.unusedSimpArgs false
theorem In.info:(Tryz.prog.info? 89).map (fun i=>(i.zero,i.size,i.bytes))=some (some (.agg #[.string ⟨#[]⟩,.int .i64 0]),2,24):=by kernel_rfl
set_option maxHeartbeats 4000000 in
set_option maxRecDepth 100000 in
theorem In.end_room (b off n c vb:Nat) (vs:List Value) (w:World) (hroom:n+1≤c) (hbig:n+1≤1048577) (hvl:vs.length=2)
  (hsp:∀ j,j<2→(w.cell? ⟨b,off+n*2+j,none⟩).isSome=true) (hfz:∀ j,j<2→w.frozen? ⟨b,off+n*2+j,none⟩=false)
  (hvs:∀ j v,vs[j]? = some v→w.cell? ⟨vb,j,none⟩=some v) (h1v:∀ v∈vs,v.oneCell'=true) :
  Calls Tryz.prog 160 #[.slice (some ⟨b,off,none⟩) n c,.int .i64 n,.slice (some ⟨vb,0,none⟩) 1 1] w fun e w'=>e=.returned (.slice (some ⟨b,off,none⟩) (n+1) c)∧w'=w.setCells b (off+n*2) vs:=by
 obtain⟨i0,hi0,hz0,hzs,hzb⟩:=info_parts In.info
 have hsrc:Src Tryz.prog i0.size 82 (.slice (some ⟨vb,0,none⟩) 1 1) 1 vs w:=by
  rw[hzs];exact Src.ofSlice w Tryz.underlying82 ⟨vb,0,none⟩ 1 1 vs (by omega) (fun j u hj=>by rw[Addr.add_lit,Nat.zero_add];exact hvs j u hj) h1v
 have hrun:∀ ty,(Builtin.append_ #[82,82] ty #[.slice (some ⟨b,off,none⟩) n c,.slice (some ⟨vb,0,none⟩) 1 1]).run Tryz.prog w=.ok (.slice (some ⟨b,off,none⟩) (n+1) c) (w.setCells b (off+n*2) vs):=fun ty=>by
  have:=run_append_room_src w 82 82 ty 89 i0 Tryz.underlying82 hi0 b off n c _ 1 vs hsrc hroom (by rw[hzs,hvl];exact hsp) (by rw[hzs,hvl];exact hfz)
  rw[hzs] at this;exact this
 go_enter Tryz.func160,Tryz.ntmps160
 go_wp2_with (at_builtin;refine Lib.wpList_append_run _ rfl _ _ _ _ rfl _ _ rfl rfl _ _ (hrun _) ?_)
 go_ret
 exact⟨rfl,rfl⟩
set_option maxHeartbeats 4000000 in
set_option maxRecDepth 100000 in
theorem In.end_grow (base:Option Addr) (n c vb:Nat) (cs vs:List Value) (w:World) (hnc:n≤c) (hroom:c<n+1) (hbig:n+1≤1048577) (hcl:cs.length=n*2) (hvl:vs.length=2) (hnil:base=none→n=0)
  (hcs:∀ a,base=some a→∀ j v,cs[j]? = some v→w.cell? (a.add j)=some v) (hvs:∀ j v,vs[j]? = some v→w.cell? ⟨vb,j,none⟩=some v) (h1v:∀ v∈vs,v.oneCell'=true) :
  Calls Tryz.prog 160 #[.slice base n c,.int .i64 n,.slice (some ⟨vb,0,none⟩) 1 1] w fun e w'=>e=.returned (.slice (some ⟨w.heap.size,0,none⟩) (n+1) (grownCap w (n+1) c 89))∧
   w'=w.drew.alloc (.cells ((cs++vs).toArray++Builtin.zeroCells (Value.cells (.agg #[.string ⟨#[]⟩,.int .i64 0])) (grownCap w (n+1) c 89-(n+1))) 89):=by
 obtain⟨i0,hi0,hz0,hzs,hzb⟩:=info_parts In.info
 have hsrc:Src Tryz.prog i0.size 82 (.slice (some ⟨vb,0,none⟩) 1 1) 1 vs w:=by
  rw[hzs];exact Src.ofSlice w Tryz.underlying82 ⟨vb,0,none⟩ 1 1 vs (by omega) (fun j u hj=>by rw[Addr.add_lit,Nat.zero_add];exact hvs j u hj) h1v
 have hold:(Builtin.firstCells i0.size n (.slice base n c)).run Tryz.prog w.drew=.ok cs.toArray w.drew:=by
  rw[hzs]
  cases base with
  |none=>
   have h0:=hnil rfl;subst h0;rw[List.length_eq_zero_iff.1 hcl]
   exact run_firstCells_none w.drew 2 0 0 c
  |some a=>exact run_firstCells_some w.drew 2 n a n c cs (by omega) (fun j v hj=>hcs a rfl j v hj)
 have hrun:∀ ty,(Builtin.append_ #[82,82] ty #[.slice base n c,.slice (some ⟨vb,0,none⟩) 1 1]).run Tryz.prog w=_:=fun ty=>
  run_append_grow_src w 82 82 ty 89 i0 _ Tryz.underlying82 hi0 hz0 base n c cs hold _ 1 vs hsrc hroom (by omega) (by rw[hzb];exact growslice_fits hroom (by omega))
 go_enter Tryz.func160,Tryz.ntmps160
 cases base with
 |none=>
  have h0:=hnil rfl;subst h0
  go_wp2_with (at_builtin;refine Lib.wpList_append_run _ rfl _ _ _ _ rfl _ _ rfl rfl _ _ (hrun _) ?_)
  go_ret
  exact⟨rfl,rfl⟩
 |some a=>
  obtain⟨ab,ao,asp⟩:=a
  go_wp2_with (at_builtin;refine Lib.wpList_append_run _ rfl _ _ _ _ rfl _ _ rfl rfl _ _ (hrun _) ?_)
  all_goals (go_ret;exact⟨rfl,rfl⟩)
theorem In.run_copy (w:World) (ty:TypeId) (b o dLen dCap:Nat) (a:Addr) (sLen sCap:Nat) (cs:List Value) (hn:cs.length=Nat.min sLen dLen*2) (hsrc:∀ j v,cs[j]? = some v→w.cell? (a.add j)=some v)
  (hc:∀ j,j<cs.length→(w.cell? ⟨b,o+j,none⟩).isSome=true) (hf:∀ j,j<cs.length→w.frozen? ⟨b,o+j,none⟩=false) (h1:∀ v∈cs,v.oneCell'=true) :
  (Builtin.copy_ #[82,82] ty #[.slice (some ⟨b,o,none⟩) dLen dCap,.slice (some a) sLen sCap]).run Tryz.prog w=.ok (goInt (Nat.min sLen dLen)) (w.setCells b o cs):=by
 obtain⟨i0,hi0,hz0,hzs,hzb⟩:=info_parts In.info;have hl:=run_loadCells_list (P:=Tryz.prog) w a cs hsrc
 have hst:=run_storeCells_cells (P:=Tryz.prog) b o cs 0 w (by simpa using hc) (by simpa using hf) h1
 simp[Builtin.copy_,run_underlying Tryz.underlying82,Builtin.lenOf,Builtin.firstCells,sizeOf,typeInfo,hi0,hzs,←hn,hl,hst]
set_option maxHeartbeats 4000000 in
set_option maxRecDepth 100000 in
theorem In.shift (b off n c i vb:Nat) (cs vs:List Value) (w:World) (hi:i<n) (hroom:n+1≤c) (hbig:n+1≤1048577) (hvb:vb≠b) (hcl:cs.length=n*2) (hvl:vs.length=2)
  (hcs:∀ j v,cs[j]? = some v→w.cell? ⟨b,off+j,none⟩=some v) (hsp:∀ j,j<(n+1)*2→(w.cell? ⟨b,off+j,none⟩).isSome=true) (hfz:∀ j,j<(n+1)*2→w.frozen? ⟨b,off+j,none⟩=false)
  (hvs:∀ j v,vs[j]? = some v→w.cell? ⟨vb,j,none⟩=some v) (h1c:∀ v∈cs,v.oneCell'=true) (h1v:∀ v∈vs,v.oneCell'=true)
  (tA tB:TypeId) (kA kB:Nat) (hsa:w.shape? vb=some (tA,kA)) (hsb:w.shape? b=some (tB,kB)) (hkB:kB≠0) (hfa:w.frozen? ⟨vb,0,none⟩=false) (hfe:w.frozen? ⟨vb,kA,none⟩=false) :
  Calls Tryz.prog 160 #[.slice (some ⟨b,off,none⟩) n c,.int .i64 i,.slice (some ⟨vb,0,none⟩) 1 1] w fun e w'=>
   e=.returned (.slice (some ⟨b,off,none⟩) (n+1) c)∧w'=(w.drew.setCells b (off+(i+1)*2) (cs.drop (i*2))).setCells b (off+i*2) vs:=by
 have n2:¬ ((i:Int)=(n:Int)):=by omega
 have hz2:∀ w,(Go.sizeOf 89).run Tryz.prog w=.ok 2 w:=Tryz.sizeOf89
 have hov:∀ lb cb,(callFunc 184 #[.slice (some ⟨vb,0,none⟩) 1 1,.slice (some ⟨b,off+(i+1)*2,none⟩) lb cb]).run Tryz.prog w=.ok (.value (.bool false)) w:=fun lb cb=>by
  rw[run_callFunc_extern Tryz.func184 (by kernel_rfl) (by kernel_rfl) (by kernel_rfl) (e:=Extern.SlicesOverlaps.overlaps #[82,82] #[4]) (by kernel_rfl),
   Lib.run_overlaps_apart w 82 4 89 Tryz.underlying82 2 hz2 ⟨vb,0,none⟩ ⟨b,off+(i+1)*2,none⟩ 1 1 lb cb hvb tA tB kA kB hsa hsb hkB hfa hfe]
  rfl
 have hdl:(cs.drop (i*2)).length=(n-i)*2:=by rw[List.length_drop,hcl];omega
 have hw1:IntKind.i64.wrap ((i:Int)+(1:Int))=(i:Int)+(1:Int):=by rw[IntKind.wrap_i64];omega
 have htn:((i:Int)+(1:Int)).toNat=i+1:=by omega
 have hcp1:∀ ty dc sc,(Builtin.copy_ #[82,82] ty #[.slice (some ⟨b,off+(i+1)*2,none⟩) (n-i) dc,.slice (some ⟨b,off+i*2,none⟩) (n+1-i) sc]).run Tryz.prog w.drew =
   .ok (goInt (Nat.min (n+1-i) (n-i))) (w.drew.setCells b (off+(i+1)*2) (cs.drop (i*2))):=fun ty dc sc=>
  In.run_copy w.drew ty b (off+(i+1)*2) _ dc ⟨b,off+i*2,none⟩ _ sc (cs.drop (i*2)) (by rw[hdl];simp only[Nat.min_def];split<;>omega)
   (fun j v hj=>by rw[Addr.add_lit,Nat.add_assoc];exact hcs (i*2+j) v (by rwa [List.getElem?_drop] at hj))
   (fun j hj=>by rw[Nat.add_assoc];exact hsp _ (by omega)) (fun j hj=>by rw[Nat.add_assoc];exact hfz _ (by omega)) (fun v hv=>h1c v (List.mem_of_mem_drop hv))
 obtain⟨W1,hW1⟩:∃ W1,W1=w.drew.setCells b (off+(i+1)*2) (cs.drop (i*2)):=⟨_,rfl⟩
 have hsp1:∀ k,k<(n+1)*2→(W1.cell? ⟨b,off+k,none⟩).isSome=true:=fun k hk=>by
  rw[hW1]
  exact isSome_setCells b _ _ _ (fun j hj=>by rw[Nat.add_assoc];exact hsp _ (by omega)) _ (hsp k hk)
 have hcp2:∀ (W:World),(∀ x,W.cell? x=W1.cell? x)→(∀ x,W.frozen? x=W1.frozen? x)→∀ ty dc,(Builtin.copy_ #[82,82] ty #[.slice (some ⟨b,off+i*2,none⟩) (n+1-i) dc,.slice (some ⟨vb,0,none⟩) 1 1]).run Tryz.prog W=.ok (goInt (Nat.min 1 (n+1-i))) (W.setCells b (off+i*2) vs):=fun W hWc hWf ty dc=>
  In.run_copy W ty b (off+i*2) _ dc ⟨vb,0,none⟩ 1 1 vs (by rw[hvl];simp only[Nat.min_def];split<;>omega)
   (fun j v hj=>by
    rw[Addr.add_lit,Nat.zero_add,hWc,hW1,World.cell?_setCells_out b _ _ _ _ (fun h _=>absurd h hvb)]
    exact hvs j v hj)
   (fun j hj=>by rw[hWc,Nat.add_assoc];exact hsp1 _ (by omega)) (fun j hj=>by rw[hWf,hW1,World.frozen?_setCells,Nat.add_assoc];exact hfz _ (by omega)) h1v
 rw[←hW1] at hcp1
 have hb1:(0:Int)≤(i:Int)+(1:Int):=by omega
 have hin:i≤n:=by omega
 have hb2:¬ (c=i+1):=by omega
 have hb3:(i:Int)≤(n:Int)+(1:Int):=by omega
 have hb4:¬ (c=i):=by omega
 have mixed:Tryz.prog.follows .mixedOrders=true:=by kernel_rfl
 go_enter Tryz.func160,Tryz.ntmps160
 go_wp2_with (simp only[hov])
 go_region_law_o (refine step_copy_runI rfl _ _ 82 82 rfl _ _ (by simp[Act.eval,Act.put]) (by simp[Act.eval,Act.put]) (hcp1 _ _ _) ?_)
 go_wp2_with (at_builtin;refine wpList_copy_runI _ rfl _ _ 82 82 rfl _ _ rfl rfl (hcp2 _ (fun _=>rfl) (fun _=>rfl) _ _) ?_)
 go_ret
 first | exact⟨rfl,rfl⟩ | exact⟨rfl,by rw[hW1]⟩
def In.row (cs:List Value) (i n G:Nat):Array Value:=(cs.take (i*2)).toArray++Builtin.zeroCells (Value.cells (.agg #[.string ⟨#[]⟩,.int .i64 0])) (n+1-i)++Builtin.zeroCells (Value.cells (.agg #[.string ⟨#[]⟩,.int .i64 0])) (G-(n+1))
set_option maxHeartbeats 4000000 in
set_option maxRecDepth 100000 in
theorem In.grow (b off n c i vb:Nat) (cs vs:List Value) (w:World) (hi:i<n) (hnc:n≤c) (hroom:c<n+1) (hbig:n+1≤1048577) (hcl:cs.length=n*2) (hvl:vs.length=2)
  (hcs:∀ j v,cs[j]? = some v→w.cell? ⟨b,off+j,none⟩=some v) (hvs:∀ j v,vs[j]? = some v→w.cell? ⟨vb,j,none⟩=some v) (h1c:∀ v∈cs,v.oneCell'=true) (h1v:∀ v∈vs,v.oneCell'=true) :
  Calls Tryz.prog 160 #[.slice (some ⟨b,off,none⟩) n c,.int .i64 i,.slice (some ⟨vb,0,none⟩) 1 1] w fun e w'=>e=.returned (.slice (some ⟨w.heap.size,0,none⟩) (n+1) (grownCap w (n+1) c 89))∧
   w'=(((w.alloc (.cells (In.row cs i n (grownCap w (n+1) c 89)) 89)).drew.setCells w.heap.size (i*2) vs).drew).setCells w.heap.size ((i+1)*2) (cs.drop (i*2)):=by
 obtain⟨i0,hi0,hz0,hzs,hzb⟩:=info_parts In.info
 have hz2:¬ ((i:Int)=(n:Int)):=by omega
 have hz3:(c:Int)<(n:Int)+(1:Int):=by omega
 have hbw:b<w.heap.size:=block_lt_of_cell (hcs 0 _ (List.getElem?_eq_getElem (by omega)))
 have hvw:vb<w.heap.size:=block_lt_of_cell (hvs 0 _ (List.getElem?_eq_getElem (by omega)))
 have hkk:(n:Int)+(1:Int)-(i:Int)=((n+1-i:Nat):Int):=by omega
 have hik:i+(n+1-i)=n+1:=by omega
 have hold:(Builtin.firstCells i0.size i (.slice (some ⟨b,off,none⟩) i c)).run Tryz.prog w.drew=.ok (cs.take (i*2)).toArray w.drew:=by
  rw[hzs]
  exact run_firstCells_some w.drew 2 i ⟨b,off,none⟩ i c (cs.take (i*2)) (by rw[List.length_take];omega) (fun j v hj=>by
   rw[Addr.add_lit];rw[List.getElem?_take] at hj
   split at hj
   ·exact hcs j v hj
   ·cases hj)
 have hrz:∀ ty,(Builtin.append_ #[82,3] ty #[.slice (some ⟨b,off,none⟩) i c,.int .i64 ((n:Int)+(1:Int)-(i:Int))]).run Tryz.prog w =
   .ok (.slice (some ⟨w.heap.size,0,none⟩) (n+1) (grownCap w (n+1) c 89)) (w.drew.alloc (.cells (In.row cs i n (grownCap w (n+1) c 89)) 89)):=fun ty=>by
  have h:=Lib.run_append_grow_zeros w 82 3 ty 89 i0 _ .i64 .i64 Tryz.underlying82 Tryz.underlying3 hi0 hz0 (some ⟨b,off,none⟩) i c (cs.take (i*2)) hold (n+1-i) (by omega) (by omega) (by omega) (by omega) (by rw[hzb];omega) (by rw[hzb,hik];exact growslice_fits hroom (by omega))
  rw[hik] at h;rw[hkk];exact h
 have hRl:(n+1)*2≤(In.row cs i n (grownCap w (n+1) c 89)).size:=by
  simp[In.row,Builtin.zeroCells,Value.cells];omega
 have hGn:n+1≤grownCap w (n+1) c 89:=grownCap_ge w _ _ _
 have hG63:grownCap w (n+1) c 89≤9223372036854775807:=by
  have:=grownCap_le_maxLen w (n+1) c 89 (by unfold maxLen;omega)
  unfold maxLen at this;omega
 generalize hROW:In.row cs i n (grownCap w (n+1) c 89)=ROW at hrz hRl ⊢;generalize grownCap w (n+1) c 89=G at hrz hGn hG63 ⊢;obtain⟨W1,hW1⟩:∃ W1,W1=w.drew.alloc (.cells ROW 89):=⟨_,rfl⟩;rw[←hW1] at hrz
 have hN:∀ j,j<(n+1)*2→(W1.cell? ⟨w.heap.size,j,none⟩).isSome=true:=fun j hj=>by
  rw[hW1,World.cell?_alloc_at (w:=w.drew) ROW _ w.heap.size j rfl,Array.getElem?_eq_getElem (by omega)];rfl
 have hNf:∀ j,W1.frozen? ⟨w.heap.size,j,none⟩=false:=fun j=>by rw[hW1];exact World.frozen?_alloc_at (w:=w.drew) ROW _ w.heap.size j rfl
 have hOb:∀ j v,w.cell? ⟨b,j,none⟩=some v→W1.cell? ⟨b,j,none⟩=some v:=fun j v h=>by rw[hW1,World.cell?_alloc_past (w:=w.drew) _ b j hbw];exact h
 have hOv:∀ j v,w.cell? ⟨vb,j,none⟩=some v→W1.cell? ⟨vb,j,none⟩=some v:=fun j v h=>by rw[hW1,World.cell?_alloc_past (w:=w.drew) _ vb j hvw];exact h
 have hcpA:∀ (W:World),(∀ x,W.cell? x=W1.cell? x)→(∀ x,W.frozen? x=W1.frozen? x)→∀ ty dc,(Builtin.copy_ #[82,82] ty #[.slice (some ⟨w.heap.size,i*2,none⟩) (n+1-i) dc,.slice (some ⟨vb,0,none⟩) 1 1]).run Tryz.prog W=.ok (goInt (Nat.min 1 (n+1-i))) (W.setCells w.heap.size (i*2) vs):=fun W hWc hWf ty dc=>
  In.run_copy W ty w.heap.size (i*2) _ dc ⟨vb,0,none⟩ 1 1 vs (by rw[hvl];simp only[Nat.min_def];split<;>omega)
   (fun j v hj=>by rw[Addr.add_lit,Nat.zero_add,hWc];exact hOv _ v (hvs j v hj))
   (fun j hj=>by rw[hWc];exact hN _ (by omega)) (fun j hj=>by rw[hWf];exact hNf _) h1v
 have hGi:¬ (G=i):=by omega
 have hGim:¬ (G=i+1):=by omega
 have hci:¬ (c=i):=by omega
 have hbN:b≠w.heap.size:=by omega
 have hdl:(cs.drop (i*2)).length=(n-i)*2:=by rw[List.length_drop,hcl];omega
 have hcpB:∀ (W:World),(∀ x,W.cell? x=(W1.setCells w.heap.size (i*2) vs).cell? x)→(∀ x,W.frozen? x=(W1.setCells w.heap.size (i*2) vs).frozen? x)→∀ ty dc sc,(Builtin.copy_ #[82,82] ty #[.slice (some ⟨w.heap.size,(i+1)*2,none⟩) (n-i) dc,.slice (some ⟨b,off+i*2,none⟩) (n-i) sc]).run Tryz.prog W=.ok (goInt (Nat.min (n-i) (n-i))) (W.setCells w.heap.size ((i+1)*2) (cs.drop (i*2))):=fun W hWc hWf ty dc sc=>
  In.run_copy W ty w.heap.size ((i+1)*2) _ dc ⟨b,off+i*2,none⟩ _ sc (cs.drop (i*2)) (by rw[hdl];simp only[Nat.min_def];split<;>omega)
   (fun j v hj=>by
    rw[Addr.add_lit,hWc,World.cell?_setCells_out _ _ _ _ _ (fun h _=>absurd h hbN),Nat.add_assoc]
    exact hOb _ v (hcs (i*2+j) v (by rwa [List.getElem?_drop] at hj)))
   (fun j hj=>by rw[hWc];exact isSome_setCells _ _ _ _ (fun t ht=>hN _ (by omega)) _ (hN _ (by omega)))
   (fun j hj=>by rw[hWf,World.frozen?_setCells];exact hNf _) (fun v hv=>h1c v (List.mem_of_mem_drop hv))
 subst hW1;have hE1:∀ x,((w.alloc (.cells ROW 89)).drew).cell? x=(w.drew.alloc (.cells ROW 89)).cell? x:=fun x=>rfl;have hE2:∀ x,((w.alloc (.cells ROW 89)).drew).frozen? x=(w.drew.alloc (.cells ROW 89)).frozen? x:=fun x=>rfl;have hF1:∀ x,(((w.alloc (.cells ROW 89)).drew.setCells w.heap.size (i*2) vs).drew).cell? x=((w.drew.alloc (.cells ROW 89)).setCells w.heap.size (i*2) vs).cell? x:=fun x=>rfl;have hF2:∀ x,(((w.alloc (.cells ROW 89)).drew.setCells w.heap.size (i*2) vs).drew).frozen? x=((w.drew.alloc (.cells ROW 89)).setCells w.heap.size (i*2) vs).frozen? x:=fun x=>rfl
 have hw1:IntKind.i64.wrap ((i:Int)+(1:Int))=(i:Int)+(1:Int):=by rw[IntKind.wrap_i64];omega
 have hw2:IntKind.i64.wrap ((n:Int)+(1:Int)-(i:Int))=(n:Int)+(1:Int)-(i:Int):=by rw[IntKind.wrap_i64];omega
 have htn:((i:Int)+(1:Int)).toNat=i+1:=by omega
 have hb1:(0:Int)≤(i:Int)+(1:Int):=by omega
 have hin:i≤n:=by omega
 have hb3:(i:Int)≤(n:Int)+(1:Int):=by omega
 have mixed:Tryz.prog.follows .mixedOrders=true:=by kernel_rfl
 clear hkk hik hold hROW hRl hGn hw2
 have hw2:IntKind.i64.wrap ((n:Int)+(1:Int)-(i:Int))=(n:Int)+(1:Int)-(i:Int):=by rw[IntKind.wrap_i64];omega
 go_enter Tryz.func160,Tryz.ntmps160
 go_wp2_with (first
  |(at_builtin;refine Lib.wpList_append_run _ rfl _ _ _ _ rfl _ _ rfl rfl _ _ (hrz _) ?_)
  |(at_builtin;refine wpList_copy_runI _ rfl _ _ 82 82 rfl _ _ rfl rfl (hcpA _ hE1 hE2 _ _) ?_)
  |(at_builtin;refine wpList_copy_runI _ rfl _ _ 82 82 rfl _ _ rfl rfl (hcpB _ (fun _=>rfl) (fun _=>rfl) _ _ _) ?_))
 go_region_law_o (refine step_copy_runI rfl _ _ 82 82 rfl (.slice (some ⟨w.heap.size,(i+1)*2,none⟩) (n-i) (G-(i+1))) (.slice (some ⟨b,off+i*2,none⟩) (n-i) (c-i)) (by simp[Act.eval,Act.put]) (by simp[Act.eval,Act.put]) (hcpB _ hF1 hF2 3 (G-(i+1)) (c-i)) ?_)
 go_wp2
 go_ret
 exact⟨rfl,rfl⟩
end Go.Proofs
namespace Go.Proofs
open Go.RowKit Go.Shelf Go.Lib
theorem In.heq_drew (w:World) (b o:Nat) (vs:List Value):(w.setCells b o vs).heap=(w.drew.setCells b o vs).heap:=by
 induction vs generalizing w o with
 |nil=>rfl
 |cons v vs ih=>exact ih _ _
theorem In.tk (cs:List Value) (n:Nat) (vs:List Value) (h:cs.length=n*2):cs.take (n*2)++vs++cs.drop (n*2)=cs++vs:=by
 rw[List.take_of_length_le (by omega),List.drop_eq_nil_of_le (by omega),List.append_nil]
theorem In.any (A:Option Addr) (n c i vb:Nat) (cs vs:List Value) (w:World) (hi:i≤n) (hnc:n≤c) (hbig:n+1≤1048577) (hcl:cs.length=n*2) (hvl:vs.length=2)
  (hA:c≠0→∃ b off,A=some ⟨b,off,none⟩∧vb≠b∧Mf.Room w b off (c*2)∧∀ j v,cs[j]? = some v→w.cell? ⟨b,off+j,none⟩=some v)
  (hvs:∀ j v,vs[j]? = some v→w.cell? ⟨vb,j,none⟩=some v) (h1c:∀ v∈cs,v.oneCell'=true) (h1v:∀ v∈vs,v.oneCell'=true)
  (tA:TypeId) (kA:Nat) (hsa:w.shape? vb=some (tA,kA)) (hfa:∀ j,w.frozen? ⟨vb,j,none⟩=false) :
  Calls Tryz.prog 160 #[.slice A n c,.int .i64 i,.slice (some ⟨vb,0,none⟩) 1 1] w fun e W=>∃ A' c',e=.returned (.slice A' (n+1) c')∧Mf.Yj3 w W A c (cs.take (i*2)++vs++cs.drop (i*2)) A' (n+1) c':=by
 by_cases hend:i=n
 ·subst hend
  by_cases hroom:i+1≤c
  ·obtain⟨b,off,rfl,hvb,hr,hcs⟩:=hA (by omega)
   have hsp:∀ j,j<(i+1)*2→(w.cell? ⟨b,off+j,none⟩).isSome=true:=fun j hj=>(hr j (by omega)).1
   refine(In.end_room b off i c vb vs w hroom hbig hvl (fun j hj=>?_) (fun j hj=>?_) hvs h1v).mono ?_
   ·rw[Nat.add_assoc];exact(hr _ (by omega)).1
   ·rw[Nat.add_assoc];exact(hr _ (by omega)).2
   ·rintro e W ⟨he,hW⟩
    refine⟨_,_,he,?_⟩;have h:=Mf.Yj3.shift (i:=i) (n:=i) (Nat.le_refl _) hroom hcl hvl hr hcs
    rw[List.drop_eq_nil_of_le (show cs.length≤i*2 by omega)] at h ⊢
    refine h.heap ?_ ?_ ?_ ?_
    ·rw[hW];exact In.heq_drew w b _ vs
    ·rw[hW,World.os_setCells,World.os_setCells];rfl
    ·rw[hW,Mf.Yaa,Mf.Yaa];rfl
    ·rw[hW,World.output_setCells,World.output_setCells];rfl
  ·refine(In.end_grow A i c vb cs vs w hnc (by omega) hbig hcl hvl (fun e=>?_) (fun a ha j v hj=>?_) hvs h1v).mono ?_
   ·by_cases hc0:c=0
    ·omega
    ·obtain⟨b,off,hAe,_⟩:=hA hc0
     rw[e] at hAe;cases hAe
   ·by_cases hc0:c=0
    ·have:=(List.getElem?_eq_some_iff.1 hj).1
     omega
    ·obtain⟨b,off,hAe,_,_,hcs⟩:=hA hc0
     rw[ha] at hAe;cases hAe;rw[Addr.add_lit];exact hcs j v hj
   ·rintro e W ⟨he,hW⟩
    refine⟨_,_,he,?_⟩;rw[hW,In.tk cs i vs hcl];refine Mf.Yj3.alloc (grownCap_ge w _ _ _) ?_ (fun j u hj=>?_)
    ·have:=grownCap_ge w (i+1) c 89
     simp[Builtin.zeroCells,Value.cells,hcl,hvl];omega
    ·have hlt:=(List.getElem?_eq_some_iff.1 hj).1
     rw[Array.getElem?_append_left (by simpa using hlt)]
     simpa using hj
 ·have hlt:i<n:=Nat.lt_of_le_of_ne hi hend
  obtain⟨b,off,rfl,hvb,hr,hcs⟩:=hA (by omega)
  by_cases hroom:n+1≤c
  ·obtain⟨tB,kB,hsb,hkB⟩:=Mf.Ywb (hr 0 (by omega)).1
   refine(In.shift b off n c i vb cs vs w hlt hroom hbig hvb hcl hvl hcs (fun j hj=>(hr j (by omega)).1) (fun j hj=>(hr j (by omega)).2) hvs h1c h1v tA tB kA kB hsa hsb hkB (hfa 0) (hfa kA)).mono ?_
   rintro e W ⟨he,hW⟩;refine⟨_,_,he,?_⟩;rw[hW];exact Mf.Yj3.shift hi hroom hcl hvl hr hcs
  ·refine(In.grow b off n c i vb cs vs w hlt hnc (by omega) hbig hcl hvl hcs hvs h1c h1v).mono ?_
   rintro e W ⟨he,hW⟩;refine⟨_,_,he,?_⟩;rw[hW];have hG:=grownCap_ge w (n+1) c 89;refine Mf.Yj3.grow hi hG hcl hvl ?_ (fun j u hj=>?_)
   ·simp[In.row,Builtin.zeroCells,Value.cells,hcl]
    omega
   ·have hlt:=(List.getElem?_eq_some_iff.1 hj).1
    unfold In.row
    rw[Array.getElem?_append_left (by simp at hlt ⊢;omega),Array.getElem?_append_left (by simpa using hlt)]
    simpa using hj
end Go.Proofs
namespace Go.Proofs
open Go.RowKit Go.Shelf Go.Lib
set_option linter.unusedVariables false
set_option linter.unusedSimpArgs false
set_option maxHeartbeats 4000000 in
set_option maxRecDepth 100000 in
theorem Pe.put (w:World) (bd od b1 o1 n1 c1 dir c2:Nat) (A2:Option Addr) (nm:ByteArray) (a:Int) (es:Mf.Yj) (hD:w.cell? ⟨bd,od,none⟩=some (.slice (some ⟨b1,o1,none⟩) n1 c1)) (hdn:dir<n1) (hn1:n1≤1152921504606846976) (hbd:bd<w.heap.size) (hb1:b1<w.heap.size) (hne:bd≠b1) (hE:w.cell? ⟨b1,o1+dir*5+4,none⟩=some (.slice A2 es.length c2))
  (hfz:w.frozen? ⟨b1,o1+dir*5+4,none⟩=false) (hec:es.length≤c2) (hel:es.length≤1048576) (hA2:c2≠0→∃ b2 o2,A2=some ⟨b2,o2,none⟩∧b2<w.heap.size∧b2≠b1∧b2≠bd∧Mf.Room w b2 o2 (c2*2)∧Mf.Ydm w b2 o2 es) :
  Calls Tryz.prog 124 #[.pointer (some ⟨bd,od,none⟩),.int .i64 dir,.string nm,.int .i64 a] w fun e W=>e=.returned (.tuple #[])∧Mf.Yml w W b1 (o1+dir*5+4) A2 c2 (Mf.Yp9 es nm.data.toList a):=by
 have hnb:¬ Mf.Yb8 A2 c2 b1:=by
  rintro⟨hc,o,e⟩;obtain⟨b2,o2,e2,-,n1,-⟩:=hA2 hc;rw[e2] at e;cases e;exact n1 rfl
 have hIns:∀ i,i≤es.length→Calls Tryz.prog 160 #[.slice A2 es.length c2,.int .i64 i,.slice (some ⟨w.heap.size,0,none⟩) 1 1] (w.alloc (.cells #[.string nm,.int .i64 a] 89)) fun e W=>∃ A' c',e=.returned (.slice A' (es.length+1) c')∧Mf.Yj3 (w.alloc (.cells #[.string nm,.int .i64 a] 89)) W A2 c2 ((Mf.Yr es).take (i*2)++[.string nm,.int .i64 a]++(Mf.Yr es).drop (i*2)) A' (es.length+1) c'∧W.cell? ⟨b1,o1+dir*5+4,none⟩=some (.slice A2 es.length c2)∧W.frozen? ⟨b1,o1+dir*5+4,none⟩=false:=fun i hi=>by
  have hcl:=Mf.Yf2 es
  have hw1:w.heap.size<(w.alloc (.cells #[.string nm,.int .i64 a] 89)).heap.size:=by rw[World.size_alloc];omega
  have hs1:∀ b,b<w.heap.size→Mf.Same w (w.alloc (.cells #[.string nm,.int .i64 a] 89)) b:=fun b hb=>Mf.Yii w _ hb
  refine(In.any A2 es.length c2 i w.heap.size (Mf.Yr es) [.string nm,.int .i64 a] _ hi hec (by omega) hcl rfl (fun hc=>?_) (fun j v hj=>?_) (Mf.Yls es) (by simp[Value.oneCell']) 89 2 ?_ (fun j=>World.frozen?_alloc_at (w:=w) _ _ w.heap.size j rfl)).mono ?_
  ·obtain⟨b2,o2,e,hb2,-,-,hr,hen⟩:=hA2 hc
   refine⟨b2,o2,e,by omega,fun k hk=>?_,fun j v hj=>?_⟩
   ·rw[(hs1 b2 hb2).cell,(hs1 b2 hb2).frozen];exact hr k hk
   ·rw[(hs1 b2 hb2).cell];exact hen.cells j v hj
  ·rw[World.cell?_alloc_at (w:=w) _ _ w.heap.size j rfl]
   simpa using hj
  ·unfold World.shape?
   rw[Mf.Yun];rfl
  ·rintro e W ⟨A',c',he,R⟩
   have hb:=R.keep b1 (by omega) hnb
   refine⟨A',c',he,R,?_,?_⟩
   ·rw[hb.cell,(hs1 b1 hb1).cell];exact hE
   ·rw[hb.frozen,(hs1 b1 hb1).frozen];exact hfz
 have hEnd:∀ i,i≤es.length→Mf.Yux nm.toList es=i→∀ (W:World) A' c',Mf.Yj3 (w.alloc (.cells #[.string nm,.int .i64 a] 89)) W A2 c2 ((Mf.Yr es).take (i*2)++[.string nm,.int .i64 a]++(Mf.Yr es).drop (i*2)) A' (es.length+1) c'→W.cell? ⟨b1,o1+dir*5+4,none⟩=some (.slice A2 es.length c2)→Mf.Yml w (W.setCell ⟨b1,o1+dir*5+4,none⟩ (.slice A' (es.length+1) c')) b1 (o1+dir*5+4) A2 c2 (Mf.Yp9 es nm.data.toList a):=fun i hi hin W A' c' R hc=>by
  rw[Mf.Ys5] at R;unfold Mf.Yp9;rw[←ByteArray.toList_eq,hin];rw[←ByteArray.toList_eq] at R
  exact Mf.Yml.ins (by simp;omega) hb1 hnb R hc
 have hd1:(0:Int)≤(dir:Int):=by omega
 have hd2:(dir:Int)<(n1:Int):=by omega
 go_enter Tryz.func124,Tryz.ntmps124
 go_wp2
 go_loopw [9] (fun s9 wr=>∃ i:Nat,s9=.int .i64 i∧i≤es.length∧Mf.Yux nm.toList es=i+Mf.Yux nm.toList (es.drop i)∧wr=w) (fun s9 _=>es.length-(RowKit.intOf s9).toNat)
 case atStart=>exact⟨0,rfl,by omega,by simp,rfl⟩
 case round=>
  obtain⟨i,rfl,hi,hins,hwr⟩:=hrel;have hwr2:=hwr.symm;subst hwr2
  by_cases hlt:i<es.length
  ·obtain⟨b2,o2,rfl,hb2,hn21,hn2d,hr2,hen⟩:=hA2 (by omega)
   obtain⟨he1,he2⟩:=hen i hlt;have hdr:es.drop i=es[i]::es.drop (i+1):=List.drop_eq_getElem_cons hlt;rw[hdr] at hins;simp only[Mf.Yux,Mf.Yrw,←ByteArray.toList_eq] at hins
   cases hl:Op.bytesLess es[i].1 nm.toList with
   |true=>
    rw[hl,cond_true] at hins
    go_wp2
    go_roundw
    case rel=>exact⟨i+1,by simp,by omega,by omega,by first | rfl | trivial⟩
    case measure=>simp[RowKit.intOf];omega
   |false=>
    rw[hl,cond_false] at hins
    go_wp2_with (go_at_call 160;refine(hIns _ hi).mono ?_;rintro e W ⟨A',c',rfl,hR,hWc,hWf⟩)
    go_end0
    exact⟨rfl,hEnd _ hi hins _ _ _ hR hWc⟩
  ·obtain rfl:i=es.length:=by omega
   go_wp2_with (go_at_call 160;refine(hIns _ (Nat.le_refl _)).mono ?_;rintro e W ⟨A',c',rfl,hR,hWc,hWf⟩)
   go_end0
   exact⟨rfl,hEnd _ (Nat.le_refl _) (by simpa [Mf.Yux] using hins) _ _ _ hR hWc⟩
end Go.Proofs
namespace Go.Proofs
open Go.RowKit Go.Shelf Go.Lib
set_option linter.unusedVariables false
set_option linter.unusedSimpArgs false
set_option maxHeartbeats 4000000 in
set_option maxRecDepth 100000 in
theorem Te.clo (w:World) (pb:Nat) (nm s:ByteArray) (a:Int) (hn:w.cell? ⟨pb,0,none⟩=some (.string nm)) (hpb:pb<w.heap.size) :
  Calls Tryz.prog 166 #[.agg #[.string s,.int .i64 a],.pointer (some ⟨pb,0,none⟩)] w fun e W=>e=.returned (.bool (s.toList == nm.toList))∧Below w.heap.size w W:=by
 go_enter Tryz.func166,Tryz.ntmps166
 go_wp2
 go_ret
 exact⟨rfl,(Below.refl _ w).alloc (Nat.le_refl _) _⟩
set_option maxHeartbeats 4000000 in
set_option maxRecDepth 100000 in
theorem Te.idx (w:World) (pb c:Nat) (A:Option Addr) (nm:ByteArray) (es:Mf.Yj) (hel:es.length≤1048576) (hn:w.cell? ⟨pb,0,none⟩=some (.string nm)) (hpb:pb<w.heap.size)
  (hA:0<es.length→∃ b o,A=some ⟨b,o,none⟩∧b<w.heap.size∧Mf.Ydm w b o es) :
  Calls Tryz.prog 189 #[.slice A es.length c,.func (.func 166) #[] #[.pointer (some ⟨pb,0,none⟩)]] w fun e W=>Below w.heap.size w W∧∃ k:Nat,k≤es.length∧(∀ j (hj:j<es.length),j<k→(es[j].1 == nm.toList)=false)∧
   (if h:k<es.length then(es[k].1 == nm.toList)=true∧e=.returned (.int .i64 k) else e=.returned (.int .i64 (-1))):=by
 go_enter Tryz.func189,Tryz.ntmps189
 go_wp2
 go_loopw [5,8] (fun s5 s8 wr=>∃ kk:Nat,s8=.int .i64 kk∧kk≤es.length∧Below w.heap.size w wr∧∀ j (hj:j<es.length),j<kk→(es[j].1 == nm.toList)=false) (fun _ s8 _=>es.length-(RowKit.intOf s8).toNat)
 case atStart=>exact⟨0,rfl,Nat.zero_le _,Below.refl _ w,fun j _ hj=>absurd hj (Nat.not_lt_zero _)⟩
 case round=>
  obtain⟨kk,rfl,hkk,hB,hall⟩:=hrel
  by_cases hlt:kk<es.length
  ·obtain⟨b,o,rfl,hb,hen⟩:=hA (by omega)
   obtain⟨e1,e2⟩:=hen kk hlt;have e1':=(hB.cell (p:=⟨b,o+kk*2,none⟩) hb).trans e1;have e2':=(hB.cell (p:=⟨b,o+kk*2+1,none⟩) hb).trans e2;have hn':=(hB.cell (p:=⟨pb,0,none⟩) hpb).trans hn;have hcall:=Te.clo wr pb nm ⟨es[kk].1.toArray⟩ es[kk].2.1 hn' (Nat.lt_of_lt_of_le hpb hB.size);rw[ByteArray.toList_eq] at hcall;clear e1 e2 hen hA
   cases hq:es[kk].1 == nm.toList with
   |true=>
    simp only[hq] at hcall
    go_wp2_with (go_at_call 166;refine hcall.mono ?_;rintro e W ⟨rfl,hB2⟩)
    go_ret
    refine⟨hB.trans (hB2.mono hB.size),kk,hkk,hall,?_⟩;rw[dif_pos hlt]
    exact⟨hq,rfl⟩
   |false=>
    simp only[hq] at hcall
    go_wp2_with (go_at_call 166;refine hcall.mono ?_;rintro e W ⟨rfl,hB2⟩)
    go_roundw
    case rel=>exact⟨kk+1,by simp,by omega,hB.trans (hB2.mono hB.size),fun j hj hjk=>by
     by_cases e:j=kk
     ·subst e;exact hq
     ·exact hall j hj (by omega)⟩
    case measure=>simp[RowKit.intOf];omega
  ·obtain rfl:kk=es.length:=by omega
   go_wp2
   go_ret
   refine⟨hB,es.length,Nat.le_refl _,hall,?_⟩;rw[dif_neg (Nat.lt_irrefl _)];rfl
theorem Te.clear (w:World) (b o n c:Nat) (ty:TypeId) (hn:0<n) (hc:∀ j,j<n*2→(w.cell? ⟨b,o+j,none⟩).isSome=true) (hf:∀ j,j<n*2→w.frozen? ⟨b,o+j,none⟩=false) :
  (Builtin.clear_ #[82] ty #[.slice (some ⟨b,o,none⟩) n c]).run Tryz.prog w=.ok (.tuple #[]) (w.setCells b o (Builtin.zeroCells (Value.cells (.agg #[.string ⟨#[]⟩,.int .i64 0])) n).toList):=by
 have hl:(Builtin.zeroCells (Value.cells (.agg #[.string ⟨#[]⟩,.int .i64 0])) n).toList.length=n*2:=by simp[Builtin.zeroCells,Value.cells]
 have hst:=run_storeCells_cells (P:=Tryz.prog) b o (Builtin.zeroCells (Value.cells (.agg #[.string ⟨#[]⟩,.int .i64 0])) n).toList 0 w (by rw[hl];simpa using hc) (by rw[hl];simpa using hf) (by
  intro v hv;simp only[Builtin.zeroCells,Array.toList_map,List.mem_map] at hv;obtain⟨i,-,rfl⟩:=hv
  rcases Nat.mod_two_eq_zero_or_one i with e | e<;>simp[Value.cells,e,Value.oneCell'])
 simp only[Nat.add_zero] at hst
 obtain⟨m,rfl⟩:∃ m,n=m+1:=⟨n-1,by omega⟩
 simp only[Builtin.clear_];simp[run_underlying Tryz.underlying82,Tryz.zeroValue89,hst]
set_option maxHeartbeats 4000000 in
set_option maxRecDepth 100000 in
theorem Te.del (w:World) (pb c:Nat) (A:Option Addr) (nm:ByteArray) (es:Mf.Yj) (hel:es.length≤1048576) (hec:es.length≤c) (hn:w.cell? ⟨pb,0,none⟩=some (.string nm)) (hpb:pb<w.heap.size)
  (hA:c≠0→∃ b o,A=some ⟨b,o,none⟩∧b<w.heap.size∧b≠pb∧Mf.Room w b o (c*2)∧Mf.Ydm w b o es) :
  Calls Tryz.prog 165 #[.slice A es.length c,.func (.func 166) #[] #[.pointer (some ⟨pb,0,none⟩)]] w fun e W=>e=.returned (.slice A (Mf.Ygy es nm.toList).length c)∧Mf.Ysx w W A c (Mf.Ygy es nm.toList):=by
 have hidx:=Te.idx w pb c A nm es hel hn hpb (fun h=>by
  obtain⟨b,o,e,hb,-,-,hen⟩:=hA (by omega)
  exact⟨b,o,e,hb,hen⟩)
 have hle:=Mf.Ywh es nm.toList
 by_cases hall:∀ j (hj:j<es.length),(es[j].1 == nm.toList)=false
 ·have hd:Mf.Ygy es nm.toList=es:=by
   have:=Mf.Yvt (nm:=nm.toList) (Nat.le_refl es.length) fun j hj _=>hall j hj
   rwa [List.take_length] at this
  have hidx2:Calls Tryz.prog 189 #[.slice A es.length c,.func (.func 166) #[] #[.pointer (some ⟨pb,0,none⟩)]] w fun e W=>e=.returned (.int .i64 (-1))∧Below w.heap.size w W:=hidx.mono fun e W ⟨hB,k,hk,h1,h2⟩=>by
   by_cases hlt:k<es.length
   ·rw[dif_pos hlt] at h2
    have:=hall k hlt;rw[h2.1] at this;cases this
   ·rw[dif_neg hlt] at h2
    exact⟨h2,hB⟩
  clear hidx;rw[hd]
  go_enter Tryz.func165,Tryz.ntmps165
  go_wp2_with (go_at_call 189;refine hidx2.mono ?_;rintro e W ⟨rfl,hB⟩)
  go_ret
  refine⟨rfl,Mf.Ysx.same hB hec fun hc=>?_⟩;obtain⟨b,o,e,hb,-,hr,hen⟩:=hA hc;exact⟨b,o,e,hb,hr,hen⟩
 ·have hpos:0<es.length:=Nat.pos_of_ne_zero fun e=>hall fun j hj=>by omega
  obtain⟨b,o,rfl,hb,hne,hr,hen⟩:=hA (by omega)
  have hidx2:Calls Tryz.prog 189 #[.slice (some ⟨b,o,none⟩) es.length c,.func (.func 166) #[] #[.pointer (some ⟨pb,0,none⟩)]] w fun e W=>∃ k:Nat,e=.returned (.int .i64 k)∧k<es.length∧Mf.Yj2 w W b o c es (k+1) (Mf.Ygy (es.take (k+1)) nm.toList)∧(Mf.Ygy (es.take (k+1)) nm.toList).length=k:=hidx.mono fun e W ⟨hB,k,hk,h1,h2⟩=>by
   by_cases hlt:k<es.length
   ·rw[dif_pos hlt] at h2
    have e1:Mf.Ygy (es.take (k+1)) nm.toList=es.take k:=by rw[Mf.Yvh hlt,h2.1,cond_true,List.append_nil,Mf.Yvt hk h1]
    exact⟨k,h2.2,hlt,by rw[e1];exact Mf.Yj2.start hB hb hr hen,by rw[e1,List.length_take];omega⟩
   ·exact absurd (fun j hj=>h1 j hj (by omega)) hall
  clear hidx hen hr hA
  go_enter Tryz.func165,Tryz.ntmps165
  go_wp2_with (go_at_call 189;refine hidx2.mono ?_;rintro e W ⟨k,rfl,hk,hI,hkl⟩;have hne1:((k:Int) == -1)=false:=beq_eq_false_iff_ne.2 (by omega))
  go_loopw [5,6,7] (fun s5 s6 _ wr=>∃ (j:Nat) (ks:Mf.Yj),s5=.int .i64 ks.length∧s6=.int .i64 j∧Mf.Yxa es nm.toList j ks∧j≤es.length∧ks.length<j∧Mf.Yj2 w wr b o c es j ks) (fun _ s6 _ _=>es.length-(RowKit.intOf s6).toNat)
  case atStart=>exact⟨k+1,_,by rw[hkl],by simp,rfl,by omega,by omega,hI⟩
  case round=>
   obtain⟨j,ks,rfl,rfl,hks,hj,hle2,hI2⟩:=hrel;clear hI hkl hk hall hidx2
   by_cases hlt:j<es.length
   ·have hbw:=Nat.lt_of_lt_of_le hb hI2.sz
    obtain⟨e1,e2⟩:=hI2.high j hlt (Nat.le_refl _)
    have hn':wr.cell? ⟨pb,0,none⟩=some (.string nm):=by rw[(hI2.keep pb hpb (Ne.symm hne)).cell];exact hn
    have hBa:Below wr.heap.size wr (wr.alloc (.cells #[.string ⟨es[j].1.toArray⟩,.int .i64 es[j].2.1] 89)):=(Below.refl _ wr).alloc (Nat.le_refl _) _;have hpw:=Nat.lt_of_lt_of_le hpb hI2.sz;have hcall:=Te.clo (wr.alloc (.cells #[.string ⟨es[j].1.toArray⟩,.int .i64 es[j].2.1] 89)) pb nm ⟨es[j].1.toArray⟩ es[j].2.1 ((hBa.cell (p:=⟨pb,0,none⟩) hpw).trans hn') (Nat.lt_of_lt_of_le hpw hBa.size);rw[ByteArray.toList_eq] at hcall;have hnext:∀ W2,Below (wr.alloc (.cells #[.string ⟨es[j].1.toArray⟩,.int .i64 es[j].2.1] 89)).heap.size (wr.alloc (.cells #[.string ⟨es[j].1.toArray⟩,.int .i64 es[j].2.1] 89)) W2→∀ j',j≤j'→Mf.Yj2 w W2 b o c es j' ks:=fun W2 hB2 j' hj'=>hI2.on (hBa.trans (hB2.mono hBa.size)) hbw hj'
    have hsz1:(wr.alloc (.cells #[.string ⟨es[j].1.toArray⟩,.int .i64 es[j].2.1] 89)).heap.size=wr.heap.size+1:=by rw[World.size_alloc]
    have hv:=Mf.Yun wr (.cells #[.string ⟨es[j].1.toArray⟩,.int .i64 es[j].2.1] 89)
    have v1:(wr.alloc (.cells #[.string ⟨es[j].1.toArray⟩,.int .i64 es[j].2.1] 89)).cell? ⟨wr.heap.size,0,none⟩=some (.string ⟨es[j].1.toArray⟩):=by unfold World.cell?;rw[hv];rfl
    have v2:(wr.alloc (.cells #[.string ⟨es[j].1.toArray⟩,.int .i64 es[j].2.1] 89)).cell? ⟨wr.heap.size,1,none⟩=some (.int .i64 es[j].2.1):=by unfold World.cell?;rw[hv];rfl
    have htk:Mf.Ygy (es.take (j+1)) nm.toList=ks++cond (es[j].1 == nm.toList) [] [es[j]]:=by rw[Mf.Yvh hlt,show Mf.Ygy (es.take j) nm.toList=ks from hks]
    cases hq:es[j].1 == nm.toList with
    |true=>
     rw[hq,cond_true,List.append_nil] at htk;have hks2:Mf.Yxa es nm.toList (j+1) ks:=htk;simp only[hq] at hcall;clear hv v1 v2 htk
     go_wp2_with (go_at_call 166;refine hcall.mono ?_;rintro e W2 ⟨rfl,hB2⟩)
     go_roundw
     case rel=>exact⟨j+1,ks,rfl,by simp,hks2,by omega,by omega,hnext _ hB2 _ (by omega)⟩
     case measure=>simp[RowKit.intOf];omega
    |false=>
     rw[hq,cond_false] at htk;have hks2:Mf.Yxa es nm.toList (j+1) (ks++[es[j]]):=htk;simp only[hq] at hcall;clear hv htk;have hlk:ks.length<es.length:=Nat.lt_trans hle2 hlt
     have hfacts:∀ W2,Below (wr.alloc (.cells #[.string ⟨es[j].1.toArray⟩,.int .i64 es[j].2.1] 89)).heap.size (wr.alloc (.cells #[.string ⟨es[j].1.toArray⟩,.int .i64 es[j].2.1] 89)) W2→
       W2.cell? ⟨wr.heap.size,0,none⟩=some (.string ⟨es[j].1.toArray⟩)∧W2.cell? ⟨wr.heap.size,1,none⟩=some (.int .i64 es[j].2.1)∧∃ x1 x2,W2.cell? ⟨b,o+ks.length*2,none⟩=some x1∧W2.cell? ⟨b,o+ks.length*2+1,none⟩=some x2∧W2.frozen? ⟨b,o+ks.length*2,none⟩=false∧W2.frozen? ⟨b,o+ks.length*2+1,none⟩=false:=fun W2 hB2=>by
      have hI3:=hnext _ hB2 j (Nat.le_refl _)
      obtain⟨x1,hx1⟩:=Option.isSome_iff_exists.1 (hI3.room (ks.length*2) (by omega)).1
      obtain⟨x2,hx2⟩:=Option.isSome_iff_exists.1 (hI3.room (ks.length*2+1) (by omega)).1
      have f1:=(hI3.room (ks.length*2) (by omega)).2
      have f2:=(hI3.room (ks.length*2+1) (by omega)).2
      rw[←Nat.add_assoc] at hx2 f2
      exact⟨(hB2.cell (p:=⟨wr.heap.size,0,none⟩) (by rw[hsz1];exact Nat.lt_succ_self _)).trans v1,(hB2.cell (p:=⟨wr.heap.size,1,none⟩) (by rw[hsz1];exact Nat.lt_succ_self _)).trans v2,x1,x2,hx1,hx2,f1,f2⟩
     go_wp2_with (go_at_call 166;refine hcall.mono ?_;rintro e W2 ⟨rfl,hB2⟩;obtain⟨w1,w2,x1,x2,hx1,hx2,f1,f2⟩:=hfacts W2 hB2)
     go_roundw
     case rel=>exact⟨j+1,ks++[es[j]],by simp,by simp,hks2,by omega,by simp;omega,(hnext _ hB2 j (Nat.le_refl _)).cells (vs:=[.string ⟨es[j].1.toArray⟩,.int .i64 es[j].2.1]) rfl (fun i hi=>by simp at hi;omega) (fun k hk=>.inl (by simp;omega)) (.inr ⟨_,rfl,rfl⟩)⟩
     case measure=>simp[RowKit.intOf];omega
   ·obtain rfl:j=es.length:=by omega
    have hks:Mf.Ygy (es.take es.length) nm.toList=ks:=hks;rw[List.take_length] at hks;subst hks
    have hcn:¬ (c=(Mf.Ygy es nm.toList).length):=by omega
    have hcl:∀ ty,(Builtin.clear_ #[82] ty #[.slice (some ⟨b,o+(Mf.Ygy es nm.toList).length*2,none⟩) (es.length-(Mf.Ygy es nm.toList).length) (c-(Mf.Ygy es nm.toList).length)]).run Tryz.prog wr=.ok (.tuple #[]) (wr.setCells b (o+(Mf.Ygy es nm.toList).length*2) (Builtin.zeroCells (Value.cells (.agg #[.string ⟨#[]⟩,.int .i64 0])) (es.length-(Mf.Ygy es nm.toList).length)).toList):=fun ty=>
     Te.clear wr b _ _ _ ty (by omega) (fun i hi=>by rw[Nat.add_assoc];exact(hI2.room _ (by omega)).1) (fun i hi=>by rw[Nat.add_assoc];exact(hI2.room _ (by omega)).2)
    go_wp2
    go_ret
    refine⟨rfl,?_⟩
    have hz:(Builtin.zeroCells (Value.cells (.agg #[.string ⟨#[]⟩,.int .i64 0])) (es.length-(Mf.Ygy es nm.toList).length)).toList.length=(es.length-(Mf.Ygy es nm.toList).length)*2:=by simp[Builtin.zeroCells,Value.cells]
    exact(hI2.cells (vs:=(Builtin.zeroCells (Value.cells (.agg #[.string ⟨#[]⟩,.int .i64 0])) (es.length-(Mf.Ygy es nm.toList).length)).toList) rfl (fun i hi=>by rw[hz] at hi;omega) (fun k hk=>.inr (by omega)) (.inl rfl)).done (by omega) (by omega)
set_option maxHeartbeats 4000000 in
set_option maxRecDepth 100000 in
theorem Te.take (w:World) (bd od b1 o1 n1 c1 dir c2:Nat) (A2:Option Addr) (nm:ByteArray) (es:Mf.Yj) (hD:w.cell? ⟨bd,od,none⟩=some (.slice (some ⟨b1,o1,none⟩) n1 c1)) (hdn:dir<n1) (hn1:n1≤1152921504606846976) (hbd:bd<w.heap.size) (hb1:b1<w.heap.size) (hne:bd≠b1) (hE:w.cell? ⟨b1,o1+dir*5+4,none⟩=some (.slice A2 es.length c2))
  (hfz:w.frozen? ⟨b1,o1+dir*5+4,none⟩=false) (hec:es.length≤c2) (hel:es.length≤1048576) (hA2:c2≠0→∃ b2 o2,A2=some ⟨b2,o2,none⟩∧b2<w.heap.size∧b2≠b1∧b2≠bd∧Mf.Room w b2 o2 (c2*2)∧Mf.Ydm w b2 o2 es) :
  Calls Tryz.prog 129 #[.pointer (some ⟨bd,od,none⟩),.int .i64 dir,.string nm] w fun e W=>e=.returned (.tuple #[])∧Mf.Yml w W b1 (o1+dir*5+4) A2 c2 (Mf.Ygy es nm.data.toList):=by
 have hnb:¬ Mf.Yb8 A2 c2 b1:=by
  rintro⟨hc,o,e⟩;obtain⟨b2,o2,e2,-,n1,-⟩:=hA2 hc;rw[e2] at e;cases e;exact n1 rfl
 rw[←ByteArray.toList_eq]
 have hs0:w.heap.size<(w.alloc (.cells #[.string nm] 9)).heap.size:=by rw[World.size_alloc];omega
 have hs1:∀ b,b<w.heap.size→Mf.Same w (w.alloc (.cells #[.string nm] 9)) b:=fun b hb=>Mf.Yii w _ hb
 have hp:(w.alloc (.cells #[.string nm] 9)).cell? ⟨w.heap.size,0,none⟩=some (.string nm):=by
  unfold World.cell?;rw[Mf.Yun];rfl
 have hDel:Calls Tryz.prog 165 #[.slice A2 es.length c2,.func (.func 166) #[] #[.pointer (some ⟨w.heap.size,0,none⟩)]] (w.alloc (.cells #[.string nm] 9)) fun e W=>e=.returned (.slice A2 (Mf.Ygy es nm.toList).length c2)∧Mf.Ysx (w.alloc (.cells #[.string nm] 9)) W A2 c2 (Mf.Ygy es nm.toList)∧W.cell? ⟨b1,o1+dir*5+4,none⟩=some (.slice A2 es.length c2)∧W.frozen? ⟨b1,o1+dir*5+4,none⟩=false:=by
  refine(Te.del (w.alloc (.cells #[.string nm] 9)) w.heap.size c2 A2 nm es hel hec hp hs0 fun hc=>?_).mono ?_
  ·obtain⟨b2,o2,e,hb2,-,-,hr,hen⟩:=hA2 hc
   refine⟨b2,o2,e,by omega,by omega,fun k hk=>?_,fun j hj=>?_⟩
   ·rw[(hs1 b2 hb2).cell,(hs1 b2 hb2).frozen];exact hr k hk
   ·rw[(hs1 b2 hb2).cell,(hs1 b2 hb2).cell];exact hen j hj
  ·rintro e W ⟨he,R⟩
   have hb:=R.keep b1 (by omega) hnb
   refine⟨he,R,?_,?_⟩
   ·rw[hb.cell,(hs1 b1 hb1).cell];exact hE
   ·rw[hb.frozen,(hs1 b1 hb1).frozen];exact hfz
 have hd1:(0:Int)≤(dir:Int):=by omega
 have hd2:(dir:Int)<(n1:Int):=by omega
 have hD':=(((hs1 bd hbd).cell od).trans hD);have hE':=(((hs1 b1 hb1).cell (o1+dir*5+4)).trans hE);clear hA2 hp
 go_enter Tryz.func129,Tryz.ntmps129
 go_wp2_with (go_at_call 165;refine hDel.mono ?_;rintro e W ⟨rfl,hR,hWc,hWf⟩)
 go_end0
 exact⟨rfl,Mf.Yml.del rfl hb1 hnb hR hWc⟩
end Go.Proofs
namespace Go.Proofs
open Go.RowKit Go.Shelf
set_option linter.unusedVariables false
set_option linter.unusedSimpArgs false
set_option maxHeartbeats 4000000 in
set_option maxRecDepth 100000 in
theorem Dn.done (w:World) (b off:Nat) (x0 x1 x2 x3 x4 x5 x6 y0 y1:Value) (hx:∀ v∈[x0,x1,x2,x3,x4,x5,x6],v.oneCell'=true) (hy:∀ v∈[y0,y1],v.oneCell'=true) (h0:w.cell? ⟨b,off,none⟩=some y0) (h1:w.cell? ⟨b,off+1,none⟩=some y1) (hb:b<w.heap.size) :
  Calls Tryz.prog 69 #[.pointer (some ⟨b,off,none⟩),.agg #[x0,x1,x2,x3,x4,x5,x6]] w fun e W=>e=.returned (.agg #[x0,x1,x2,x3,x4,y0,y1])∧Below w.heap.size w W:=by
 go_enter Tryz.func69,Tryz.ntmps69
 simp only[List.mem_cons,List.not_mem_nil,or_false,forall_eq_or_imp,forall_eq] at hx hy;obtain⟨g0,g1,g2,g3,g4,g5,g6⟩:=hx;obtain⟨k0,k1⟩:=hy;have s0:=fun w a=>run_store Tryz.prog w a x0 .plain g0;have s1:=fun w a=>run_store Tryz.prog w a x1 .plain g1;have s2:=fun w a=>run_store Tryz.prog w a x2 .plain g2;have s3:=fun w a=>run_store Tryz.prog w a x3 .plain g3;have s4:=fun w a=>run_store Tryz.prog w a x4 .plain g4;have t0:=fun w a=>run_store Tryz.prog w a y0 .plain k0;have t1:=fun w a=>run_store Tryz.prog w a y1 .plain k1
 go_wp2
 refine bodyPost_ret (v:=.agg #[x0,x1,x2,x3,x4,y0,y1]) ?_ rfl ⟨rfl,((Below.refl _ w).alloc (Nat.le_refl _) _).alloc (Nat.le_of_lt (by rw[World.size_alloc];exact Nat.lt_succ_self _)) _⟩
 have hr:(Tryz.f69).results=#[.cell 4 37]:=by rfl
 simp[results,hr,asAddr,go_sem]
end Go.Proofs
