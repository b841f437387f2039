import Derived.BigRegion
import Derived.LoopTactic
import Derived.WalkKit
import Derived.RangeFuncRecord
import Derived.Below
import Derived.Shelf.Abstract
import Derived.IntWalk
import Derived.Test.YthaonimonnheeaaGreatMf8
import Derived.Test.YthaonimonnheeaaGreatProg
namespace Go.Proofs
open Go.RowKit Go.Shelf
attribute [local go_sem] Oper.semAt_some
set_option linter.unusedVariables false
set_option linter.unusedSimpArgs false
set_option maxRecDepth 100000 in
set_option maxHeartbeats 4000000 in
theorem Fl.flush_in (w:World) (A C:Option Addr) (bd od bB oB bC oC nB cB nC cC:Nat) (at_:Nat→Nat) (hc hb:Nat→Mf.Hdr)
  (hbd:bd<w.heap.size) (hA:0<nB→A=some ⟨bB,oB,none⟩∧bB<w.heap.size∧bd≠bB) (hC:0<nC→C=some ⟨bC,oC,none⟩∧bC<w.heap.size∧bC≠bB)
  (cB1:w.cell? ⟨bd,od,none⟩=some (.slice A nB cB)) (cC1:w.cell? ⟨bd,od+1,none⟩=some (.slice C nC cC)) (fC1:w.frozen? ⟨bd,od+1,none⟩=false)
  (eB:∀ j,j<nB→w.cell? ⟨bB,oB+j,none⟩=some (Mf.hvl (hb j))∧w.frozen? ⟨bB,oB+j,none⟩=false)
  (eC:∀ j,j<nC→w.cell? ⟨bC,oC+j*2,none⟩=some (.int .i64 (at_ j))∧w.cell? ⟨bC,oC+j*2+1,none⟩=some (Mf.hvl (hc j))∧at_ j<nB) (hl:nC≤1152921504606846976) :
  Calls Tryz.prog 135 #[.pointer (some ⟨bd,od,none⟩)] w fun e W=>e=.returned (.tuple #[])∧∃ W1,Mf.FI w W1 bB oB nB (Mf.Ycb at_ hc (fun _=>true) hb nC)∧W=W1.setCell ⟨bd,od+1,none⟩ (.slice none 0 0):=by
 refine calls_of_wp Tryz.func135 rfl ?_;simp only[Tryz.ntmps135,List.size_toArray,List.length_cons,List.length_nil,Nat.reduceAdd,Nat.reduceSub,Array.replicate_succ,Array.replicate_zero,List.push_toArray,List.append_toArray,List.nil_append,List.cons_append]
 go_wp2
 go_loopw [9] (fun i wr=>∃ k:Nat,k≤nC∧i=.int .i64 k∧Mf.FI w wr bB oB nB (Mf.Ycb at_ hc (fun _=>true) hb k)) (fun i _=>nC-(intOf i).toNat)
 case atStart=>exact⟨0,Nat.zero_le _,rfl,Mf.OnlyC.refl _ _,fun j hj=>(eB j hj).1⟩
 case round=>
  obtain⟨k,hk,rfl,I⟩:=hrel
  have d1:=(I.only.cell bd od hbd (fun h=>(hA (by have:=h.2;omega)).2.2 h.1)).trans cB1
  have d2:=(I.only.cell bd (od+1) hbd (fun h=>(hA (by have:=h.2;omega)).2.2 h.1)).trans cC1
  have d3:=(I.only.frz bd (od+1) hbd).trans fC1
  by_cases hlt:k<nC
  ·obtain⟨e1,e2,e3⟩:=eC k hlt
   obtain⟨rfl,hbB,n1⟩:=hA (by omega)
   obtain⟨rfl,hbC,n2⟩:=hC (by omega)
   have e1':=(I.only.cell bC _ hbC (fun h=>n2 h.1)).trans e1;have e2':=(I.only.cell bC _ hbC (fun h=>n2 h.1)).trans e2;have e4:=I.at1 (at_ k) e3;have e5:=(I.only.frz bB (oB+at_ k) hbB).trans (eB (at_ k) e3).2;simp only[Mf.hvl] at e2' e4;have hB1:Below wr.heap.size wr (wr.alloc (.cells #[.int .i64 (at_ k),.slice (hc k).1 (hc k).2.1 (hc k).2.2] 148)):=(Below.refl _ wr).alloc (Nat.le_refl _) _;have I1:=I.alloc (fun _=>hbB) (.cells #[.int .i64 (at_ k),.slice (hc k).1 (hc k).2.1 (hc k).2.2] 148);have hsz:=I.only.size
   have d1':=(hB1.cell (p:=⟨bd,od,none⟩) (by show bd<_;omega)).trans d1
   have e4':=(hB1.cell (p:=⟨bB,oB+at_ k,none⟩) (by show bB<_;omega)).trans e4
   have e5':=(hB1.frozen (p:=⟨bB,oB+at_ k,none⟩) (by show bB<_;omega)).trans e5
   have hh:=World.alloc_heap_new wr (.cells #[.int .i64 (at_ k),.slice (hc k).1 (hc k).2.1 (hc k).2.2] 148)
   have x1:(wr.alloc (.cells #[.int .i64 (at_ k),.slice (hc k).1 (hc k).2.1 (hc k).2.2] 148)).cell? ⟨wr.heap.size,0,none⟩=some (.int .i64 (at_ k)):=by unfold World.cell?;rw[hh];rfl
   have x2:(wr.alloc (.cells #[.int .i64 (at_ k),.slice (hc k).1 (hc k).2.1 (hc k).2.2] 148)).cell? ⟨wr.heap.size,1,none⟩=some (.slice (hc k).1 (hc k).2.1 (hc k).2.2):=by unfold World.cell?;rw[hh];rfl
   go_wp2
   clear hh hB1;generalize wr.alloc (.cells #[.int .i64 (at_ k),.slice (hc k).1 (hc k).2.1 (hc k).2.2] 148)=W1 at d1' e4' e5' x1 x2 I1 ⊢
   go_region
   all_goals (
    go_wp2
    go_roundw
    case rel=>exact⟨k+1,by omega,by simp,by rw[Mf.Yvc rfl];exact(I1.set e3 _).drew⟩
    case measure=>simp[intOf];omega)
  ·obtain rfl:k=nC:=by omega
   go_wp2
   go_end0
   exact⟨rfl,wr,I,rfl⟩
end Go.Proofs
