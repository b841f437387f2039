import Derived.Test.YtmkdncckdmanlaaGreatDoorDoCallB
import Derived.Test.YtmkdncckdmanlaaGreatDoorCards
import Derived.Test.YtmkdncckdmanlaaGreatDoorTie
import Derived.WalkKit
import Derived.ProofKit
import Derived.OpenShut
import Derived.JoinedCond
import Derived.Deep.DeepHandedRow
set_option linter.unusedVariables false
set_option linter.unusedSimpArgs false
namespace Mf
open Go Go.ChangeShapes Go.WideShapes Go.ChangeAt Go.RowKit
open Go.Proofs.YtmkdncckdmanlaaGreatDoor
theorem Xbl {H:Type}:∀ l:List (DataW H),Rows.uptoBulkAll l=Yej Rows.uptoBulk l
 |[]=>by simp[Rows.uptoBulkAll,Yej]
 |d::l=>by simp[Rows.uptoBulkAll,Yej,Xbl l]
theorem Xny {H:Type}:Yuh (Rows.uptoBulk (H:=H)) where
 one:=fun d=>by
  cases d with
  |lit l=>cases l<;>simp[Rows.uptoBulk]
  |_=>simp[Rows.uptoBulk]
 str:=fun b=>by simp[Rows.uptoBulk]
 sl:=fun a b=>by simp only[Rows.uptoBulk,Xbl];omega
 agg:=fun a=>by simp only[Rows.uptoBulk,Xbl];omega
def tbr:Tb:=tb.filter fun x=>[2,4,5,9,22,23,25,26,28,29,73,75,158].any (Nat.beq x.1)
theorem Xs8:Yaf Go.Proofs.Tryz.prog tbr:=Yw5 (by kernel_rfl)
theorem Xo0:Yc4 Go.Proofs.Tryz.prog tbr tbr=true:=by kernel_rfl
theorem Xtg:ownKnob Go.Proofs.Tryz.prog.godebug=none:=by kernel_rfl
namespace DoCall
theorem ok:Ycm Go.Proofs.Tryz.prog 3 (Ycx [.sh,.sh,.sh] (shs [Xh,Xv,(.sl (.int .i64))]) (fun x=>Xkd x.1 x.2.1 x.2.2.1) (fun b=>⟨[.cl .sh .bool b],[]⟩)):=Xkd.ok
set_option maxRecDepth 100000 in
theorem contract (H:Type) (enc:TypeId×Value→H) (W:World) (base:Nat) (args:Array Value) (ds gs:List (DataW H)) (before:List MemPlace)
  (hval:∀ (j:Nat) t v,Go.Proofs.Tryz.f3.params[j]? = some t→args[j]? = some v→Value.okWide Go.Proofs.Tryz.prog W .any base t v)
  (hW:DataW.Whole enc Go.Proofs.Tryz.prog Go.Proofs.Tryz.f3.params.toList Rows.fnExactDoCallSpec.vars false W args.toList ds gs before) (hk:Rows.uptoSmall H (ds++gs)=true) :
  Calls Go.Proofs.Tryz.prog 3 args W fun e W'=>∃ v,e=.returned v∧Rows.fnExactDoCallSpec.post enc Go.Proofs.Tryz.prog Go.Proofs.Tryz.f3 false true false false W args v W':=by
 have hk':Yej Rows.uptoBulk (ds++gs)≤1048576:=by rw[←Xbl];exact of_decide_eq_true hk
 refine Ytf (tys:=[Xh,Xv,(.sl (.int .i64))]) Xs8 Xo0 Xny (by kernel_rfl) ok (by kernel_rfl) hval hW hk' (fun x hf hw=>law x hf hw) ?_ (tr:=4) (by kernel_rfl) (by kernel_rfl)
 ·have hl:=hW
  obtain⟨p,q,hA,hV,rfl,_⟩:=hl;rw[show Go.Proofs.Tryz.f3.params.toList=[25,28,29] from rfl] at hA;obtain⟨v0,vs0,d0,ds0,a0,b0,_,rfl,_,_,h1⟩:=trodAll_cons hA;obtain⟨v1,vs1,d1,ds1,a1,b1,_,rfl,_,_,h2⟩:=trodAll_cons h1;obtain⟨v2,vs2,d2,ds2,a2,b2,_,rfl,_,_,h3⟩:=trodAll_cons h2;obtain⟨_,rfl,_⟩:=trodAll_nil h3;obtain⟨rfl,_⟩:=trodVars_none hV;rfl
noncomputable def Xjr (os:Os):World:=
 {World.holding Go.Proofs.Tryz.prog os ⟨#[],#[],[]⟩ with heap:=(((World.holding Go.Proofs.Tryz.prog os ⟨#[],#[],[]⟩).heap).modify ((Go.Proofs.Tryz.prog.globalNamed "unicode/utf8.acceptRanges").getD 0) fun | .cells _ t fr=>.cells #[.int .u8 128,.int .u8 191,.int .u8 160,.int .u8 191,.int .u8 128,.int .u8 159,.int .u8 144,.int .u8 191,.int .u8 128,.int .u8 143,.int .u8 0,.int .u8 0,.int .u8 0,.int .u8 0,.int .u8 0,.int .u8 0,.int .u8 0,.int .u8 0,.int .u8 0,.int .u8 0,.int .u8 0,.int .u8 0,.int .u8 0,.int .u8 0,.int .u8 0,.int .u8 0,.int .u8 0,.int .u8 0,.int .u8 0,.int .u8 0,.int .u8 0,.int .u8 0] t fr | o=>o).modify ((Go.Proofs.Tryz.prog.globalNamed "unicode/utf8.first").getD 0) fun | .cells _ t fr=>.cells (Go.Pinned.utf8FirstZ.map fun n=>Value.int .u8 (Int.ofNat n)).toArray t fr | o=>o }
set_option maxRecDepth 1000000 in
theorem Xo3 (os:Os):laidMet Go.Proofs.Tryz.prog Rows.fnExactDoCallUptoRow.laid ((Xjr os).forCall (fun _ _=>0) ⟨#[],#[.agg #[.slice none 0 0,.slice none 0 0],.agg #[.int .i64 0,.string ⟨#[]⟩,.string ⟨#[]⟩,.int .i64 0,.int .i64 0,.slice none 0 0],.slice none 0 0],[]⟩).memory:=
 laidMet_of_run' 8 (by kernel_rfl) (by kernel_rfl)
theorem reads (os:Os) {H:Type} (enc:TypeId×Value→H):∃ places,DataW.whole enc Go.Proofs.Tryz.prog ((Xjr os).forCall (fun _ _=>0) ⟨#[],#[.agg #[.slice none 0 0,.slice none 0 0],.agg #[.int .i64 0,.string ⟨#[]⟩,.string ⟨#[]⟩,.int .i64 0,.int .i64 0,.slice none 0 0],.slice none 0 0],[]⟩).memory Go.Proofs.Tryz.f3.params.toList Rows.fnExactDoCallSpec.vars false #[(Value.agg #[.slice none 0 0,.slice none 0 0]:Value),(Value.agg #[.int .i64 0,.string ⟨#[]⟩,.string ⟨#[]⟩,.int .i64 0,.int .i64 0,.slice none 0 0]:Value),(Value.slice none 0 0:Value)].toList 8=some ([.agg [.nil,.nil],.agg [.lit (.int .i64 0),.lit (.string []),.lit (.string []),.lit (.int .i64 0),.lit (.int .i64 0),.nil],.nil],[],places):=
 ⟨[],by kernel_rfl⟩
set_option maxRecDepth 100000 in
theorem lifted (os:Os) (started:os.Started) (H:Type) (enc:TypeId×Value→H) (F:Stop.Interp) :
  ReturnsInHanded {} Go.Proofs.Tryz.checked os 3 .any ((Rows.OpenSpec.upto Rows.fnExactDoCallSpec).preRow enc Go.Proofs.Tryz.prog Go.Proofs.Tryz.f3 Rows.fnExactDoCallUptoRow.domain false Rows.fnExactDoCallUptoRow.laid) (((Rows.OpenSpec.upto Rows.fnExactDoCallSpec).at F).post enc Go.Proofs.Tryz.prog Go.Proofs.Tryz.f3 false true false false):=by
 obtain⟨places,hx⟩:=reads os enc
 refine returnsInHanded_of_row (C:=Go.Proofs.Tryz.checked) (s:=Rows.OpenSpec.upto Rows.fnExactDoCallSpec) Xtg started (by kernel_rfl) Go.Proofs.Tryz.func3
  (witness_row_at (enc:=enc) (C:=Go.Proofs.Tryz.checked) false (Xjr os) #[.agg #[.slice none 0 0,.slice none 0 0],.agg #[.int .i64 0,.string ⟨#[]⟩,.string ⟨#[]⟩,.int .i64 0,.int .i64 0,.slice none 0 0],.slice none 0 0] rfl (by kernel_rfl) (by kernel_rfl) (by kernel_rfl)
   (OpenSpec.preRow_of_cond 8 hx (by kernel_rfl) (fun k hk=>by cases hk;kernel_rfl) (by kernel_rfl) (Xo3 os))) ?_
 intro W base args ds gs before hval hW _ hcond _ _ _ _;exact contract H enc W base args ds gs before hval hW (hcond _ rfl)
theorem Xtc:(Rows.fnExactDoCallUptoRow.inPlace == Tryz.pinned.checked.prog.inPlace 3)=true:=by kernel_rfl
theorem Xtf:(Rows.fnExactDoCallUptoRow.unfollowed == Tryz.pinned.checked.prog.unfollowed 3)=true:=by kernel_rfl
theorem Xte:(Rows.fnExactDoCallUptoRow.recurses == Tryz.pinned.checked.prog.recurses 3)=true:=by kernel_rfl
theorem Xtd:(Rows.fnExactDoCallUptoRow.named == Tryz.pinned.checked.prog.varsNamed 3)=true:=by kernel_rfl
theorem Xtb:joinedFacts Tryz.pinned.checked.prog 3 Go.Proofs.Tryz.f3 (Rows.OpenSpec.upto Rows.fnExactDoCallSpec).bare Rows.fnExactDoCallUptoRow=true:=by
 unfold joinedFacts;rw[Xtc,Xtf,Xte,Xtd]
 kernel_rfl
theorem over:Rows.fnExactDoCallUptoRow.holds Tryz.pinned (Rows.OpenSpec.upto Rows.fnExactDoCallSpec):=
 OpenClaim.holds_of_cond 3 Go.Proofs.Tryz.f3 rfl rfl rfl rfl rfl rfl rfl ⟨rfl,rfl,rfl,rfl,rfl⟩ rfl rfl rfl rfl rfl (by kernel_rfl) (by kernel_rfl) Xtb
  (of_decide_eq_true (by kernel_rfl)) (by unfold Func.isWrapper;first | (rw[jL (by decide +kernel)];kernel_rfl) | (rw[jM (by decide +kernel)];exact⟨rfl,rfl⟩))
  (fun os started H enc _ F=>by rw[OpenClaim.pre_eq_preRow];exact lifted os started H enc F)
theorem plain (f:FuncId) (fn:Func) (hf:Tryz.pinned.checked.prog.funcNamed "loop.example/g00295/laws.FnExactDoCall"=some f) (hfn:Tryz.pinned.checked.prog.funcs[f]? = some fn) :
  false=Tryz.pinned.checked.prog.looks []∧∀ (j:Nat) t,fn.params[j]? = some t→Tryz.pinned.checked.prog.wantsStandIn t=false:=by
 obtain rfl:f=3:=jN ((show Go.Proofs.Tryz.prog.funcNamed "loop.example/g00295/laws.FnExactDoCall"=some 3 by kernel_rfl).symm.trans hf) |>.symm
 obtain rfl:fn=Go.Proofs.Tryz.f3:=(jN (Go.Proofs.Tryz.func3.symm.trans hfn)).symm
 refine⟨by kernel_rfl,fun j t ht=>?_⟩
 rw[show Go.Proofs.Tryz.f3.params=#[25,28,29] from rfl] at ht
 have h:t∈[25,28,29]:=by simpa using Array.mem_of_getElem? ht
 have hall:[25,28,29].all (fun t=>!Go.Proofs.Tryz.prog.wantsStandIn t)=true:=by kernel_rfl
 show Go.Proofs.Tryz.prog.wantsStandIn t=false
 simpa using List.all_eq_true.1 hall t h
theorem card:Rows.FnExactDoCallUptoCardSaid:=
 Claim7.holds_tied_plain_at .later [] _ _ _ _ over (fun _ h=>by cases h) (by kernel_rfl) (fun _ h=>by cases h) fnExactDoCallUpto_row_tie rfl ⟨rfl,rfl⟩ (by kernel_rfl) rfl plain (by kernel_rfl)
end DoCall
end Mf
namespace Go.Proofs.YtmkdncckdmanlaaGreatDoor
theorem DoCall_upto:Rows.FnExactDoCallUptoCardSaid:=Mf.DoCall.card
end Go.Proofs.YtmkdncckdmanlaaGreatDoor
