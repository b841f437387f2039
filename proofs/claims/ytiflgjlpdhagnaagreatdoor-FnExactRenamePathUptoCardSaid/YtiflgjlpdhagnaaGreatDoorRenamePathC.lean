import Derived.Test.YtiflgjlpdhagnaaGreatDoorRenamePathB
import Derived.Test.YtiflgjlpdhagnaaGreatDoorCards
import Derived.Test.YtiflgjlpdhagnaaGreatDoorTie
import Derived.WalkKit
import Derived.ProofKit
import Derived.OpenShut
import Derived.JoinedCond
import Derived.Deep.DeepHandedRow
set_option linter.unusedVariables false
set_option linter.unusedSimpArgs false
namespace Mf
open Go Go.ChangeShapes Go.WideShapes Go.ChangeAt Go.RowKit
open Go.Proofs.YtiflgjlpdhagnaaGreatDoor
theorem Xan {H:Type}:∀ l:List (DataW H),Rows.uptoBulkAll l=Yec Rows.uptoBulk l
 |[]=>by simp[Rows.uptoBulkAll,Yec]
 |d::l=>by simp[Rows.uptoBulkAll,Yec,Xan l]
theorem Xjw {H:Type}:Yt4 (Rows.uptoBulk (H:=H)) where
 one:=fun d=>by
  cases d with
  |lit l=>cases l<;>simp[Rows.uptoBulk]
  |_=>simp[Rows.uptoBulk]
 str:=fun b=>by simp[Rows.uptoBulk]
 sl:=fun a b=>by simp only[Rows.uptoBulk,Xan];omega
 agg:=fun a=>by simp only[Rows.uptoBulk,Xan];omega
def tbr:Tb:=tb.filter fun x=>[2,4,5,9,22,23,25,27,59,60,62,130].any (Nat.beq x.1)
theorem Xn1:Yaj Go.Proofs.Tryz.prog tbr:=Ywl (by kernel_rfl)
theorem Xkn:Ycw Go.Proofs.Tryz.prog tbr tbr=true:=by kernel_rfl
theorem Xn8:ownKnob Go.Proofs.Tryz.prog.godebug=none:=by kernel_rfl
namespace RenamePath
theorem ok:Ycs Go.Proofs.Tryz.prog 4 (Yc8 [.sh,.sh,.sh] (shs [Xk,.str,.str]) (fun x=>Xgu x.1 x.2.1 x.2.2.1) (fun b=>⟨[.cl .sh .bool b],[]⟩)):=Xgu.ok
set_option maxRecDepth 100000 in
theorem contract (H:Type) (enc:TypeId×Value→H) (W:World) (base:Nat) (args:Array Value) (ds gs:List (DataW H)) (before:List MemPlace)
  (hval:∀ (j:Nat) t v,Go.Proofs.Tryz.f4.params[j]? = some t→args[j]? = some v→Value.okWide Go.Proofs.Tryz.prog W .any base t v)
  (hW:DataW.Whole enc Go.Proofs.Tryz.prog Go.Proofs.Tryz.f4.params.toList Rows.fnExactRenamePathSpec.vars false W args.toList ds gs before) (hk:Rows.uptoSmall H (ds++gs)=true) :
  Calls Go.Proofs.Tryz.prog 4 args W fun e W'=>∃ v,e=.returned v∧Rows.fnExactRenamePathSpec.post enc Go.Proofs.Tryz.prog Go.Proofs.Tryz.f4 false true false false W args v W':=by
 have hk':Yec Rows.uptoBulk (ds++gs)≤1048576:=by rw[←Xan];exact of_decide_eq_true hk
 refine Ys2 (tys:=[Xk,.str,.str]) Xn1 Xkn Xjw (by kernel_rfl) ok (by kernel_rfl) hval hW hk' (fun x hf hw=>law x hf hw) ?_ (tr:=4) (by kernel_rfl) (by kernel_rfl)
 ·have hl:=hW
  obtain⟨p,q,hA,hV,rfl,_⟩:=hl;rw[show Go.Proofs.Tryz.f4.params.toList=[25,9,9] from rfl] at hA;obtain⟨v0,vs0,d0,ds0,a0,b0,_,rfl,_,_,h1⟩:=trodAll_cons hA;obtain⟨v1,vs1,d1,ds1,a1,b1,_,rfl,_,_,h2⟩:=trodAll_cons h1;obtain⟨v2,vs2,d2,ds2,a2,b2,_,rfl,_,_,h3⟩:=trodAll_cons h2;obtain⟨_,rfl,_⟩:=trodAll_nil h3;obtain⟨rfl,_⟩:=trodVars_none hV;rfl
noncomputable def Xgg (os:Os):World:=
 {World.holding Go.Proofs.Tryz.prog os ⟨#[],#[],[]⟩ with heap:=(((World.holding Go.Proofs.Tryz.prog os ⟨#[],#[],[]⟩).heap).modify ((Go.Proofs.Tryz.prog.globalNamed "unicode/utf8.acceptRanges").getD 0) fun | .cells _ t fr=>.cells #[.int .u8 128,.int .u8 191,.int .u8 160,.int .u8 191,.int .u8 128,.int .u8 159,.int .u8 144,.int .u8 191,.int .u8 128,.int .u8 143,.int .u8 0,.int .u8 0,.int .u8 0,.int .u8 0,.int .u8 0,.int .u8 0,.int .u8 0,.int .u8 0,.int .u8 0,.int .u8 0,.int .u8 0,.int .u8 0,.int .u8 0,.int .u8 0,.int .u8 0,.int .u8 0,.int .u8 0,.int .u8 0,.int .u8 0,.int .u8 0,.int .u8 0,.int .u8 0] t fr | o=>o).modify ((Go.Proofs.Tryz.prog.globalNamed "unicode/utf8.first").getD 0) fun | .cells _ t fr=>.cells (Go.Pinned.utf8FirstZ.map fun n=>Value.int .u8 (Int.ofNat n)).toArray t fr | o=>o }
set_option maxRecDepth 1000000 in
theorem Xks (os:Os):laidMet Go.Proofs.Tryz.prog Rows.fnExactRenamePathUptoRow.laid ((Xgg os).forCall (fun _ _=>0) ⟨#[],#[.agg #[.slice none 0 0,.slice none 0 0],.string ⟨#[]⟩,.string ⟨#[]⟩],[]⟩).memory:=
 laidMet_of_run' 8 (by kernel_rfl) (by kernel_rfl)
theorem reads (os:Os) {H:Type} (enc:TypeId×Value→H):∃ places,DataW.whole enc Go.Proofs.Tryz.prog ((Xgg os).forCall (fun _ _=>0) ⟨#[],#[.agg #[.slice none 0 0,.slice none 0 0],.string ⟨#[]⟩,.string ⟨#[]⟩],[]⟩).memory Go.Proofs.Tryz.f4.params.toList Rows.fnExactRenamePathSpec.vars false #[(Value.agg #[.slice none 0 0,.slice none 0 0]:Value),(Value.string ⟨#[]⟩:Value),(Value.string ⟨#[]⟩:Value)].toList 8=some ([.agg [.nil,.nil],.lit (.string []),.lit (.string [])],[],places):=
 ⟨[],by kernel_rfl⟩
set_option maxRecDepth 100000 in
theorem lifted (os:Os) (started:os.Started) (H:Type) (enc:TypeId×Value→H) (F:Stop.Interp) :
  ReturnsInHanded {} Go.Proofs.Tryz.checked os 4 .any ((Rows.OpenSpec.upto Rows.fnExactRenamePathSpec).preRow enc Go.Proofs.Tryz.prog Go.Proofs.Tryz.f4 Rows.fnExactRenamePathUptoRow.domain false Rows.fnExactRenamePathUptoRow.laid) (((Rows.OpenSpec.upto Rows.fnExactRenamePathSpec).at F).post enc Go.Proofs.Tryz.prog Go.Proofs.Tryz.f4 false true false false):=by
 obtain⟨places,hx⟩:=reads os enc
 refine returnsInHanded_of_row (C:=Go.Proofs.Tryz.checked) (s:=Rows.OpenSpec.upto Rows.fnExactRenamePathSpec) Xn8 started (by kernel_rfl) Go.Proofs.Tryz.func4
  (witness_row_at (enc:=enc) (C:=Go.Proofs.Tryz.checked) false (Xgg os) #[.agg #[.slice none 0 0,.slice none 0 0],.string ⟨#[]⟩,.string ⟨#[]⟩] rfl (by kernel_rfl) (by kernel_rfl) (by kernel_rfl)
   (OpenSpec.preRow_of_cond 8 hx (by kernel_rfl) (fun k hk=>by cases hk;kernel_rfl) (by kernel_rfl) (Xks os))) ?_
 intro W base args ds gs before hval hW _ hcond _ _ _ _;exact contract H enc W base args ds gs before hval hW (hcond _ rfl)
theorem Xn4:(Rows.fnExactRenamePathUptoRow.inPlace == Tryz.pinned.checked.prog.inPlace 4)=true:=by kernel_rfl
theorem Xn7:(Rows.fnExactRenamePathUptoRow.unfollowed == Tryz.pinned.checked.prog.unfollowed 4)=true:=by kernel_rfl
theorem Xn6:(Rows.fnExactRenamePathUptoRow.recurses == Tryz.pinned.checked.prog.recurses 4)=true:=by kernel_rfl
theorem Xn5:(Rows.fnExactRenamePathUptoRow.named == Tryz.pinned.checked.prog.varsNamed 4)=true:=by kernel_rfl
theorem Xn3:joinedFacts Tryz.pinned.checked.prog 4 Go.Proofs.Tryz.f4 (Rows.OpenSpec.upto Rows.fnExactRenamePathSpec).bare Rows.fnExactRenamePathUptoRow=true:=by
 unfold joinedFacts;rw[Xn4,Xn7,Xn6,Xn5]
 kernel_rfl
theorem over:Rows.fnExactRenamePathUptoRow.holds Tryz.pinned (Rows.OpenSpec.upto Rows.fnExactRenamePathSpec):=
 OpenClaim.holds_of_cond 4 Go.Proofs.Tryz.f4 rfl rfl rfl rfl rfl rfl rfl ⟨rfl,rfl,rfl,rfl,rfl⟩ rfl rfl rfl rfl rfl (by kernel_rfl) (by kernel_rfl) Xn3
  (of_decide_eq_true (by kernel_rfl)) (by unfold Func.isWrapper;first | (rw[jL (by decide +kernel)];kernel_rfl) | (rw[jM (by decide +kernel)];exact⟨rfl,rfl⟩))
  (fun os started H enc _ F=>by rw[OpenClaim.pre_eq_preRow];exact lifted os started H enc F)
theorem plain (f:FuncId) (fn:Func) (hf:Tryz.pinned.checked.prog.funcNamed "loop.example/g00295/laws.FnExactRenamePath"=some f) (hfn:Tryz.pinned.checked.prog.funcs[f]? = some fn) :
  false=Tryz.pinned.checked.prog.looks []∧∀ (j:Nat) t,fn.params[j]? = some t→Tryz.pinned.checked.prog.wantsStandIn t=false:=by
 obtain rfl:f=4:=jN ((show Go.Proofs.Tryz.prog.funcNamed "loop.example/g00295/laws.FnExactRenamePath"=some 4 by kernel_rfl).symm.trans hf) |>.symm
 obtain rfl:fn=Go.Proofs.Tryz.f4:=(jN (Go.Proofs.Tryz.func4.symm.trans hfn)).symm
 refine⟨by kernel_rfl,fun j t ht=>?_⟩
 rw[show Go.Proofs.Tryz.f4.params=#[25,9,9] from rfl] at ht
 have h:t∈[25,9,9]:=by simpa using Array.mem_of_getElem? ht
 have hall:[25,9,9].all (fun t=>!Go.Proofs.Tryz.prog.wantsStandIn t)=true:=by kernel_rfl
 show Go.Proofs.Tryz.prog.wantsStandIn t=false
 simpa using List.all_eq_true.1 hall t h
theorem card:Rows.FnExactRenamePathUptoCardSaid:=
 Claim7.holds_tied_plain_at .later [] _ _ _ _ over (fun _ h=>by cases h) (by kernel_rfl) (fun _ h=>by cases h) fnExactRenamePathUpto_row_tie rfl ⟨rfl,rfl⟩ (by kernel_rfl) rfl plain (by kernel_rfl)
end RenamePath
end Mf
namespace Go.Proofs.YtiflgjlpdhagnaaGreatDoor
theorem RenamePath_upto:Rows.FnExactRenamePathUptoCardSaid:=Mf.RenamePath.card
end Go.Proofs.YtiflgjlpdhagnaaGreatDoor
