import Derived.Test.YtmgbiodgebigeaaDoorWordsOfB
import Derived.Test.YtmgbiodgebigeaaDoorCards
import Derived.Test.YtmgbiodgebigeaaDoorTie
import Derived.WalkKit
import Derived.ProofKit
import Derived.OpenShut
import Derived.JoinedCond
import Derived.Deep.DeepHandedRow
set_option linter.unusedVariables false
set_option linter.unusedSimpArgs false
namespace Mf
open Go Go.ChangeShapes Go.WideShapes Go.ChangeAt Go.RowKit
open Go.Proofs.YtmgbiodgebigeaaDoor
theorem Xh {H:Type}:∀ l:List (DataW H),Rows.uptoBulkAll l=Ydj Rows.uptoBulk l
 |[]=>by simp[Rows.uptoBulkAll,Ydj]
 |d::l=>by simp[Rows.uptoBulkAll,Ydj,Xh l]
theorem Xai {H:Type}:Yry (Rows.uptoBulk (H:=H)) where
 one:=fun d=>by
  cases d with
  |lit l=>cases l<;>simp[Rows.uptoBulk]
  |_=>simp[Rows.uptoBulk]
 str:=fun b=>by simp[Rows.uptoBulk]
 sl:=fun a b=>by simp only[Rows.uptoBulk,Xh];omega
 agg:=fun a=>by simp only[Rows.uptoBulk,Xh];omega
def tbr:Tb:=tb.filter fun x=>[4,9].any (Nat.beq x.1)
theorem Xar:Yaj Go.Proofs.Tryd.prog tbr:=Ytt (by kernel_rfl)
theorem Xak:Ycd Go.Proofs.Tryd.prog tbr tbr=true:=by kernel_rfl
theorem Xa7:ownKnob Go.Proofs.Tryd.prog.godebug=none:=by kernel_rfl
namespace WordsOf
theorem ok:Yee Go.Proofs.Tryd.prog 3 (Yh4 [.sh] (shs [.str]) (fun x=>Xae x.1) (fun b=>⟨[.cl .sh .bool b],[]⟩)):=Xae.ok
set_option maxRecDepth 100000 in
theorem contract (H:Type) (enc:TypeId×Value→H) (W:World) (base:Nat) (args:Array Value) (ds gs:List (DataW H)) (before:List MemPlace)
  (hval:∀ (j:Nat) t v,Go.Proofs.Tryd.f3.params[j]? = some t→args[j]? = some v→Value.okWide Go.Proofs.Tryd.prog W .any base t v)
  (hW:DataW.Whole enc Go.Proofs.Tryd.prog Go.Proofs.Tryd.f3.params.toList Rows.fnExactWordsOfSpec.vars false W args.toList ds gs before) (hk:Rows.uptoSmall H (ds++gs)=true) :
  Calls Go.Proofs.Tryd.prog 3 args W fun e W'=>∃ v,e=.returned v∧Rows.fnExactWordsOfSpec.post enc Go.Proofs.Tryd.prog Go.Proofs.Tryd.f3 false true false false W args v W':=by
 have hk':Ydj Rows.uptoBulk (ds++gs)≤1048576:=by rw[←Xh];exact of_decide_eq_true hk
 refine Yq1 (tys:=[.str]) Xar Xak Xai (by kernel_rfl) ok (by kernel_rfl) hval hW hk' (fun x hf hw=>law x hf hw) ?_ (tr:=4) (by kernel_rfl) (by kernel_rfl)
 ·have hl:=hW
  obtain⟨p,q,hA,hV,rfl,_⟩:=hl;rw[show Go.Proofs.Tryd.f3.params.toList=[9] from rfl] at hA;obtain⟨v0,vs0,d0,ds0,a0,b0,_,rfl,_,_,h1⟩:=trodAll_cons hA;obtain⟨_,rfl,_⟩:=trodAll_nil h1;obtain⟨rfl,_⟩:=trodVars_none hV;rfl
noncomputable def Xz (os:Os):World:=
 {World.holding Go.Proofs.Tryd.prog os ⟨#[],#[],[]⟩ with heap:=(((World.holding Go.Proofs.Tryd.prog os ⟨#[],#[],[]⟩).heap).modify ((Go.Proofs.Tryd.prog.globalNamed "unicode/utf8.acceptRanges").getD 0) fun | .cells _ t fr=>.cells #[.int .u8 128,.int .u8 191,.int .u8 160,.int .u8 191,.int .u8 128,.int .u8 159,.int .u8 144,.int .u8 191,.int .u8 128,.int .u8 143,.int .u8 0,.int .u8 0,.int .u8 0,.int .u8 0,.int .u8 0,.int .u8 0,.int .u8 0,.int .u8 0,.int .u8 0,.int .u8 0,.int .u8 0,.int .u8 0,.int .u8 0,.int .u8 0,.int .u8 0,.int .u8 0,.int .u8 0,.int .u8 0,.int .u8 0,.int .u8 0,.int .u8 0,.int .u8 0] t fr | o=>o).modify ((Go.Proofs.Tryd.prog.globalNamed "unicode/utf8.first").getD 0) fun | .cells _ t fr=>.cells (Go.Pinned.utf8FirstZ.map fun n=>Value.int .u8 (Int.ofNat n)).toArray t fr | o=>o }
set_option maxRecDepth 1000000 in
theorem Xal (os:Os):laidMet Go.Proofs.Tryd.prog Rows.fnExactWordsOfUptoRow.laid ((Xz os).forCall (fun _ _=>0) ⟨#[],#[.string ⟨#[]⟩],[]⟩).memory:=
 laidMet_of_run' 8 (by kernel_rfl) (by kernel_rfl)
theorem reads (os:Os) {H:Type} (enc:TypeId×Value→H):∃ places,DataW.whole enc Go.Proofs.Tryd.prog ((Xz os).forCall (fun _ _=>0) ⟨#[],#[.string ⟨#[]⟩],[]⟩).memory Go.Proofs.Tryd.f3.params.toList Rows.fnExactWordsOfSpec.vars false #[(Value.string ⟨#[]⟩:Value)].toList 8=some ([.lit (.string [])],[],places):=
 ⟨[],by kernel_rfl⟩
set_option maxRecDepth 100000 in
theorem lifted (os:Os) (started:os.Started) (H:Type) (enc:TypeId×Value→H) (F:Stop.Interp) :
  ReturnsInHanded {} Go.Proofs.Tryd.checked os 3 .any ((Rows.OpenSpec.upto Rows.fnExactWordsOfSpec).preRow enc Go.Proofs.Tryd.prog Go.Proofs.Tryd.f3 Rows.fnExactWordsOfUptoRow.domain false Rows.fnExactWordsOfUptoRow.laid) (((Rows.OpenSpec.upto Rows.fnExactWordsOfSpec).at F).post enc Go.Proofs.Tryd.prog Go.Proofs.Tryd.f3 false true false false):=by
 obtain⟨places,hx⟩:=reads os enc
 refine returnsInHanded_of_row (C:=Go.Proofs.Tryd.checked) (s:=Rows.OpenSpec.upto Rows.fnExactWordsOfSpec) Xa7 started (by kernel_rfl) Go.Proofs.Tryd.func3
  (witness_row_at (enc:=enc) (C:=Go.Proofs.Tryd.checked) false (Xz os) #[.string ⟨#[]⟩] rfl (by kernel_rfl) (by kernel_rfl) (by kernel_rfl)
   (OpenSpec.preRow_of_cond 8 hx (by kernel_rfl) (fun k hk=>by cases hk;kernel_rfl) (by kernel_rfl) (Xal os))) ?_
 intro W base args ds gs before hval hW _ hcond _ _ _ _;exact contract H enc W base args ds gs before hval hW (hcond _ rfl)
theorem Xa3:(Rows.fnExactWordsOfUptoRow.inPlace == Tryd.pinned.checked.prog.inPlace 3)=true:=by kernel_rfl
theorem Xa6:(Rows.fnExactWordsOfUptoRow.unfollowed == Tryd.pinned.checked.prog.unfollowed 3)=true:=by kernel_rfl
theorem Xa5:(Rows.fnExactWordsOfUptoRow.recurses == Tryd.pinned.checked.prog.recurses 3)=true:=by kernel_rfl
theorem Xa4:(Rows.fnExactWordsOfUptoRow.named == Tryd.pinned.checked.prog.varsNamed 3)=true:=by kernel_rfl
theorem Xa2:joinedFacts Tryd.pinned.checked.prog 3 Go.Proofs.Tryd.f3 (Rows.OpenSpec.upto Rows.fnExactWordsOfSpec).bare Rows.fnExactWordsOfUptoRow=true:=by
 unfold joinedFacts;rw[Xa3,Xa6,Xa5,Xa4]
 kernel_rfl
theorem over:Rows.fnExactWordsOfUptoRow.holds Tryd.pinned (Rows.OpenSpec.upto Rows.fnExactWordsOfSpec):=
 OpenClaim.holds_of_cond 3 Go.Proofs.Tryd.f3 rfl rfl rfl rfl rfl rfl rfl ⟨rfl,rfl,rfl,rfl,rfl⟩ rfl rfl rfl rfl rfl (by kernel_rfl) (by kernel_rfl) Xa2
  (of_decide_eq_true (by kernel_rfl)) (by unfold Func.isWrapper;first | (rw[jL (by decide +kernel)];kernel_rfl) | (rw[jM (by decide +kernel)];exact⟨rfl,rfl⟩))
  (fun os started H enc _ F=>by rw[OpenClaim.pre_eq_preRow];exact lifted os started H enc F)
theorem plain (f:FuncId) (fn:Func) (hf:Tryd.pinned.checked.prog.funcNamed "loop.example/g00295/laws.FnExactWordsOf"=some f) (hfn:Tryd.pinned.checked.prog.funcs[f]? = some fn) :
  false=Tryd.pinned.checked.prog.looks []∧∀ (j:Nat) t,fn.params[j]? = some t→Tryd.pinned.checked.prog.wantsStandIn t=false:=by
 obtain rfl:f=3:=jN ((show Go.Proofs.Tryd.prog.funcNamed "loop.example/g00295/laws.FnExactWordsOf"=some 3 by kernel_rfl).symm.trans hf) |>.symm
 obtain rfl:fn=Go.Proofs.Tryd.f3:=(jN (Go.Proofs.Tryd.func3.symm.trans hfn)).symm
 refine⟨by kernel_rfl,fun j t ht=>?_⟩
 rw[show Go.Proofs.Tryd.f3.params=#[9] from rfl] at ht
 have h:t∈[9]:=by simpa using Array.mem_of_getElem? ht
 have hall:[9].all (fun t=>!Go.Proofs.Tryd.prog.wantsStandIn t)=true:=by kernel_rfl
 show Go.Proofs.Tryd.prog.wantsStandIn t=false
 simpa using List.all_eq_true.1 hall t h
theorem card:Rows.FnExactWordsOfUptoCardSaid:=
 Claim7.holds_tied_plain_at .later [] _ _ _ _ over (fun _ h=>by cases h) (by kernel_rfl) (fun _ h=>by cases h) fnExactWordsOfUpto_row_tie rfl ⟨rfl,rfl⟩ (by kernel_rfl) rfl plain (by kernel_rfl)
end WordsOf
end Mf
namespace Go.Proofs.YtmgbiodgebigeaaDoor
theorem WordsOf_upto:Rows.FnExactWordsOfUptoCardSaid:=Mf.WordsOf.card
end Go.Proofs.YtmgbiodgebigeaaDoor
