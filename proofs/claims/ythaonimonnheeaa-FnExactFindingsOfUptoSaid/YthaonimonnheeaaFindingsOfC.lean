import Derived.Test.YthaonimonnheeaaFindingsOfB
import Derived.Test.YthaonimonnheeaaRows
import Derived.WalkKit
import Derived.ProofKit
import Derived.OpenShut
import Derived.JoinedCond
namespace Mf
open Go Go.ChangeShapes Go.WideShapes Go.ChangeAt Go.RowKit
open Go.Proofs.Ythaonimonnheeaa
set_option linter.unusedVariables false
set_option linter.unusedSimpArgs false
theorem X5 {H:Type}:∀ l:List (DataW H),Rows.uptoBulkAll l=Yb9 Rows.uptoBulk l
 |[]=>by simp[Rows.uptoBulkAll,Yb9]
 |d::l=>by simp[Rows.uptoBulkAll,Yb9,X5 l]
theorem Xgd {H:Type}:Yuf (Rows.uptoBulk (H:=H)) where
 one:=fun d=>by
  cases d with
  |lit l=>cases l<;>simp[Rows.uptoBulk]
  |_=>simp[Rows.uptoBulk]
 str:=fun b=>by simp[Rows.uptoBulk]
 sl:=fun a b=>by simp only[Rows.uptoBulk,X5];omega
 agg:=fun a=>by simp only[Rows.uptoBulk,X5];omega
def tbr:Tb:=tb.filter fun x=>[2,4,5,9,22,23,25,27,64,66,68,110].any (Nat.beq x.1)
theorem Xix:Yah Go.Proofs.Try.prog tbr:=Yxa (by kernel_rfl)
theorem Xgq:Yc3 Go.Proofs.Try.prog tbr tbr=true:=by kernel_rfl
theorem Xjm:ownKnob Go.Proofs.Try.prog.godebug=none:=by kernel_rfl
namespace FindingsOf
theorem ok:Yb5 Go.Proofs.Try.prog 3 (Ybn [.sh] (shs [Xi]) (fun x=>Xd2 x.1) (fun b=>⟨[.cl .sh .bool b],[]⟩)):=Xd2.ok
set_option maxRecDepth 100000 in
theorem contract (H:Type) (enc:TypeId×Value→H) (W:World) (base:Nat) (args:Array Value) (ds gs:List (DataW H)) (before:List MemPlace)
  (hval:∀ (j:Nat) t v,Go.Proofs.Try.f3.params[j]? = some t→args[j]? = some v→Value.okWide Go.Proofs.Try.prog W .any base t v)
  (hW:DataW.Whole enc Go.Proofs.Try.prog Go.Proofs.Try.f3.params.toList Rows.fnExactFindingsOfSpec.vars false W args.toList ds gs before) (hk:Rows.uptoSmall H (ds++gs)=true) :
  Calls Go.Proofs.Try.prog 3 args W fun e W'=>∃ v,e=.returned v∧Rows.fnExactFindingsOfSpec.post enc Go.Proofs.Try.prog Go.Proofs.Try.f3 false true false false W args v W':=by
 have hk':Yb9 Rows.uptoBulk (ds++gs)≤1048576:=by rw[←X5];exact of_decide_eq_true hk
 refine Yt1 (tys:=[Xi]) Xix Xgq Xgd (by kernel_rfl) ok (by kernel_rfl) hval hW hk' (fun x hf hw=>law x hf hw) ?_ (tr:=4) (by kernel_rfl) (by kernel_rfl)
 ·have hl:=hW
  obtain⟨p,q,hA,hV,rfl,_⟩:=hl;rw[show Go.Proofs.Try.f3.params.toList=[25] from rfl] at hA;obtain⟨v0,vs0,d0,ds0,a0,b0,_,rfl,_,_,h1⟩:=trodAll_cons hA;obtain⟨_,rfl,_⟩:=trodAll_nil h1;obtain⟨rfl,_⟩:=trodVars_none hV;rfl
set_option maxRecDepth 100000 in
theorem lifted (os:Os) (started:os.Started) (H:Type) (enc:TypeId×Value→H) (F:Stop.Interp) :
  ReturnsInHanded {} Go.Proofs.Try.checked os 3 .any ((Rows.OpenSpec.upto Rows.fnExactFindingsOfSpec).pre6 enc Go.Proofs.Try.prog Go.Proofs.Try.f3 Rows.fnExactFindingsOfUptoRow.domain false) (((Rows.OpenSpec.upto Rows.fnExactFindingsOfSpec).at F).post enc Go.Proofs.Try.prog Go.Proofs.Try.f3 false true false false):=by
 refine returnsInHanded_of_cond (C:=Go.Proofs.Try.checked) (s:=Rows.OpenSpec.upto Rows.fnExactFindingsOfSpec) (k:=Rows.uptoSmall) rfl Xjm started (by kernel_rfl) (by kernel_rfl)
  (OpenSpec.witness (enc:=enc) (C:=Go.Proofs.Try.checked) (s:=Rows.OpenSpec.upto Rows.fnExactFindingsOfSpec) (k:=Rows.uptoSmall) rfl false
   ⟨#[],#[.agg #[.slice none 0 0,.slice none 0 0]],[]⟩ 8 (by kernel_rfl) (by kernel_rfl) (by kernel_rfl)
   (x:=([.agg [.nil,.nil]],[],[])) (by kernel_rfl) rfl (by kernel_rfl)) ?_
 intro W base args ds gs before hval hW _ hk _;exact contract H enc W base args ds gs before hval hW hk
theorem Xjs:(Rows.fnExactFindingsOfUptoRow.inPlace == Try.pinned.checked.prog.inPlace 3)=true:=by kernel_rfl
theorem Xjl:(Rows.fnExactFindingsOfUptoRow.unfollowed == Try.pinned.checked.prog.unfollowed 3)=true:=by kernel_rfl
theorem Xjn:(Rows.fnExactFindingsOfUptoRow.recurses == Try.pinned.checked.prog.recurses 3)=true:=by kernel_rfl
theorem Xjq:(Rows.fnExactFindingsOfUptoRow.named == Try.pinned.checked.prog.varsNamed 3)=true:=by kernel_rfl
theorem Xjo:joinedFacts Try.pinned.checked.prog 3 Go.Proofs.Try.f3 (Rows.OpenSpec.upto Rows.fnExactFindingsOfSpec).bare Rows.fnExactFindingsOfUptoRow=true:=by
 unfold joinedFacts;rw[Xjs,Xjl,Xjn,Xjq]
 kernel_rfl
theorem over:Rows.fnExactFindingsOfUptoRow.holds Try.pinned (Rows.OpenSpec.upto Rows.fnExactFindingsOfSpec):=
 OpenClaim.holds_of_cond 3 Go.Proofs.Try.f3 rfl rfl rfl rfl rfl rfl rfl ⟨rfl,rfl,rfl,rfl,rfl⟩ rfl rfl rfl rfl rfl (by kernel_rfl) (by kernel_rfl) Xjo
  (of_decide_eq_true (by kernel_rfl)) (by unfold Func.isWrapper;first | (rw[if_pos (by decide +kernel)];kernel_rfl) | (rw[if_neg (by decide +kernel)];exact⟨rfl,rfl⟩))
  (fun os started H enc _ F=>lifted os started H enc F)
end FindingsOf
end Mf
namespace Go.Proofs.Ythaonimonnheeaa
theorem FindingsOf_upto:Rows.FnExactFindingsOfUptoSaid:=Mf.FindingsOf.over
end Go.Proofs.Ythaonimonnheeaa
