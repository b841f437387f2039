import Derived.Test.YthaonimonnheeaaGreatCheckDiskB
import Derived.Test.YthaonimonnheeaaGreatRows
import Derived.WalkKit
import Derived.ProofKit
import Derived.OpenShut
import Derived.JoinedCond
namespace Mf
open Go Go.ChangeShapes Go.WideShapes Go.ChangeAt Go.RowKit
open Go.Proofs.YthaonimonnheeaaGreat
set_option linter.unusedVariables false
set_option linter.unusedSimpArgs false
theorem Xbs {H:Type}:∀ l:List (DataW H),Rows.uptoBulkAll l=Yca Rows.uptoBulk l
 |[]=>by simp[Rows.uptoBulkAll,Yca]
 |d::l=>by simp[Rows.uptoBulkAll,Yca,Xbs l]
theorem Xnr {H:Type}:Yui (Rows.uptoBulk (H:=H)) where
 one:=fun d=>by
  cases d with
  |lit l=>cases l<;>simp[Rows.uptoBulk]
  |_=>simp[Rows.uptoBulk]
 str:=fun b=>by simp[Rows.uptoBulk]
 sl:=fun a b=>by simp only[Rows.uptoBulk,Xbs];omega
 agg:=fun a=>by simp only[Rows.uptoBulk,Xbs];omega
def tbr:Tb:=tb.filter fun x=>[2,4,22,23,25,51,133].any (Nat.beq x.1)
theorem Xsc:Yaf Go.Proofs.Tryz.prog tbr:=Yxg (by kernel_rfl)
theorem Xpy:Yc4 Go.Proofs.Tryz.prog tbr tbr=true:=by kernel_rfl
theorem Xue:ownKnob Go.Proofs.Tryz.prog.godebug=none:=by kernel_rfl
namespace CheckDisk
theorem ok:Yb5 Go.Proofs.Tryz.prog 4 (Ybr [.sh] (shs [Xh]) (fun x=>Xj7 x.1) (fun b=>⟨[.cl .sh .bool b],[]⟩)):=Xj7.ok
set_option maxRecDepth 100000 in
theorem contract (H:Type) (enc:TypeId×Value→H) (W:World) (base:Nat) (args:Array Value) (ds gs:List (DataW H)) (before:List MemPlace)
  (hval:∀ (j:Nat) t v,Go.Proofs.Tryz.f4.params[j]? = some t→args[j]? = some v→Value.okWide Go.Proofs.Tryz.prog W .any base t v)
  (hW:DataW.Whole enc Go.Proofs.Tryz.prog Go.Proofs.Tryz.f4.params.toList Rows.fnExactCheckDiskSpec.vars false W args.toList ds gs before) (hk:Rows.uptoSmall H (ds++gs)=true) :
  Calls Go.Proofs.Tryz.prog 4 args W fun e W'=>∃ v,e=.returned v∧Rows.fnExactCheckDiskSpec.post enc Go.Proofs.Tryz.prog Go.Proofs.Tryz.f4 false true false false W args v W':=by
 have hk':Yca Rows.uptoBulk (ds++gs)≤1048576:=by rw[←Xbs];exact of_decide_eq_true hk
 refine Ys0 (tys:=[Xh]) Xsc Xpy Xnr (by kernel_rfl) ok (by kernel_rfl) hval hW hk' (fun x hf hw=>law x hf hw) ?_ (tr:=4) (by kernel_rfl) (by kernel_rfl)
 ·have hl:=hW
  obtain⟨p,q,hA,hV,rfl,_⟩:=hl;rw[show Go.Proofs.Tryz.f4.params.toList=[25] from rfl] at hA;obtain⟨v0,vs0,d0,ds0,a0,b0,_,rfl,_,_,h1⟩:=trodAll_cons hA;obtain⟨_,rfl,_⟩:=trodAll_nil h1;obtain⟨rfl,_⟩:=trodVars_none hV;rfl
set_option maxRecDepth 100000 in
theorem lifted (os:Os) (started:os.Started) (H:Type) (enc:TypeId×Value→H) (F:Stop.Interp) :
  ReturnsInHanded {} Go.Proofs.Tryz.checked os 4 .any ((Rows.OpenSpec.upto Rows.fnExactCheckDiskSpec).pre6 enc Go.Proofs.Tryz.prog Go.Proofs.Tryz.f4 Rows.fnExactCheckDiskUptoRow.domain false) (((Rows.OpenSpec.upto Rows.fnExactCheckDiskSpec).at F).post enc Go.Proofs.Tryz.prog Go.Proofs.Tryz.f4 false true false false):=by
 refine returnsInHanded_of_cond (C:=Go.Proofs.Tryz.checked) (s:=Rows.OpenSpec.upto Rows.fnExactCheckDiskSpec) (k:=Rows.uptoSmall) rfl Xue started (by kernel_rfl) (by kernel_rfl)
  (OpenSpec.witness (enc:=enc) (C:=Go.Proofs.Tryz.checked) (s:=Rows.OpenSpec.upto Rows.fnExactCheckDiskSpec) (k:=Rows.uptoSmall) rfl false
   ⟨#[],#[.agg #[.slice none 0 0,.slice none 0 0]],[]⟩ 8 (by kernel_rfl) (by kernel_rfl) (by kernel_rfl)
   (x:=([.agg [.nil,.nil]],[],[])) (by kernel_rfl) rfl (by kernel_rfl)) ?_
 intro W base args ds gs before hval hW _ hk _;exact contract H enc W base args ds gs before hval hW hk
theorem Xuf:(Rows.fnExactCheckDiskUptoRow.inPlace == Tryz.pinned.checked.prog.inPlace 4)=true:=by kernel_rfl
theorem Xud:(Rows.fnExactCheckDiskUptoRow.unfollowed == Tryz.pinned.checked.prog.unfollowed 4)=true:=by kernel_rfl
theorem Xub:(Rows.fnExactCheckDiskUptoRow.recurses == Tryz.pinned.checked.prog.recurses 4)=true:=by kernel_rfl
theorem Xt9:(Rows.fnExactCheckDiskUptoRow.named == Tryz.pinned.checked.prog.varsNamed 4)=true:=by kernel_rfl
theorem Xt8:joinedFacts Tryz.pinned.checked.prog 4 Go.Proofs.Tryz.f4 (Rows.OpenSpec.upto Rows.fnExactCheckDiskSpec).bare Rows.fnExactCheckDiskUptoRow=true:=by
 unfold joinedFacts;rw[Xuf,Xud,Xub,Xt9]
 kernel_rfl
theorem over:Rows.fnExactCheckDiskUptoRow.holds Tryz.pinned (Rows.OpenSpec.upto Rows.fnExactCheckDiskSpec):=
 OpenClaim.holds_of_cond 4 Go.Proofs.Tryz.f4 rfl rfl rfl rfl rfl rfl rfl ⟨rfl,rfl,rfl,rfl,rfl⟩ rfl rfl rfl rfl rfl (by kernel_rfl) (by kernel_rfl) Xt8
  (of_decide_eq_true (by kernel_rfl)) (by unfold Func.isWrapper;first | (rw[if_pos (by decide +kernel)];kernel_rfl) | (rw[if_neg (by decide +kernel)];exact⟨rfl,rfl⟩))
  (fun os started H enc _ F=>lifted os started H enc F)
end CheckDisk
end Mf
namespace Go.Proofs.YthaonimonnheeaaGreat
theorem CheckDisk_upto:Rows.FnExactCheckDiskUptoSaid:=Mf.CheckDisk.over
end Go.Proofs.YthaonimonnheeaaGreat
