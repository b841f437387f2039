import Derived.Test.YtmgbiodgebigeaaGreatSyncWorldB
import Derived.Test.YtmgbiodgebigeaaGreatRows
import Derived.WalkKit
import Derived.ProofKit
import Derived.OpenShut
import Derived.JoinedCond
set_option linter.unusedVariables false
set_option linter.unusedSimpArgs false
namespace Mf
open Go Go.ChangeShapes Go.WideShapes Go.ChangeAt Go.RowKit
open Go.Proofs.YtmgbiodgebigeaaGreat
theorem Xbv {H:Type}:∀ l:List (DataW H),Rows.uptoBulkAll l=Yeg Rows.uptoBulk l
 |[]=>by simp[Rows.uptoBulkAll,Yeg]
 |d::l=>by simp[Rows.uptoBulkAll,Yeg,Xbv l]
theorem Xo9 {H:Type}:Ytx (Rows.uptoBulk (H:=H)) where
 one:=fun d=>by
  cases d with
  |lit l=>cases l<;>simp[Rows.uptoBulk]
  |_=>simp[Rows.uptoBulk]
 str:=fun b=>by simp[Rows.uptoBulk]
 sl:=fun a b=>by simp only[Rows.uptoBulk,Xbv];omega
 agg:=fun a=>by simp only[Rows.uptoBulk,Xbv];omega
def tbr:Tb:=tb.filter fun x=>[2,4,5,9,22,23,25,26,27,29,31,33,97,141,143,145,209].any (Nat.beq x.1)
theorem Xuy:Yag Go.Proofs.Tryz.prog tbr:=Yv2 (by kernel_rfl)
theorem Xqt:Yc1 Go.Proofs.Tryz.prog tbr tbr=true:=by kernel_rfl
theorem Xv5:ownKnob Go.Proofs.Tryz.prog.godebug=none:=by kernel_rfl
namespace SyncWorld
theorem ok:Ycs Go.Proofs.Tryz.prog 3 (Ycc [.sh] (shs [Xp]) (fun x=>Xlw x.1) (fun b=>⟨[.cl .sh .bool b],[]⟩)):=Xlw.ok
set_option maxRecDepth 100000 in
theorem contract (H:Type) (enc:TypeId×Value→H) (W:World) (base:Nat) (args:Array Value) (ds gs:List (DataW H)) (before:List MemPlace)
  (hval:∀ (j:Nat) t v,Go.Proofs.Tryz.f3.params[j]? = some t→args[j]? = some v→Value.okWide Go.Proofs.Tryz.prog W .any base t v)
  (hW:DataW.Whole enc Go.Proofs.Tryz.prog Go.Proofs.Tryz.f3.params.toList Rows.fnExactSyncWorldSpec.vars false W args.toList ds gs before) (hk:Rows.uptoSmall H (ds++gs)=true) :
  Calls Go.Proofs.Tryz.prog 3 args W fun e W'=>∃ v,e=.returned v∧Rows.fnExactSyncWorldSpec.post enc Go.Proofs.Tryz.prog Go.Proofs.Tryz.f3 false true false false W args v W':=by
 have hk':Yeg Rows.uptoBulk (ds++gs)≤1048576:=by rw[←Xbv];exact of_decide_eq_true hk
 refine Ytc (tys:=[Xp]) Xuy Xqt Xo9 (by kernel_rfl) ok (by kernel_rfl) hval hW hk' (fun x hf hw=>law x hf hw) ?_ (tr:=4) (by kernel_rfl) (by kernel_rfl)
 ·have hl:=hW
  obtain⟨p,q,hA,hV,rfl,_⟩:=hl;rw[show Go.Proofs.Tryz.f3.params.toList=[31] from rfl] at hA;obtain⟨v0,vs0,d0,ds0,a0,b0,_,rfl,_,_,h1⟩:=trodAll_cons hA;obtain⟨_,rfl,_⟩:=trodAll_nil h1;obtain⟨rfl,_⟩:=trodVars_none hV;rfl
set_option maxRecDepth 100000 in
theorem lifted (os:Os) (started:os.Started) (H:Type) (enc:TypeId×Value→H) (F:Stop.Interp) :
  ReturnsInHanded {} Go.Proofs.Tryz.checked os 3 .any ((Rows.OpenSpec.upto Rows.fnExactSyncWorldSpec).pre6 enc Go.Proofs.Tryz.prog Go.Proofs.Tryz.f3 Rows.fnExactSyncWorldUptoRow.domain false) (((Rows.OpenSpec.upto Rows.fnExactSyncWorldSpec).at F).post enc Go.Proofs.Tryz.prog Go.Proofs.Tryz.f3 false true false false):=by
 refine returnsInHanded_of_cond (C:=Go.Proofs.Tryz.checked) (s:=Rows.OpenSpec.upto Rows.fnExactSyncWorldSpec) (k:=Rows.uptoSmall) rfl Xv5 started (by kernel_rfl) (by kernel_rfl)
  (OpenSpec.witness (enc:=enc) (C:=Go.Proofs.Tryz.checked) (s:=Rows.OpenSpec.upto Rows.fnExactSyncWorldSpec) (k:=Rows.uptoSmall) rfl false
   ⟨#[],#[.agg #[.slice none 0 0,.slice none 0 0,.slice none 0 0,.slice none 0 0,.slice none 0 0,.slice none 0 0]],[]⟩ 8 (by kernel_rfl) (by kernel_rfl) (by kernel_rfl)
   (x:=([.agg [.agg [.nil,.nil],.agg [.nil,.nil],.agg [.nil,.nil]]],[],[])) (by kernel_rfl) rfl (by kernel_rfl)) ?_
 intro W base args ds gs before hval hW _ hk _;exact contract H enc W base args ds gs before hval hW hk
theorem Xv6:(Rows.fnExactSyncWorldUptoRow.inPlace == Tryz.pinned.checked.prog.inPlace 3)=true:=by kernel_rfl
theorem Xv4:(Rows.fnExactSyncWorldUptoRow.unfollowed == Tryz.pinned.checked.prog.unfollowed 3)=true:=by kernel_rfl
theorem Xv2:(Rows.fnExactSyncWorldUptoRow.recurses == Tryz.pinned.checked.prog.recurses 3)=true:=by kernel_rfl
theorem Xv8:(Rows.fnExactSyncWorldUptoRow.named == Tryz.pinned.checked.prog.varsNamed 3)=true:=by kernel_rfl
theorem Xv3:joinedFacts Tryz.pinned.checked.prog 3 Go.Proofs.Tryz.f3 (Rows.OpenSpec.upto Rows.fnExactSyncWorldSpec).bare Rows.fnExactSyncWorldUptoRow=true:=by
 unfold joinedFacts;rw[Xv6,Xv4,Xv2,Xv8]
 kernel_rfl
theorem over:Rows.fnExactSyncWorldUptoRow.holds Tryz.pinned (Rows.OpenSpec.upto Rows.fnExactSyncWorldSpec):=
 OpenClaim.holds_of_cond 3 Go.Proofs.Tryz.f3 rfl rfl rfl rfl rfl rfl rfl ⟨rfl,rfl,rfl,rfl,rfl⟩ rfl rfl rfl rfl rfl (by kernel_rfl) (by kernel_rfl) Xv3
  (of_decide_eq_true (by kernel_rfl)) (by unfold Func.isWrapper;first | (rw[jL (by decide +kernel)];kernel_rfl) | (rw[jM (by decide +kernel)];exact⟨rfl,rfl⟩))
  (fun os started H enc _ F=>lifted os started H enc F)
end SyncWorld
end Mf
namespace Go.Proofs.YtmgbiodgebigeaaGreat
theorem SyncWorld_upto:Rows.FnExactSyncWorldUptoSaid:=Mf.SyncWorld.over
end Go.Proofs.YtmgbiodgebigeaaGreat
