import Derived.Test.YthaonimonnheeaaGreatCrashSyncB
import Derived.Test.YthaonimonnheeaaGreatRows
import Derived.WalkKit
import Derived.ProofKit
import Derived.OpenShut
import Derived.JoinedCond
namespace Mf
open Go Go.ChangeShapes Go.WideShapes Go.ChangeAt Go.RowKit
open Go.Proofs.YthaonimonnheeaaGreat
set_option linter.unusedVariables false
set_option linter.unusedSimpArgs false
theorem Xbk {H:Type}:∀ l:List (DataW H),Rows.uptoBulkAll l=Yca Rows.uptoBulk l
 |[]=>by simp[Rows.uptoBulkAll,Yca]
 |d::l=>by simp[Rows.uptoBulkAll,Yca,Xbk l]
theorem Xnx {H:Type}:Yu5 (Rows.uptoBulk (H:=H)) where
 one:=fun d=>by
  cases d with
  |lit l=>cases l<;>simp[Rows.uptoBulk]
  |_=>simp[Rows.uptoBulk]
 str:=fun b=>by simp[Rows.uptoBulk]
 sl:=fun a b=>by simp only[Rows.uptoBulk,Xbk];omega
 agg:=fun a=>by simp only[Rows.uptoBulk,Xbk];omega
def tbr:Tb:=tb.filter fun x=>[2,4,5,9,22,23,25,26,27,29,51,59,60,76,133,135,137,245].any (Nat.beq x.1)
theorem Xud:Yag Go.Proofs.Tryz.prog tbr:=Yxi (by kernel_rfl)
theorem Xpo:Yc5 Go.Proofs.Tryz.prog tbr tbr=true:=by kernel_rfl
theorem Xut:ownKnob Go.Proofs.Tryz.prog.godebug=none:=by kernel_rfl
namespace CrashSync
theorem ok:Yb2 Go.Proofs.Tryz.prog 5 (Ybk [.sh,.sh,.sh] (shs [Xp,(.int .i64),(.sl .bool)]) (fun x=>Xkk x.1 x.2.1 x.2.2.1) (fun b=>⟨[.cl .sh .bool b],[]⟩)):=Xkk.ok
set_option maxRecDepth 100000 in
theorem contract (H:Type) (enc:TypeId×Value→H) (W:World) (base:Nat) (args:Array Value) (ds gs:List (DataW H)) (before:List MemPlace)
  (hval:∀ (j:Nat) t v,Go.Proofs.Tryz.f5.params[j]? = some t→args[j]? = some v→Value.okWide Go.Proofs.Tryz.prog W .any base t v)
  (hW:DataW.Whole enc Go.Proofs.Tryz.prog Go.Proofs.Tryz.f5.params.toList Rows.fnExactCrashSyncSpec.vars false W args.toList ds gs before) (hk:Rows.uptoSmall H (ds++gs)=true) :
  Calls Go.Proofs.Tryz.prog 5 args W fun e W'=>∃ v,e=.returned v∧Rows.fnExactCrashSyncSpec.post enc Go.Proofs.Tryz.prog Go.Proofs.Tryz.f5 false true false false W args v W':=by
 have hk':Yca Rows.uptoBulk (ds++gs)≤1048576:=by rw[←Xbk];exact of_decide_eq_true hk
 refine Ytb (tys:=[Xp,(.int .i64),(.sl .bool)]) Xud Xpo Xnx (by kernel_rfl) ok (by kernel_rfl) hval hW hk' (fun x hf hw=>law x hf hw) ?_ (tr:=4) (by kernel_rfl) (by kernel_rfl)
 ·have hl:=hW
  obtain⟨p,q,hA,hV,rfl,_⟩:=hl;rw[show Go.Proofs.Tryz.f5.params.toList=[59,2,60] from rfl] at hA;obtain⟨v0,vs0,d0,ds0,a0,b0,_,rfl,_,_,h1⟩:=trodAll_cons hA;obtain⟨v1,vs1,d1,ds1,a1,b1,_,rfl,_,_,h2⟩:=trodAll_cons h1;obtain⟨v2,vs2,d2,ds2,a2,b2,_,rfl,_,_,h3⟩:=trodAll_cons h2;obtain⟨_,rfl,_⟩:=trodAll_nil h3;obtain⟨rfl,_⟩:=trodVars_none hV;rfl
set_option maxRecDepth 100000 in
theorem lifted (os:Os) (started:os.Started) (H:Type) (enc:TypeId×Value→H) (F:Stop.Interp) :
  ReturnsInHanded {} Go.Proofs.Tryz.checked os 5 .any ((Rows.OpenSpec.upto Rows.fnExactCrashSyncSpec).pre6 enc Go.Proofs.Tryz.prog Go.Proofs.Tryz.f5 Rows.fnExactCrashSyncUptoRow.domain false) (((Rows.OpenSpec.upto Rows.fnExactCrashSyncSpec).at F).post enc Go.Proofs.Tryz.prog Go.Proofs.Tryz.f5 false true false false):=by
 refine returnsInHanded_of_cond (C:=Go.Proofs.Tryz.checked) (s:=Rows.OpenSpec.upto Rows.fnExactCrashSyncSpec) (k:=Rows.uptoSmall) rfl Xut started (by kernel_rfl) (by kernel_rfl)
  (OpenSpec.witness (enc:=enc) (C:=Go.Proofs.Tryz.checked) (s:=Rows.OpenSpec.upto Rows.fnExactCrashSyncSpec) (k:=Rows.uptoSmall) rfl false
   ⟨#[],#[.agg #[.slice none 0 0,.slice none 0 0,.slice none 0 0,.slice none 0 0,.slice none 0 0,.slice none 0 0],.int .i64 0,.slice none 0 0],[]⟩ 8 (by kernel_rfl) (by kernel_rfl) (by kernel_rfl)
   (x:=([.agg [.agg [.nil,.nil],.agg [.nil,.nil],.agg [.nil,.nil]],.lit (.int .i64 0),.nil],[],[])) (by kernel_rfl) rfl (by kernel_rfl)) ?_
 intro W base args ds gs before hval hW _ hk _;exact contract H enc W base args ds gs before hval hW hk
theorem Xuv:(Rows.fnExactCrashSyncUptoRow.inPlace == Tryz.pinned.checked.prog.inPlace 5)=true:=by kernel_rfl
theorem Xuy:(Rows.fnExactCrashSyncUptoRow.unfollowed == Tryz.pinned.checked.prog.unfollowed 5)=true:=by kernel_rfl
theorem Xuw:(Rows.fnExactCrashSyncUptoRow.recurses == Tryz.pinned.checked.prog.recurses 5)=true:=by kernel_rfl
theorem Xur:(Rows.fnExactCrashSyncUptoRow.named == Tryz.pinned.checked.prog.varsNamed 5)=true:=by kernel_rfl
theorem Xux:joinedFacts Tryz.pinned.checked.prog 5 Go.Proofs.Tryz.f5 (Rows.OpenSpec.upto Rows.fnExactCrashSyncSpec).bare Rows.fnExactCrashSyncUptoRow=true:=by
 unfold joinedFacts;rw[Xuv,Xuy,Xuw,Xur]
 kernel_rfl
theorem over:Rows.fnExactCrashSyncUptoRow.holds Tryz.pinned (Rows.OpenSpec.upto Rows.fnExactCrashSyncSpec):=
 OpenClaim.holds_of_cond 5 Go.Proofs.Tryz.f5 rfl rfl rfl rfl rfl rfl rfl ⟨rfl,rfl,rfl,rfl,rfl⟩ rfl rfl rfl rfl rfl (by kernel_rfl) (by kernel_rfl) Xux
  (of_decide_eq_true (by kernel_rfl)) (by unfold Func.isWrapper;first | (rw[if_pos (by decide +kernel)];kernel_rfl) | (rw[if_neg (by decide +kernel)];exact⟨rfl,rfl⟩))
  (fun os started H enc _ F=>lifted os started H enc F)
end CrashSync
end Mf
namespace Go.Proofs.YthaonimonnheeaaGreat
theorem CrashSync_upto:Rows.FnExactCrashSyncUptoSaid:=Mf.CrashSync.over
end Go.Proofs.YthaonimonnheeaaGreat
