import Derived.Test.YtlbggfhokijobaaGreatLoadImageB
import Derived.Test.YtlbggfhokijobaaGreatRows
import Derived.WalkKit
import Derived.ProofKit
import Derived.OpenShut
import Derived.JoinedCond
namespace Mf
open Go Go.ChangeShapes Go.WideShapes Go.ChangeAt Go.RowKit
open Go.Proofs.YtlbggfhokijobaaGreat
set_option linter.unusedVariables false
set_option linter.unusedSimpArgs false
theorem uptoAll_bulks {H:Type}:∀ l:List (DataW H),Rows.uptoBulkAll l=bulks Rows.uptoBulk l
 |[]=>by simp[Rows.uptoBulkAll,bulks]
 |d::l=>by simp[Rows.uptoBulkAll,bulks,uptoAll_bulks l]
theorem uptoBulkOk {H:Type}:Bulk (Rows.uptoBulk (H:=H)) where
 one:=fun d=>by
  cases d with
  |lit l=>cases l<;>simp[Rows.uptoBulk]
  |_=>simp[Rows.uptoBulk]
 str:=fun b=>by simp[Rows.uptoBulk]
 sl:=fun a b=>by simp only[Rows.uptoBulk,uptoAll_bulks];omega
 agg:=fun a=>by simp only[Rows.uptoBulk,uptoAll_bulks];omega
def tbr:Tb:=tb.filter fun x=>[2,4,22,23,25,48,74].any (Nat.beq x.1)
theorem tbrok:TbOk Go.Proofs.Tryz.prog tbr:=tbB_ok (by kernel_rfl)
theorem closedTb:closedB Go.Proofs.Tryz.prog tbr tbr=true:=by kernel_rfl
theorem ownK:ownKnob Go.Proofs.Tryz.prog.godebug=none:=by kernel_rfl
namespace LoadImage
theorem ok:FsOk Go.Proofs.Tryz.prog 3 (mkFS [.sh] (shs [tDisk_]) (fun x=>Zq215 x.1) (fun b=>⟨[.cl .sh .bool b],[]⟩)):=Zq215.ok
set_option maxRecDepth 100000 in
theorem contract (H:Type) (enc:TypeId×Value→H) (W:World) (base:Nat) (args:Array Value) (ds gs:List (DataW H)) (before:List MemPlace)
  (hval:∀ (j:Nat) t v,Go.Proofs.Tryz.f3.params[j]? = some t→args[j]? = some v→Value.okWide Go.Proofs.Tryz.prog W .any base t v)
  (hW:DataW.Whole enc Go.Proofs.Tryz.prog Go.Proofs.Tryz.f3.params.toList Rows.fnExactLoadImageSpec.vars false W args.toList ds gs before) (hk:Rows.uptoSmall H (ds++gs)=true) :
  Calls Go.Proofs.Tryz.prog 3 args W fun e W'=>∃ v,e=.returned v∧Rows.fnExactLoadImageSpec.post enc Go.Proofs.Tryz.prog Go.Proofs.Tryz.f3 false true false false W args v W':=by
 have hk':bulks Rows.uptoBulk (ds++gs)≤1048576:=by rw[←uptoAll_bulks];exact of_decide_eq_true hk
 refine law_contract (tys:=[tDisk_]) tbrok closedTb uptoBulkOk (by kernel_rfl) ok (by kernel_rfl) hval hW hk' (fun x hf hw=>law x hf hw) ?_ (tr:=4) (by kernel_rfl) (by kernel_rfl)
 ·have hl:=hW
  obtain⟨p,q,hA,hV,rfl,_⟩:=hl
  rw[show Go.Proofs.Tryz.f3.params.toList=[25] from rfl] at hA
  obtain⟨v0,vs0,d0,ds0,a0,b0,_,rfl,_,_,h1⟩:=trodAll_cons hA
  obtain⟨_,rfl,_⟩:=trodAll_nil h1
  obtain⟨rfl,_⟩:=trodVars_none hV
  rfl
set_option maxRecDepth 100000 in
theorem lifted (os:Os) (started:os.Started) (H:Type) (enc:TypeId×Value→H) (F:Stop.Interp) :
  ReturnsInHanded {} Go.Proofs.Tryz.checked os 3 .any ((Rows.OpenSpec.upto Rows.fnExactLoadImageSpec).pre6 enc Go.Proofs.Tryz.prog Go.Proofs.Tryz.f3 Rows.fnExactLoadImageUptoRow.domain false) (((Rows.OpenSpec.upto Rows.fnExactLoadImageSpec).at F).post enc Go.Proofs.Tryz.prog Go.Proofs.Tryz.f3 false true false false):=by
 refine returnsInHanded_of_cond (C:=Go.Proofs.Tryz.checked) (s:=Rows.OpenSpec.upto Rows.fnExactLoadImageSpec) (k:=Rows.uptoSmall) rfl ownK started (by kernel_rfl) (by kernel_rfl)
  (OpenSpec.witness (enc:=enc) (C:=Go.Proofs.Tryz.checked) (s:=Rows.OpenSpec.upto Rows.fnExactLoadImageSpec) (k:=Rows.uptoSmall) rfl false
   ⟨#[],#[.agg #[.slice none 0 0,.slice none 0 0]],[]⟩ 8 (by kernel_rfl) (by kernel_rfl) (by kernel_rfl)
   (x:=([.agg [.nil,.nil]],[],[])) (by kernel_rfl) rfl (by kernel_rfl)) ?_
 intro W base args ds gs before hval hW _ hk _
 exact contract H enc W base args ds gs before hval hW hk
theorem jinp:(Rows.fnExactLoadImageUptoRow.inPlace == Tryz.pinned.checked.prog.inPlace 3)=true:=by kernel_rfl
theorem junf:(Rows.fnExactLoadImageUptoRow.unfollowed == Tryz.pinned.checked.prog.unfollowed 3)=true:=by kernel_rfl
theorem jrec:(Rows.fnExactLoadImageUptoRow.recurses == Tryz.pinned.checked.prog.recurses 3)=true:=by kernel_rfl
theorem jnam:(Rows.fnExactLoadImageUptoRow.named == Tryz.pinned.checked.prog.varsNamed 3)=true:=by kernel_rfl
theorem jall:joinedFacts Tryz.pinned.checked.prog 3 Go.Proofs.Tryz.f3 (Rows.OpenSpec.upto Rows.fnExactLoadImageSpec).bare Rows.fnExactLoadImageUptoRow=true:=by
 unfold joinedFacts
 rw[jinp,junf,jrec,jnam]
 kernel_rfl
theorem over:Rows.fnExactLoadImageUptoRow.holds Tryz.pinned (Rows.OpenSpec.upto Rows.fnExactLoadImageSpec):=
 OpenClaim.holds_of_cond 3 Go.Proofs.Tryz.f3 rfl rfl rfl rfl rfl rfl rfl ⟨rfl,rfl,rfl,rfl,rfl⟩ rfl rfl rfl rfl rfl (by kernel_rfl) (by kernel_rfl) jall
  (of_decide_eq_true (by kernel_rfl)) (by unfold Func.isWrapper;first | (rw[if_pos (by decide +kernel)];kernel_rfl) | (rw[if_neg (by decide +kernel)];exact⟨rfl,rfl⟩))
  (fun os started H enc _ F=>lifted os started H enc F)
end LoadImage
end Mf
namespace Go.Proofs.YtlbggfhokijobaaGreat
theorem LoadImage_upto:Rows.FnExactLoadImageUptoSaid:=Mf.LoadImage.over
end Go.Proofs.YtlbggfhokijobaaGreat
