/- The mirror, part 7: an evaluator of the program form over data, and the proof that it tells what the machine does. -/
import Derived.Test.YtkckfagcnnhimaaMf6
import Derived.ChangeSame
import Derived.ChangeShapes
import Derived.DataReads
import Derived.Deep.AppendSrc
import Derived.Deep.Draws
import Derived.Deep.MidRow
import Derived.Deep.Upon
import Derived.KernelRfl
import Derived.Laws.AppendOwn
import Derived.Laws.BytesString
import Derived.Laws.Entries
import Derived.Laws.IdiomCopy
import Derived.Laws.IdiomStrings
import Derived.Laws.Strings
import Derived.Laws.StructEq
import Derived.Laws.Tables
import Derived.Lay
import Derived.Lib.SliceRun
import Derived.Orders
import GoSem.Core.Region
import GoSem.Core.View

set_option linter.unusedVariables false
set_option linter.unusedSimpArgs false

/- A slice held against nil: either way goes on. -/
namespace Mf
open Go
set_option linter.unusedVariables false
set_option linter.unusedSimpArgs false

variable {Z : W0} {S : St} {C : Cx} {w w' : World} {a : Act}
variable {P : Program} {tb : Tb} {np nt : Nat} {G : Gam}

theorem wanted_none {ops : Array Oper} {o : Oper} (g : o.guard = none) : Region.wanted o (yielded ops a.tmps) = true := by
  unfold Region.wanted; rw [g]

theorem done_at {o : Oper} {u : Value} {K : Act → World → Prop} {Q : Exit → Act → World → Prop} (h : (execOp a.eval o).run P w = .ok (.value u) w) (hK : K (a.put o.dst u) w) : o.wp P a w K Q := by
  unfold Oper.wp; rw [h]; exact hK

theorem wp_nilcmp {id : Nat} {o1 o2 : Oper} {t t' et : TypeId} {e : Ty} {xs : List e.El} {d0 d1 d2 : Nat}
    (h1 : o1.op = .move (.tmp d0)) (e1 : o1.dst = some d1) (g1 : o1.guard = none)
    (h2 : o2.op = .binOp .eql t (.tmp d1) (.const (.slice none 0 0)) t') (e2 : o2.dst = some d2) (g2 : o2.guard = none)
    (hu : P.underlying t = some (.slice et)) (I : Inv Z S C a w) (hS : NoGd S) (hd1 : d1 < Z.nt) (hd2 : d2 < Z.nt) (hx : lk d0 S.tm = some (.cl .sh (.sl e) xs)) {Q : Exit → Act → World → Prop}
    (hQ : ∀ a' (b : Bool), (b = true → xs = []) → Inv Z ((S.ap ⟨[(d1, .cl .sh (.sl e) xs)], [], []⟩).ap ⟨[(d2, .cl .sh .bool b)], [], []⟩) C a' w → Q .normal a' w) :
    (Code.region id #[o1, o2] false).wp P Q a w := by
  have hv : ValOk w (Mt Z C S.root noB) C.L S.root (.cl .sh (.sl e) xs) (a.tmps.getD d0 undef) := I.tm d0 _ hx
  obtain ⟨A, c, hval⟩ := hv.sl
  have hA : A = none → xs = [] := by
    intro hn
    obtain ⟨A', c', hc, hle, hne⟩ := (hv.1 : Rep _ _ (.sl e) .sh xs _ _)
    rw [hval] at hc
    have : some (Value.slice A xs.length c) = some (.slice A' xs.length c') := hc
    cases this
    by_cases hxs : xs = []
    · exact hxs
    · obtain ⟨b, off, h, _⟩ := hne hxs; rw [hn] at h; cases h
  refine wp_region ?_
  show wpOps P #[o1, o2] Q [0, 1] a w
  rw [wpOps_cons]
  refine wpOp_do (o := o1) rfl (wanted_none g1) (done_at (u := a.tmps.getD d0 undef) (by simp [execOp, h1, Act.eval]) ?_)
  have I1 : Inv Z (S.ap ⟨[(d1, .cl .sh (.sl e) xs)], [], []⟩) C (a.put o1.dst (a.tmps.getD d0 undef)) w := by
    rw [e1]
    exact I.slot (fun i t b x h => absurd h (hS i t b x)) hd1 (VOk.tm (v := .cl .sh (.sl e) xs) hv _)
  have hval1 : (a.put o1.dst (a.tmps.getD d0 undef)).eval (.tmp d1) = .slice A xs.length c := by
    have := I1.tm d1 (.cl .sh (.sl e) xs) (by simp [St.ap, killTm, lk])
    rw [e1, Act.put]
    simp only [Act.eval]
    rw [← hval]
    have hts := I.ts
    simp [Array.getD, hts, hd1]
  generalize hS1 : (S.ap ⟨[(d1, .cl .sh (.sl e) xs)], [], []⟩) = S1 at I1 hQ
  generalize ha1 : a.put o1.dst (a.tmps.getD d0 undef) = a1 at I1 hval1
  rw [wpOps_cons]
  have hS1n : NoGd S1 := by
    rw [← hS1]
    intro s t b v hv
    rw [tm_ap] at hv
    simp only at hv
    by_cases es : s = d1
    · subst es; rw [lk_cons_eq] at hv; cases hv
    · rw [lk_cons_ne es] at hv
      simp only [lk] at hv
      cases hl : lk s S.tm with
      | none => rw [hl] at hv; cases hv
      | some v0 =>
        rw [hl] at hv
        simp only [Option.map_some, Option.some.injEq] at hv
        obtain ⟨u', rfl⟩ := killTm_gd hv
        exact hS s t b u' hl
  refine wpOp_do (o := o2) rfl (wanted_none g2) (done_at (u := .bool A.isNone) ?_ ?_)
  · have hq := Lib.run_eql_slice_nil (P := P) w t et A xs.length c 0 0 hu
    have hg : (eqGuard .eql t (.tmp d1) (.const (.slice none 0 0)) (.slice A xs.length c) (.slice none 0 0)).run P w = .ok () w := by unfold eqGuard; rfl
    have hc : a1.eval (.const (.slice none 0 0)) = .slice none 0 0 := rfl
    simp only [execOp, h2, hval1, hc, Sem.run_bind, hg, Result.andThen_ok, hq]
    rfl
  · show Q .normal _ w
    refine hQ _ A.isNone (fun h => hA (by simpa using h)) ?_
    rw [e2]
    exact I1.slot (fun i t b x h => absurd h (hS1n i t b x)) hd2 (VOk.tm (v := .cl .sh .bool A.isNone) (ValOk.mkbool _ _) _)

end Mf

/- slices.Clone. -/
namespace Mf
open Go
set_option linter.unusedVariables false
set_option linter.unusedSimpArgs false

variable {Z : W0} {S : St} {C : Cx} {w w' : World} {a : Act}
variable {P : Program} {tb : Tb} {G : Gam} {L : Lam} {hn : Hint}

def cloneSp (e : Ty) : SP := ⟨[(0, .cl .sh (.sl e))], []⟩
def cloneRet (o : Ow) (e : Ty) (xs : List e.El) : St := ⟨[(2, .seg 2 [])], [(2, some ⟨.reg, .cl o (.sl e) xs⟩)]⟩
def cloneS1 (o : Ow) (e : Ty) (xs : List e.El) : St := ⟨[(2, .seg 2 []), (0, .cl .sh (.sl e) xs)], [(2, some ⟨.reg, .cl o (.sl e) []⟩)]⟩
def cloneS2 (o : Ow) (e : Ty) (xs : List e.El) (b : Bool) : St := (((cloneS1 o e xs).ap ⟨[(3, .cl .sh (.sl e) xs)], [], []⟩).ap ⟨[(4, .cl .sh .bool b)], [], []⟩).is 4 b

def cloneF (o : Ow) (e : Ty) (x : (cloneSp e).El) (R : Type) (k : Ex → St → Option R) : Option R := cond (decide (x.1.1.length ≤ 2147483648)) (k .rt (cloneRet o e x.1.1)) none

theorem clone_code (ht : TbOk P tb) (hG : GOk P G) (hm : P.follows .mixedOrders = true) {o : Ow} {e : Ty} {R0 R2 R3 : Code} {i1 : Nat} {o1 o2 : Oper} {t t' et : TypeId}
    (h1 : o1.op = .move (.tmp 0)) (e1 : o1.dst = some 3) (g1 : o1.guard = none)
    (h2 : o2.op = .binOp .eql t (.tmp 3) (.const (.slice none 0 0)) t') (e2 : o2.dst = some 4) (g2 : o2.guard = none) (hu : P.underlying t = some (.slice et))
    (E0 : ∀ xs : List e.El, ev tb hn 8 1 G (mkL []) R0 .no ⟨[(0, .cl .sh (.sl e) xs)], []⟩ (fun e S => some (e, S)) = some (.nm, cloneS1 o e xs))
    (E2 : ∀ xs : List e.El, ev tb hn 8 1 G (mkL []) R2 .no (cloneS2 o e xs true) (fun e S => some (e, S.keep [2] [2])) = some (.rt, cloneRet o e []))
    (E3 : ∀ xs : List e.El, ev tb hn 8 1 G (mkL []) R3 .no (cloneS2 o e xs false) (fun e S => some (e, S.keep [2] [2])) = cond (decide (xs.length ≤ 2147483648)) (some (.rt, cloneRet o e xs)) none) :
    CodeOk P 8 1 (R0.seq (((Code.region i1 #[o1, o2] false).seq (.cond (.tmp 4) R2 .skip)).seq R3)) (mkFrag (cloneSp e) (cloneF o e)) := by
  intro S R k r hS he
  unfold mkFrag at he
  split at he
  · rename_i x hx
    simp only [cloneF] at he
    cases hl : decide (x.1.1.length ≤ 2147483648) with
    | false => rw [hl] at he; cases he
    | true =>
      rw [hl] at he
      have hkeep := SP.rd_keep (sp := cloneSp e) rfl hx
      have hret : NoGd (cloneRet o e x.1.1) := by
        intro s t b v hv
        simp only [cloneRet, lk] at hv
        split at hv <;> cases hv
      refine ⟨.rt, _, he, hret, fun Z C a w Q hnt hnp I hQ => ?_⟩
      have I0 := I.keep (cloneSp e).tk (cloneSp e).rk
      rw [← hkeep] at I0
      have hN0 : NoGd ((cloneSp e).mk' x) := by rw [hkeep]; exact hS.keep _ _
      obtain ⟨ex, S', q1, q2, q3⟩ := ev_sound (np := 1) (nt := 8) (hn := hn) (L := mkL []) ht hG hm R0 .no trivial ((cloneSp e).mk' x) _ _ _ hN0 (E0 x.1.1)
      cases q1
      refine wp_seq (q3 Z C a w _ hnt hnp I0 (fun C a w I1 => ?_))
      refine wp_seq (wp_seq (wp_nilcmp h1 e1 g1 h2 e2 g2 hu I1 q2 (by omega) (by omega) (xs := x.1.1) rfl (fun a' b hb I2 => ?_)))
      have hb4 : a'.tmps.getD 4 undef = .bool b := (I2.tm 4 (.cl .sh .bool b) rfl : ValOk _ _ _ _ _ _).bool
      have I3 := I2.is hb4
      have hN3 : NoGd (cloneS2 o e x.1.1 b) := by
        have : (cloneS2 o e x.1.1 b).tm = [(4, .kb b), (4, .cl .sh .bool b), (3, .cl .sh (.sl e) x.1.1), (2, .seg 2 []), (0, .cl .sh (.sl e) x.1.1)] := rfl
        intro s t b' v hv
        rw [this] at hv
        simp only [lk_consU] at hv
        repeat' (split at hv)
        all_goals cases hv
      cases b with
      | true =>
        have hx0 := hb rfl
        obtain ⟨ex, S', q1, q2, q3⟩ := ev_sound (np := 1) (nt := 8) (hn := hn) (L := mkL []) ht hG hm R2 .no trivial (cloneS2 o e x.1.1 true) _ _ _ hN3 (E2 x.1.1)
        simp only [Option.some.injEq, Prod.mk.injEq] at q1
        obtain ⟨rfl, hk⟩ := q1
        refine wp_cond_true hb4 (q3 Z C a' w _ hnt hnp I3 (fun C a w I4 => ?_))
        have I5 := I4.keep [2] [2]
        rw [hk] at I5
        refine hQ C a w ?_
        rw [hx0]; exact I5
      | false =>
        have hE := E3 x.1.1
        rw [hl] at hE
        obtain ⟨ex, S', q1, q2, q3⟩ := ev_sound (np := 1) (nt := 8) (hn := hn) (L := mkL []) ht hG hm R3 .no trivial (cloneS2 o e x.1.1 false) _ _ _ hN3 hE
        simp only [Option.some.injEq, Prod.mk.injEq] at q1
        obtain ⟨rfl, hk⟩ := q1
        refine wp_cond_false hb4 (wp_skip ?_)
        refine q3 Z C a' w _ hnt hnp I3 (fun C a w I4 => ?_)
        have I5 := I4.keep [2] [2]
        rw [hk] at I5
        exact hQ C a w I5
  · cases he

def opAt (c : Code) (i : Nat) : Oper := match c with
  | .region _ ops _ => ops.toList.getD i { dst := none, op := .move (.tmp 0), type := 0, pos := "", after := #[], guard := none }
  | _ => { dst := none, op := .move (.tmp 0), type := 0, pos := "", after := #[], guard := none }
def idAt (c : Code) : Nat := match c with
  | .region i _ _ => i
  | _ => 0

theorem clone_fs (ht : TbOk P tb) (hm : P.follows .mixedOrders = true) {f : FuncId} {fn : Func} (hf : P.funcs[f]? = some fn) (hb : fn.body = some (bodyOf fn)) (hname : (fn.name == "runtime.NumGoroutine") = false) (hnt : fn.ntmps = 8) (o : Ow) (e : Ty) (t t' et : TypeId)
    (hbody : bodyOf fn = (codeAt (bodyOf fn) [0]).seq (((Code.region (idAt (codeAt (bodyOf fn) [1, 0, 0])) #[opAt (codeAt (bodyOf fn) [1, 0, 0]) 0, opAt (codeAt (bodyOf fn) [1, 0, 0]) 1] false).seq (.cond (.tmp 4) (codeAt (bodyOf fn) [1, 0, 1, 0]) .skip)).seq (codeAt (bodyOf fn) [1, 1])))
    (h1 : (opAt (codeAt (bodyOf fn) [1, 0, 0]) 0).op = .move (.tmp 0)) (e1 : (opAt (codeAt (bodyOf fn) [1, 0, 0]) 0).dst = some 3) (g1 : (opAt (codeAt (bodyOf fn) [1, 0, 0]) 0).guard = none)
    (h2 : (opAt (codeAt (bodyOf fn) [1, 0, 0]) 1).op = .binOp .eql t (.tmp 3) (.const (.slice none 0 0)) t') (e2 : (opAt (codeAt (bodyOf fn) [1, 0, 0]) 1).dst = some 4) (g2 : (opAt (codeAt (bodyOf fn) [1, 0, 0]) 1).guard = none) (hu : P.underlying t = some (.slice et))
    (E0 : ∀ xs : List e.El, ev tb hn 8 1 (mkG []) (mkL []) (codeAt (bodyOf fn) [0]) .no ⟨[(0, .cl .sh (.sl e) xs)], []⟩ (fun e S => some (e, S)) = some (.nm, cloneS1 o e xs))
    (E2 : ∀ xs : List e.El, ev tb hn 8 1 (mkG []) (mkL []) (codeAt (bodyOf fn) [1, 0, 1, 0]) .no (cloneS2 o e xs true) (fun e S => some (e, S.keep [2] [2])) = some (.rt, cloneRet o e []))
    (E3 : ∀ xs : List e.El, ev tb hn 8 1 (mkG []) (mkL []) (codeAt (bodyOf fn) [1, 1]) .no (cloneS2 o e xs false) (fun e S => some (e, S.keep [2] [2])) = cond (decide (xs.length ≤ 2147483648)) (some (.rt, cloneRet o e xs)) none)
    (hfin : ∀ x : PT.Els [.cl .sh (.sl e)], mkFrag (cloneSp e) (cloneF o e) (initSt (PT.mks [.cl .sh (.sl e)] x)) Out (kfin tb hn fn [.sh]) = cond (decide (x.1.length ≤ 2147483648)) (some ⟨[.cl o (.sl e) x.1], []⟩) none) :
    FsOk P f (mkFS [.sh] [.cl .sh (.sl e)] (fun x => cloneP x.1) fun y => ⟨[.cl o (.sl e) y], []⟩) := by
  refine fs_ok (fn := fn) (hn := hn) (E := mkFrag (cloneSp e) (cloneF o e)) ht hf hb hname ?_ rfl (by rw [hnt]; rfl) fun x => ?_
  · rw [hnt, hbody]; exact clone_code ht GOk.nil hm h1 e1 g1 h2 e2 g2 hu E0 E2 E3
  · rw [hfin, cloneP, cond_map]
    rfl

end Mf
