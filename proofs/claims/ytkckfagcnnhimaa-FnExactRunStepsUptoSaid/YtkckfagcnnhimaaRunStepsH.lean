/- Functions that are walked by hand. -/
import Derived.RangeFuncNested
import Derived.RangeFuncBound
import Derived.RangeFuncCalls
import Derived.RangeFuncLeaves
import Derived.RangeFuncBox
import Derived.Shelf.Abstract
import Derived.Shelf.RegionOpen
import Derived.WalkKit
import Derived.OwnWalkIn
import Derived.TacticsInMore
import Derived.LoopNIn
import Derived.LoopIn
import Derived.IntWalk
import Derived.Test.YtkckfagcnnhimaaMf7
import Derived.Test.YtkckfagcnnhimaaProg
namespace Go.Proofs
open Go.RowKit Go.Shelf
attribute [local go_sem] Oper.semAt_some
set_option linter.unusedVariables false
set_option linter.unusedSimpArgs false

set_option maxRecDepth 100000 in
set_option maxHeartbeats 4000000 in
theorem Cp.clonePuts_in (F : Fence) (n : Nat) (h1 : F.fn 110) (h2 : F.fn 144) (h3 : F.fn 145) (hn : 1 ≤ n) (hro : F.round = none)
    (hA : ∀ (m : Nat) (w : World) (A : Option Addr) (c : Nat) (xs : Mf.PutsL), Mf.Rep w Mf.noB (.sl Mf.tPutB) .sh xs (.reg [.slice A xs.length c] 0) Mf.noB → xs.length ≤ 2147483648 → CallsIn F m Try.prog 144 #[.slice A xs.length c] w (Mf.GivesRow Mf.tPutB .top xs w))
    (hB : ∀ (m : Nat) (w : World) (A : Option Addr) (c : Nat) (xs : List Int), Mf.Rep w Mf.noB (.sl (.int .i64)) .sh xs (.reg [.slice A xs.length c] 0) Mf.noB → xs.length ≤ 2147483648 → CallsIn F m Try.prog 145 #[.slice A xs.length c] w (Mf.GivesRow (.int .i64) .deep xs w))
    (w : World) (A : Option Addr) (c : Nat) (l : Mf.PutsL) (hr : Mf.Rep w Mf.noB (.sl Mf.tPutB) .sh l (.reg [.slice A l.length c] 0) Mf.noB) (hl : l.length ≤ 2147483648) (hls : ∀ x ∈ l, x.2.1.length ≤ 2147483648) :
    CallsIn F n Try.prog 110 #[.slice A l.length c] w (Mf.GivesRow Mf.tPutB .deep l w) := by
  refine callsIn_of_wp Try.func110 rfl h1 ?_ hro
  simp only [Try.ntmps110, List.size_toArray, List.length_cons, List.length_nil, Nat.reduceAdd, Nat.reduceSub, Array.replicate_succ, Array.replicate_zero, List.push_toArray, List.append_toArray, List.nil_append, List.cons_append]
  gi_wp2_with (gi_at_call 144; refine (hA _ _ _ _ _ hr hl).mono ?_; rintro e w1 ⟨A1, c1, rfl, hb1, G, hG, hGf⟩)
  by_cases hc : c1 = 0
  · subst hc
    obtain ⟨hl0, hg⟩ := Mf.GivesRow.none hb1 hG
    rw [hl0] at hg ⊢
    gi_loopw [10] (fun i wr => i = .int .i64 0 ∧ wr = w1) (fun _ _ => 0)
    case atStart => exact ⟨rfl, rfl⟩
    case round =>
      obtain ⟨rfl, rfl⟩ := hrel
      gi_wp2
      go_ret
      exact hg
  · obtain ⟨b, off, rfl, hcap, I0⟩ := Mf.CpI.start hb1 hG hGf hc
    gi_loopw [10] (fun i wr => ∃ k : Nat, k ≤ l.length ∧ i = .int .i64 k ∧ Mf.CpI w wr l b off c1 k) (fun i _ => l.length - (intOf i).toNat)
    case atStart => exact ⟨0, Nat.zero_le _, rfl, I0⟩
    case round =>
      obtain ⟨k, hk, rfl, I⟩ := hrel
      by_cases hlt : k < l.length
      · have c1' := I.ats k hlt
        obtain ⟨Ak, ck, d1', hrk⟩ := I.arg hlt
        have hB1 : Below wr.heap.size wr (wr.alloc (.cells #[.int .i64 l[k].1, .slice Ak l[k].2.1.length ck] 141)) := (Below.refl _ wr).alloc (Nat.le_refl _) _
        gi_wp2_with (gi_at_call 145; refine (hB _ _ _ _ _ (hrk _ hB1) (hls _ (List.getElem_mem hlt))).mono ?_; rintro e w2 ⟨A2, c2, rfl, hb2, G2, hG2, hGf2⟩; have hp5 := I.place hlt hcap (hB1.trans (hb2.mono hB1.size)); have hc5 := hp5.1.trans d1'; have hf5 := hp5.2)
        go_roundw
        case rel => exact ⟨k + 1, by omega, by simp, I.step hlt hcap hB1 hb2 hG2 hGf2⟩
        case measure => simp [intOf]; omega
      · obtain rfl : k = l.length := by omega
        gi_wp2
        go_ret
        exact I.done hcap
end Go.Proofs

