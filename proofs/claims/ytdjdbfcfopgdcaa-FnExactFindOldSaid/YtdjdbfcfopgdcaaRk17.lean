-- printed by wip/pp/pp.py
import Derived.Test.YtdjdbfcfopgdcaaRk0
import Derived.Test.YtdjdbfcfopgdcaaRk6
import Derived.Test.YtdjdbfcfopgdcaaRk13
import Derived.Test.YtdjdbfcfopgdcaaRk16
import Derived.RangeFuncNested
import Derived.RangeFuncBound
import Derived.RangeFuncCalls
import Derived.RangeFuncLeaves
import Derived.Shelf.Abstract
import Derived.WalkKit
import Derived.OwnWalkIn
import Derived.TacticsInMore
import Derived.LoopNIn
import Derived.LoopIn
import Derived.IntWalk
namespace Go.Proofs.Ytdjdbfcfopgdcaa.Rk
open Go.RowKit Go.Proofs.YtdjdbfcfopgdcaaW.PrintWords Go.Proofs.YtdjdbfcfopgdcaaW.PrintLast Go.Proofs.YtdjdbfcfopgdcaaW.PrintMore
attribute [local go_sem] max2_int min2_int max_two min_two max_three min_three max_four min_four   -- for this text's walks alone
set_option linter.unusedVariables false
set_option linter.unusedSimpArgs false

/-! ### impl_FindOld: function 41 -/
-- IMPORT Derived.RangeFuncNested
-- IMPORT Derived.RangeFuncBound
-- IMPORT Derived.RangeFuncCalls
-- IMPORT Derived.RangeFuncLeaves
-- IMPORT Derived.Shelf.Abstract
-- IMPORT Derived.WalkKit
-- IMPORT Derived.OwnWalkIn
-- IMPORT Derived.TacticsInMore
-- IMPORT Derived.LoopNIn
-- IMPORT Derived.LoopIn
-- IMPORT Derived.IntWalk
-- ALONE
attribute [local go_sem] Oper.semAt_some
/-- The block of the smallest greatest number, among the first n. -/
def oldN (s : Spans) : Nat → Nat
  | 0 => 0
  | n + 1 => if (s n).2 < (s (oldN s n)).2 then n else oldN s n
theorem oldN_lt (s : Spans) : ∀ n, n ≤ 4 → oldN s n < 4
  | 0, _ => by simp [oldN]
  | n + 1, h => by
    have := oldN_lt s n (by omega)
    rw [oldN]
    split <;> omega
def impl_FindOld.f (l0 : List (S89)) : Option (Int) := some (if flashOkB l0 = true then ((oldN (spansF l0) 4 : Nat) : Int) else -1)
theorem flash_four {l : List S89} (h : flashOkB l = true) : l.length = 4 := by
  unfold flashOkB at h
  rw [Bool.and_eq_true, decide_eq_true_eq] at h
  omega
set_option maxRecDepth 100000 in
set_option maxHeartbeats 4000000 in
theorem impl_FindOld.calls (A0 : Option Addr) (c0 : Nat) (l0 : List (S89)) (r : Int) (w : World) (hr0 : Kd.C k89 w A0 l0.length l0) (hc0 : l0.length ≤ c0) (h : impl_FindOld.f l0 = some r) :
    Calls Try.prog 41 #[.slice A0 l0.length c0] w fun e w' => e = .returned (.int .i64 r) ∧ Below w.heap.size w w' := by
  obtain rfl := Option.some.inj h
  clear h
  refine (callsIn_wide (n := 3)).1 ?_
  have hok := callsIn_wide (n := 2).2 (impl_FlashOk.calls A0 c0 l0 _ w hr0 hc0 rfl)
  have hu := Try.underlying106
  cases hf : flashOkB l0 with
  | false =>
    rw [hf] at hok
    refine callsIn_of_wp Try.func41 rfl trivial ?_ rfl
    simp only [Try.ntmps41, List.size_toArray, List.length_cons, List.length_nil, Nat.reduceAdd, Nat.reduceSub, Array.replicate_succ, Array.replicate_zero, List.push_toArray, List.append_toArray, List.nil_append, List.cons_append]
    gi_wp2_with (first | (refine ⟨trivial, ?_⟩; gi_at_call 29; refine hok.mono ?_; rintro e w1 ⟨rfl, hb⟩))
    go_ret
    exact ⟨rfl, hb⟩
  | true =>
    rw [hf] at hok
    have hl := flash_four hf
    rw [if_pos rfl]
    have hsp : ∀ W, Below w.heap.size w W → CallsIn Fence.wide 2 Try.prog 96 #[.slice A0 4 c0] W fun e w' => ∃ g, e = .returned (.slice (some ⟨g, 0, none⟩) 4 4) ∧ SpansBox w' g (spansF l0) ∧ W.heap.size ≤ g ∧ Below W.heap.size W w' := fun W hb => callsIn_wide.2 (spansOf_any A0 c0 l0 W (Kd.C_below hr0 hb) hl)
    generalize spansF l0 = s at hsp ⊢
    rw [hl] at hok ⊢
    refine callsIn_of_wp Try.func41 rfl trivial ?_ rfl
    simp only [Try.ntmps41, List.size_toArray, List.length_cons, List.length_nil, Nat.reduceAdd, Nat.reduceSub, Array.replicate_succ, Array.replicate_zero, List.push_toArray, List.append_toArray, List.nil_append, List.cons_append]
    gi_wp2_with (first | (refine ⟨trivial, ?_⟩; gi_at_call 29; refine hok.mono ?_; rintro e w1 ⟨rfl, hb⟩) | (refine ⟨trivial, ?_⟩; gi_at_call 96; refine (hsp _ hb).mono ?_; rintro e w2 ⟨g, rfl, hsb, hg, hb2⟩))
    have hB0 := below_then hb hb.size hb2
    gi_loopw [14, 3] (fun v14 v3 wr => ∃ i : Nat, v14 = .int .i64 (i : Int) ∧ v3 = .int .i64 ((oldN s i : Nat) : Int) ∧ i ≤ 4 ∧ SpansBox wr g s ∧ Below w.heap.size w wr) (fun v14 _ _ => 4 - (intOf v14).toNat)
    case atStart => exact ⟨0, rfl, rfl, by omega, hsb, hB0⟩
    case round =>
      obtain ⟨i, rfl, rfl, hi, hbx, hB⟩ := hrel
      have ho := oldN_lt s i hi
      by_cases ci : i < 4
      rotate_left
      · obtain rfl : i = 4 := by omega
        gi_wp2
        go_ret
        exact ⟨rfl, hB⟩
      have cib : decide ((i : Int) < 4) = true := decide_eq_true (by omega)
      have p1 : 0 ≤ (i : Int) := by omega
      have q1 : (i : Int) < 4 := by omega
      have p2 : 0 ≤ ((oldN s i : Nat) : Int) := by omega
      have q2 : ((oldN s i : Nat) : Int) < 4 := by omega
      obtain ⟨h1, h2⟩ := hbx.at_ i ci
      obtain ⟨h3, h4⟩ := hbx.at_ (oldN s i) ho
      have hglt := blk_lt hbx
      have hst : oldN s (i + 1) = if (s i).2 < (s (oldN s i)).2 then i else oldN s i := rfl
      have hw1 : wrap64 ((i : Int) + 1) = ((i + 1 : Nat) : Int) := by rw [IntWalk.wrap64_in _ (by omega)]; omega
      by_cases hlt : (s i).2 < (s (oldN s i)).2
      · have hlb : decide ((s i).2 < (s (oldN s i)).2) = true := decide_eq_true hlt
        rw [if_pos hlt] at hst
        gi_wp2
        gi_region
        all_goals gi_wp2
        refine ⟨⟨i + 1, by simp, by rw [hst], by omega, blk_drew (blk_alloc hbx _), below_drew (below_alloc hB _)⟩, by simp [intOf]; omega⟩
      have hlb : decide ((s i).2 < (s (oldN s i)).2) = false := decide_eq_false hlt
      rw [if_neg hlt] at hst
      gi_wp2
      gi_region
      all_goals gi_wp2
      refine ⟨⟨i + 1, by simp, by rw [hst], by omega, blk_drew (blk_alloc hbx _), below_drew (below_alloc hB _)⟩, by simp [intOf]; omega⟩

end Go.Proofs.Ytdjdbfcfopgdcaa.Rk
