-- printed by wip/pp/pp.py
import Derived.Test.YtdjdbfcfopgdcaaRo0
import Derived.Test.YtdjdbfcfopgdcaaRo16
import Derived.Test.YtdjdbfcfopgdcaaRo23
import Derived.Test.YtdjdbfcfopgdcaaRo26
import Derived.Test.YtdjdbfcfopgdcaaRo27
import Derived.RangeFuncNested
import Derived.RangeFuncBound
import Derived.RangeFuncCalls
import Derived.RangeFuncLeaves
import Derived.Shelf.Abstract
import Derived.WalkKit
import Derived.OwnWalkIn
import Derived.TacticsInMore
import Derived.LoopNIn
import Derived.LoopIn
import Derived.IntWalk
import Derived.Test.YtdjdbfcfopgdcaaWMap
import Derived.Maps.OwnOps
import Derived.Maps.Own
import Derived.Maps.OwnIn
import Derived.WalkArith
namespace Go.Proofs.Ytdjdbfcfopgdcaa.Ro
open Go.RowKit Go.Proofs.YtdjdbfcfopgdcaaW.PrintWords Go.Proofs.YtdjdbfcfopgdcaaW.PrintLast Go.Proofs.YtdjdbfcfopgdcaaW.PrintMore
attribute [local go_sem] max2_int min2_int max_two min_two max_three min_three max_four min_four   -- for this text's walks alone
set_option linter.unusedVariables false
set_option linter.unusedSimpArgs false

-- IMPORT Derived.RangeFuncNested
-- IMPORT Derived.RangeFuncBound
-- IMPORT Derived.RangeFuncCalls
-- IMPORT Derived.RangeFuncLeaves
-- IMPORT Derived.Shelf.Abstract
-- IMPORT Derived.WalkKit
-- IMPORT Derived.OwnWalkIn
-- IMPORT Derived.TacticsInMore
-- IMPORT Derived.LoopNIn
-- IMPORT Derived.LoopIn
-- IMPORT Derived.IntWalk
-- IMPORT Derived.Test.YtdjdbfcfopgdcaaWMap
-- IMPORT Derived.Maps.OwnOps
-- IMPORT Derived.Maps.Own
-- IMPORT Derived.Maps.OwnIn
-- IMPORT Derived.WalkArith
-- ALONE
open Go.Proofs.YtdjdbfcfopgdcaaW
attribute [local go_sem] Oper.semAt_some
def readV (l0 : List S89) (l1 : List Int) (a : Int) : Int := if storeOkB l0 l1 = true ∧ addrB a = true then (match lastMap l0 a with
  | some r => r.2.2.2
  | none => rd l1 (a - 1)) else -1
def impl_StoreRead.f (l0_0 : List (S89)) (l0_1 : List Int) (a1 : Int) : Option (Int) := some (readV l0_0 l0_1 a1)
set_option maxRecDepth 100000 in
set_option maxHeartbeats 8000000 in
theorem impl_StoreRead.calls (A0_0 : Option Addr) (c0_0 : Nat) (l0_0 : List (S89)) (A0_1 : Option Addr) (c0_1 : Nat) (l0_1 : List Int) (a1 : Int) (r : Int) (w : World) (hr0_0 : Kd.C k89 w A0_0 l0_0.length l0_0) (hc0_0 : l0_0.length ≤ c0_0) (hr0_1 : Kd.C (Kd.int .i64) w A0_1 l0_1.length l0_1) (hc0_1 : l0_1.length ≤ c0_1) (h : impl_StoreRead.f l0_0 l0_1 a1 = some r) :
    Calls Try.prog 56 #[.agg #[.slice A0_0 l0_0.length c0_0, .slice A0_1 l0_1.length c0_1], .int .i64 a1] w fun e w' => e = .returned (.int .i64 r) ∧ Below w.heap.size w w' := by
  obtain rfl := Option.some.inj h
  clear h
  refine (callsIn_wide (n := 3)).1 ?_
  have hu := Try.underlying58
  have hu2 := Try.underlying26
  have hso : ∀ W, Below w.heap.size w W → CallsIn Fence.wide 2 Try.prog 53 #[.agg #[.slice A0_0 l0_0.length c0_0, .slice A0_1 l0_1.length c0_1]] W fun e w' => e = .returned (.bool (storeOkB l0_0 l0_1)) ∧ Below W.heap.size W w' := fun W hb => callsIn_wide.2 (impl_StoreOk.calls A0_0 c0_0 l0_0 A0_1 c0_1 l0_1 _ W (Kd.C_below hr0_0 hb) hc0_0 (Kd.C_below hr0_1 hb) hc0_1 rfl)
  have hak : ∀ W, CallsIn Fence.wide 2 Try.prog 76 #[.int .i64 a1] W fun e w' => e = .returned (.bool (addrB a1)) ∧ W = w' := fun W => callsIn_wide.2 (addrOk_any a1 W)
  have hbox := blk_new w (.cells #[.slice A0_0 l0_0.length c0_0, .slice A0_1 l0_1.length c0_1] 58)
  have hB1 := below_alloc (Below.refl _ w) (.cells #[.slice A0_0 l0_0.length c0_0, .slice A0_1 l0_1.length c0_1] 58)
  unfold readV
  cases hs : storeOkB l0_0 l0_1 with
  | false =>
    rw [hs] at hso
    rw [if_neg (by simp)]
    refine callsIn_of_wp Try.func56 rfl trivial ?_ rfl
    simp only [Try.ntmps56, List.size_toArray, List.length_cons, List.length_nil, Nat.reduceAdd, Nat.reduceSub, Array.replicate_succ, Array.replicate_zero, List.push_toArray, List.append_toArray, List.nil_append, List.cons_append]
    gi_wp2_with (first | (refine ⟨trivial, ?_⟩; gi_at_call 53; refine (hso _ hB1).mono ?_; rintro e w1 ⟨rfl, hb⟩; have hbox1 := blk_below hbox hb; have hB2 := below_then hB1 hB1.size hb; have hq0 : w1.cell? ⟨w.heap.size, 0, none⟩ = some (.slice A0_0 l0_0.length c0_0) := (blk_cell hbox1 0).trans rfl) | (refine And.intro (show Fence.wide.fn 76 from trivial) ?_))
    go_ret
    exact ⟨rfl, hB2⟩
  | true =>
    rw [hs] at hso
    cases ha : addrB a1 with
    | false =>
      rw [ha] at hak
      rw [if_neg (by simp)]
      refine callsIn_of_wp Try.func56 rfl trivial ?_ rfl
      simp only [Try.ntmps56, List.size_toArray, List.length_cons, List.length_nil, Nat.reduceAdd, Nat.reduceSub, Array.replicate_succ, Array.replicate_zero, List.push_toArray, List.append_toArray, List.nil_append, List.cons_append]
      gi_wp2_with (first | (refine ⟨trivial, ?_⟩; gi_at_call 53; refine (hso _ hB1).mono ?_; rintro e w1 ⟨rfl, hb⟩; have hbox1 := blk_below hbox hb; have hB2 := below_then hB1 hB1.size hb; have hq0 : w1.cell? ⟨w.heap.size, 0, none⟩ = some (.slice A0_0 l0_0.length c0_0) := (blk_cell hbox1 0).trans rfl) | (refine ⟨trivial, ?_⟩; gi_at_call 76; refine (hak _).mono ?_; rintro e w3 ⟨rfl, rfl⟩))
      go_ret
      exact ⟨rfl, hB2⟩
    | true =>
      rw [ha] at hak
      rw [if_pos ⟨rfl, rfl⟩]
      have hl : l0_1.length = 6 ∧ orderI l0_0 = true := by
        unfold storeOkB at hs
        rw [Bool.and_eq_true, Bool.and_eq_true, decide_eq_true_eq] at hs
        exact ⟨by omega, hs.2.1⟩
      have hf := order_flash hl.2
      have hl := hl.1
      have hr16 : 1 ≤ a1 ∧ a1 ≤ 6 := by unfold addrB at ha; simpa using ha
      have hwf : (Lit.int .i64 a1).wf = true := WalkArith.wf_i64 ⟨by omega, by omega⟩
      have hlr : ∀ W, Below w.heap.size w W → CallsIn Fence.wide 2 Try.prog 108 #[.slice A0_0 l0_0.length c0_0] W fun e w' => ∃ B n, e = .returned (.map (some B)) ∧ RecsIs Try.prog 3 w' B n (lastMap l0_0) ∧ W.heap.size ≤ B ∧ Below W.heap.size W w' := fun W hb => callsIn_wide.2 (lastRecords_any A0_0 c0_0 l0_0 W (Kd.C_below hr0_0 hb) hf)
      generalize lastMap l0_0 = M at hlr ⊢
      rw [hl] at hbox hB1 hso ⊢
      cases hM : M a1 with
      | some q =>
        obtain ⟨qa, qb, qc, qd⟩ := q
        refine callsIn_of_wp Try.func56 rfl trivial ?_ rfl
        simp only [Try.ntmps56, List.size_toArray, List.length_cons, List.length_nil, Nat.reduceAdd, Nat.reduceSub, Array.replicate_succ, Array.replicate_zero, List.push_toArray, List.append_toArray, List.nil_append, List.cons_append]
        gi_wp2_with (first | (refine ⟨trivial, ?_⟩; gi_at_call 53; refine (hso _ hB1).mono ?_; rintro e w1 ⟨rfl, hb⟩; have hbox1 := blk_below hbox hb; have hB2 := below_then hB1 hB1.size hb; have hq0 : w1.cell? ⟨w.heap.size, 0, none⟩ = some (.slice A0_0 l0_0.length c0_0) := (blk_cell hbox1 0).trans rfl) | (refine ⟨trivial, ?_⟩; gi_at_call 76; refine (hak _).mono ?_; rintro e w3 ⟨rfl, rfl⟩) | (refine ⟨trivial, ?_⟩; gi_at_call 108; refine (hlr _ hB2).mono ?_; rintro e w2 ⟨B, n, rfl, hm, hBq, hb2⟩; have hB3 := below_then hB2 hB2.size hb2; have hbox2 := blk_below hbox1 hb2; have hq1 : w2.cell? ⟨w.heap.size, 1, none⟩ = some (.slice A0_1 6 c0_1) := (blk_cell hbox2 1).trans rfl; have hlk := hm.look_ok (T := 112) (E := 26) Try.underlying3 Try.underlying112 (by go_simp; rfl) hwf; rw [hM] at hlk; simp only [Option.getD_some, Option.isSome_some, Option.getD_none, Option.isSome_none, recVal] at hlk))
        go_ret
        exact ⟨rfl, below_alloc hB3 _⟩
      | none =>
        have p1 : 0 ≤ a1 - 1 := by omega
        have q1 : a1 - 1 < 6 := by omega
        obtain ⟨ad1, e1, hx1⟩ := Kd.at_int hr0_1 (a1 - 1) p1 (by omega)
        cases e1
        rw [show (a1 - 1).toNat = a1.toNat - 1 by omega] at hx1
        refine callsIn_of_wp Try.func56 rfl trivial ?_ rfl
        simp only [Try.ntmps56, List.size_toArray, List.length_cons, List.length_nil, Nat.reduceAdd, Nat.reduceSub, Array.replicate_succ, Array.replicate_zero, List.push_toArray, List.append_toArray, List.nil_append, List.cons_append]
        gi_wp2_with (first | (refine ⟨trivial, ?_⟩; gi_at_call 53; refine (hso _ hB1).mono ?_; rintro e w1 ⟨rfl, hb⟩; have hbox1 := blk_below hbox hb; have hB2 := below_then hB1 hB1.size hb; have hq0 : w1.cell? ⟨w.heap.size, 0, none⟩ = some (.slice A0_0 l0_0.length c0_0) := (blk_cell hbox1 0).trans rfl) | (refine ⟨trivial, ?_⟩; gi_at_call 76; refine (hak _).mono ?_; rintro e w3 ⟨rfl, rfl⟩) | (refine ⟨trivial, ?_⟩; gi_at_call 108; refine (hlr _ hB2).mono ?_; rintro e w2 ⟨B, n, rfl, hm, hBq, hb2⟩; have hB3 := below_then hB2 hB2.size hb2; have hbox2 := blk_below hbox1 hb2; have hq1 : w2.cell? ⟨w.heap.size, 1, none⟩ = some (.slice (some ad1) 6 c0_1) := (blk_cell hbox2 1).trans rfl; have hlk := hm.look_ok (T := 112) (E := 26) Try.underlying3 Try.underlying112 (by go_simp; rfl) hwf; rw [hM] at hlk; simp only [Option.getD_some, Option.isSome_some, Option.getD_none, Option.isSome_none, recVal] at hlk; have hlt2 := blk_lt hbox2; have hx2 := (hB3.cell (World.block_lt_of_cell? w _ hx1)).trans hx1; have hx3 := ((below_alloc (Below.refl _ w2) (.cells #[.int .i64 0, .int .i64 0, .int .i64 0, .int .i64 0] 26)).cell (World.block_lt_of_cell? w2 _ hx2)).trans hx2))
        go_ret
        exact ⟨rfl, below_alloc hB3 _⟩

end Go.Proofs.Ytdjdbfcfopgdcaa.Ro
