-- printed by wip/pp/pp.py
import Derived.Test.YtoedphbikgoapaaRb0
import Derived.Test.YtoedphbikgoapaaRb21
import Derived.Test.YtoedphbikgoapaaRb23
import Derived.Test.YtoedphbikgoapaaRb24
import Derived.RangeFuncNested
import Derived.RangeFuncBound
import Derived.RangeFuncCalls
import Derived.RangeFuncLeaves
import Derived.Shelf.Abstract
import Derived.WalkKit
import Derived.OwnWalkIn
import Derived.TacticsInMore
import Derived.LoopNIn
import Derived.LoopIn
import Derived.IntWalk
import Derived.Test.YtoedphbikgoapaaWMap
import Derived.Maps.OwnOps
import Derived.Maps.Own
import Derived.Maps.OwnIn
import Derived.WalkArith
import Derived.Laws.MakeOwn
import Derived.Maps.AppendAt
namespace Go.Proofs.Ytoedphbikgoapaa.Rb
open Go.RowKit Go.Proofs.YtoedphbikgoapaaW.PrintWords Go.Proofs.YtoedphbikgoapaaW.PrintLast Go.Proofs.YtoedphbikgoapaaW.PrintMore
attribute [local go_sem] max2_int min2_int max_two min_two max_three min_three max_four min_four   -- for this text's walks alone
set_option linter.unusedVariables false
set_option linter.unusedSimpArgs false

-- IMPORT Derived.RangeFuncNested
-- IMPORT Derived.RangeFuncBound
-- IMPORT Derived.RangeFuncCalls
-- IMPORT Derived.RangeFuncLeaves
-- IMPORT Derived.Shelf.Abstract
-- IMPORT Derived.WalkKit
-- IMPORT Derived.OwnWalkIn
-- IMPORT Derived.TacticsInMore
-- IMPORT Derived.LoopNIn
-- IMPORT Derived.LoopIn
-- IMPORT Derived.IntWalk
-- IMPORT Derived.Test.YtoedphbikgoapaaWMap
-- IMPORT Derived.Maps.OwnOps
-- IMPORT Derived.Maps.Own
-- IMPORT Derived.Maps.OwnIn
-- IMPORT Derived.WalkArith
-- IMPORT Derived.Laws.MakeOwn
-- IMPORT Derived.Maps.AppendAt
-- ALONE
open Go.Proofs.YtoedphbikgoapaaW
attribute [local go_sem] Oper.semAt_some
def dirtyN (M : RecMap) : Nat → List Int
  | 0 => []
  | n + 1 => dirtyN M n ++ (match M ((n : Int) + 1) with
    | some r => if r.1 = 1 then [(n : Int) + 1] else []
    | none => [])
theorem dirtyN_len (M : RecMap) : ∀ n, (dirtyN M n).length ≤ n
  | 0 => Nat.le_refl _
  | n + 1 => by
    have := dirtyN_len M n
    rw [dirtyN, List.length_append]
    split
    · split <;> simp <;> omega
    · simp; omega
def dirtyV (l0 : List S65) (l1 : List Int) : List Int := if storeOkB l0 l1 = true then dirtyN (lastMap l0) 6 else []
def impl_StoreDirty.f (l0_0 : List (S65)) (l0_1 : List Int) : Option (List Int) := some (dirtyV l0_0 l0_1)
set_option maxRecDepth 100000 in
set_option maxHeartbeats 8000000 in
theorem impl_StoreDirty.calls (A0_0 : Option Addr) (c0_0 : Nat) (l0_0 : List (S65)) (A0_1 : Option Addr) (c0_1 : Nat) (l0_1 : List Int) (r : List Int) (w : World) (hr0_0 : Kd.C k65 w A0_0 l0_0.length l0_0) (hc0_0 : l0_0.length ≤ c0_0) (hr0_1 : Kd.C (Kd.int .i64) w A0_1 l0_1.length l0_1) (hc0_1 : l0_1.length ≤ c0_1) (h : impl_StoreDirty.f l0_0 l0_1 = some r) :
    Calls Try.prog 20 #[.agg #[.slice A0_0 l0_0.length c0_0, .slice A0_1 l0_1.length c0_1]] w fun e w' => ∃ v0_ : Value, e = .returned v0_ ∧ Kd.R (Kd.int .i64) 3 w' w.heap.size (fun _ => True) v0_ r ∧ Below w.heap.size w w' := by
  obtain rfl := Option.some.inj h
  clear h
  refine (callsIn_wide (n := 3)).1 ?_
  have hu := Try.underlying41
  have hu2 := Try.underlying30
  have hinfo : (Try.prog.info? 3).map (fun i => (i.zero, i.size, i.bytes)) = some (some (.int .i64 0), 1, 8) := by kernel_rfl
  obtain ⟨i0, hi0, hzz⟩ := Option.map_eq_some_iff.1 hinfo
  simp only [Prod.mk.injEq] at hzz
  obtain ⟨hz0, hz1, hz2⟩ := hzz
  have hso : ∀ W, Below w.heap.size w W → CallsIn Fence.wide 2 Try.prog 57 #[.agg #[.slice A0_0 l0_0.length c0_0, .slice A0_1 l0_1.length c0_1]] W fun e w' => e = .returned (.bool (storeOkB l0_0 l0_1)) ∧ Below W.heap.size W w' := fun W hb => callsIn_wide.2 (impl_StoreOk.calls A0_0 c0_0 l0_0 A0_1 c0_1 l0_1 _ W (Kd.C_below hr0_0 hb) hc0_0 (Kd.C_below hr0_1 hb) hc0_1 rfl)
  have hbox := blk_new w (.cells #[.slice A0_0 l0_0.length c0_0, .slice A0_1 l0_1.length c0_1] 41)
  have hB1 := below_alloc (Below.refl _ w) (.cells #[.slice A0_0 l0_0.length c0_0, .slice A0_1 l0_1.length c0_1] 41)
  unfold dirtyV
  cases hs : storeOkB l0_0 l0_1 with
  | false =>
    rw [hs] at hso
    rw [if_neg (by simp)]
    refine callsIn_of_wp Try.func20 rfl trivial ?_ rfl
    simp only [Try.ntmps20, List.size_toArray, List.length_cons, List.length_nil, Nat.reduceAdd, Nat.reduceSub, Array.replicate_succ, Array.replicate_zero, List.push_toArray, List.append_toArray, List.nil_append, List.cons_append]
    gi_wp2_with (first | (refine ⟨trivial, ?_⟩; gi_at_call 57; refine (hso _ hB1).mono ?_; rintro e w1 ⟨rfl, hb⟩; have hbox1 := blk_below hbox hb; have hB2 := below_then hB1 hB1.size hb; have hq0 : w1.cell? ⟨w.heap.size, 0, none⟩ = some (.slice A0_0 l0_0.length c0_0) := (blk_cell hbox1 0).trans rfl))
    go_ret
    exact ⟨_, rfl, Kd.R_nil _ _ _ _ _, hB2⟩
  | true =>
    rw [hs] at hso
    rw [if_pos rfl]
    have hl : l0_1.length = 6 ∧ orderI l0_0 = true := by
      unfold storeOkB at hs
      rw [Bool.and_eq_true, Bool.and_eq_true, decide_eq_true_eq] at hs
      exact ⟨by omega, hs.2.1⟩
    have hf := order_flash hl.2
    have hl := hl.1
    have hlr : ∀ W, Below w.heap.size w W → CallsIn Fence.wide 2 Try.prog 58 #[.slice A0_0 l0_0.length c0_0] W fun e w' => ∃ B n, e = .returned (.map (some B)) ∧ RecsIs Try.prog 3 w' B n (lastMap l0_0) ∧ W.heap.size ≤ B ∧ Below W.heap.size W w' := fun W hb => callsIn_wide.2 (lastRecords_any A0_0 c0_0 l0_0 W (Kd.C_below hr0_0 hb) hf)
    generalize lastMap l0_0 = M at hlr ⊢
    rw [hl] at hbox hB1 hso ⊢
    refine callsIn_of_wp Try.func20 rfl trivial ?_ rfl
    simp only [Try.ntmps20, List.size_toArray, List.length_cons, List.length_nil, Nat.reduceAdd, Nat.reduceSub, Array.replicate_succ, Array.replicate_zero, List.push_toArray, List.append_toArray, List.nil_append, List.cons_append]
    gi_wp2_with (first | (refine ⟨trivial, ?_⟩; gi_at_call 57; refine (hso _ hB1).mono ?_; rintro e w1 ⟨rfl, hb⟩; have hbox1 := blk_below hbox hb; have hB2 := below_then hB1 hB1.size hb; have hq0 : w1.cell? ⟨w.heap.size, 0, none⟩ = some (.slice A0_0 l0_0.length c0_0) := (blk_cell hbox1 0).trans rfl) | (refine ⟨trivial, ?_⟩; gi_at_call 58; refine (hlr _ hB2).mono ?_; rintro e w2 ⟨B, n, rfl, hm, hBq, hb2⟩; have hB3 := below_then hB2 hB2.size hb2; have hbox2 := blk_below hbox1 hb2; have hlt2 := blk_lt hbox2; have hq1 : w2.cell? ⟨w.heap.size, 1, none⟩ = some (.slice A0_1 6 c0_1) := (blk_cell hbox2 1).trans rfl))
    clear hso hlr
    gi_loopw [6, 5] (fun v6 v5 wr => ∃ i : Nat, v6 = .int .i64 ((i : Int) + 1) ∧ i ≤ 6 ∧ Aside0 (wr.ownsRow w.heap.size 3 1 v5 (dirtyN M i).length (encs (Value.int .i64) (dirtyN M i))) ∧ Aside0 (v5.ownBlock ≠ some B) ∧ Aside0 (RecsIs Try.prog 3 wr B n M) ∧ Aside0 (Below w.heap.size w wr)) (fun v6 _ _ => 7 - (intOf v6).toNat)
    case atStart => exact ⟨0, rfl, by omega, ⟨own_nil _ _ _ _⟩, ⟨by simp [Value.ownBlock]⟩, ⟨hm⟩, ⟨hB3⟩⟩
    case round =>
      clear hB3 hB2 hB1 hbox hbox1 hbox2 hq0 hq1 hm
      obtain ⟨i, rfl, hi, hv, hvB, hm, hB⟩ := hrel
      by_cases ci : i < 6
      rotate_left
      · obtain rfl : i = 6 := by omega
        gi_wp2
        go_ret
        exact ⟨_, rfl, Kd.R_of_own (enc := Value.int .i64) (h1 := fun _ => rfl) hv.out (fun _ _ => trivial), hB.out⟩
      have cib : decide ((i : Int) + 1 ≤ 6) = true := decide_eq_true (by omega)
      have hwf : (Lit.int .i64 ((i : Int) + 1)).wf = true := WalkArith.wf_i64 ⟨by omega, by omega⟩
      have hlk := hm.out.look_ok (T := 77) (E := 30) Try.underlying3 Try.underlying77 (by go_simp; rfl) hwf
      have hst : dirtyN M (i + 1) = dirtyN M i ++ (match M ((i : Int) + 1) with
        | some r => if r.1 = 1 then [(i : Int) + 1] else []
        | none => []) := rfl
      have hlen := dirtyN_len M i
      cases hM : M ((i : Int) + 1) with
      | none =>
        rw [hM] at hlk hst
        simp only [Option.getD_none, Option.isSome_none, recVal] at hlk
        have HS : Aside0 (dirtyN M (i + 1) = dirtyN M i) := ⟨by rw [hst]; simp⟩
        clear hst hwf
        gi_wp2
        refine ⟨fun _ h => (by cases h), ?_⟩
        gi_wp2
        exact ⟨⟨i + 1, by simp, by omega, ⟨by rw [HS.out]; exact pw_own_below hv.out (below_alloc (Below.refl _ wr) _)⟩, hvB, ⟨hm.out.alloc _⟩, ⟨below_alloc hB.out _⟩⟩, by simp [intOf]; omega⟩
      | some q =>
        obtain ⟨qa, qb, qc, qd⟩ := q
        rw [hM] at hlk hst
        simp only [Option.getD_some, Option.isSome_some, recVal] at hlk
        dsimp only at hst
        have hdi := isDirty_any qa qb qc qd
        by_cases k1 : qa = 1
        rotate_left
        · have k1b : (qa == 1) = false := by simp [k1]
          have HS : Aside0 (dirtyN M (i + 1) = dirtyN M i) := ⟨by rw [hst, if_neg k1, List.append_nil]⟩
          rw [k1b] at hdi
          clear hst hwf
          gi_wp2_with (first | (refine ⟨trivial, ?_⟩; gi_at_call 59; refine (hdi _).mono ?_; rintro e w3 ⟨rfl, rfl⟩))
          exact ⟨⟨i + 1, by simp, by omega, ⟨by rw [HS.out]; exact pw_own_below hv.out (below_alloc (below_alloc (Below.refl _ wr) _) _)⟩, hvB, ⟨(hm.out.alloc _).alloc _⟩, ⟨below_alloc (below_alloc hB.out _) _⟩⟩, by simp [intOf]; omega⟩
        subst k1
        have HS : Aside0 (dirtyN M (i + 1) = dirtyN M i ++ [(i : Int) + 1]) := ⟨by rw [hst, if_pos rfl]⟩
        rw [show ((1 : Int) == 1) = true from rfl] at hdi
        clear hst hwf
        have hBlt := hm.out.lt
        have hcn := cell_one_new ((wr.alloc (.cells #[.int .i64 1, .int .i64 qb, .int .i64 qc, .int .i64 qd] 30)).alloc (.cells #[.int .i64 1, .int .i64 qb, .int .i64 qc, .int .i64 qd] 30)) (.int .i64 ((i : Int) + 1)) 3
        simp only [World.size_alloc] at hcn
        replace hcn := Aside0.mk hcn
        have hBs := Aside0.mk (show w.heap.size ≤ wr.heap.size + 1 + 1 + 1 by have := hB.out.size; omega)
        gi_wp2_with (first | (refine ⟨trivial, ?_⟩; gi_at_call 59; refine (hdi _).mono ?_; rintro e w3 ⟨rfl, rfl⟩) | (gi_at_builtin; refine wpListIn_append_own_at _ rfl _ _ 35 rfl w.heap.size 3 i0 (.int .i64 0) 1 8 Try.underlying35 hi0 hz0 hz1 hz2 rfl (by decide) _ _ _ rfl (pw_own_below hv.out (below_alloc (below_alloc (below_alloc (Below.refl _ wr) _) _) _)) ⟨wr.heap.size + 1 + 1, 0, none⟩ 1 1 [.int .i64 ((i : Int) + 1)] rfl rfl hcn.out (by simp [Value.oneCell']) (by simp only [maxLen]; omega) (by omega) (by simp only [World.size_alloc]; exact hBs.out) ?_; intro v' w9 hown' hgrow _ hat))
        have hB6 := below_alloc (below_alloc (below_alloc hB.out (.cells #[.int .i64 1, .int .i64 qb, .int .i64 qc, .int .i64 qd] 30)) (.cells #[.int .i64 1, .int .i64 qb, .int .i64 qc, .int .i64 qd] 30)) (.cells #[.int .i64 ((i : Int) + 1)] 3)
        refine ⟨⟨i + 1, by simp, by omega, ⟨by rw [HS.out]; simpa [encs] using hown'⟩, ⟨fun e => hat.elim (fun h => hvB.out (h ▸ e)) (fun h => by rw [h] at e; injection e with e; simp only [World.size_alloc] at e; omega)⟩, ⟨(((hm.out.alloc _).alloc _).alloc _).kept hgrow (fun e => hvB.out e.symm)⟩, ⟨hB6.grown hgrow hB6.size (fun k e => own_base hv.out k e)⟩⟩, by simp [intOf]; omega⟩

end Go.Proofs.Ytoedphbikgoapaa.Rb
