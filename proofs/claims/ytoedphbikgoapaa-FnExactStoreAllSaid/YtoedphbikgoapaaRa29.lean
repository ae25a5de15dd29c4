-- printed by wip/pp/pp.py
import Derived.Test.YtoedphbikgoapaaRa0
import Derived.Test.YtoedphbikgoapaaRa25
import Derived.Test.YtoedphbikgoapaaRa27
import Derived.Test.YtoedphbikgoapaaRa28
import Derived.RangeFuncNested
import Derived.RangeFuncBound
import Derived.RangeFuncCalls
import Derived.RangeFuncLeaves
import Derived.Shelf.Abstract
import Derived.WalkKit
import Derived.OwnWalkIn
import Derived.TacticsInMore
import Derived.LoopNIn
import Derived.LoopIn
import Derived.IntWalk
import Derived.Test.YtoedphbikgoapaaWMap
import Derived.Maps.OwnOps
import Derived.Maps.Own
import Derived.Maps.OwnIn
import Derived.WalkArith
import Derived.Laws.MakeOwn
namespace Go.Proofs.Ytoedphbikgoapaa.Ra
open Go.RowKit Go.Proofs.YtoedphbikgoapaaW.PrintWords Go.Proofs.YtoedphbikgoapaaW.PrintLast Go.Proofs.YtoedphbikgoapaaW.PrintMore
attribute [local go_sem] max2_int min2_int max_two min_two max_three min_three max_four min_four   -- for this text's walks alone
set_option linter.unusedVariables false
set_option linter.unusedSimpArgs false

-- IMPORT Derived.RangeFuncNested
-- IMPORT Derived.RangeFuncBound
-- IMPORT Derived.RangeFuncCalls
-- IMPORT Derived.RangeFuncLeaves
-- IMPORT Derived.Shelf.Abstract
-- IMPORT Derived.WalkKit
-- IMPORT Derived.OwnWalkIn
-- IMPORT Derived.TacticsInMore
-- IMPORT Derived.LoopNIn
-- IMPORT Derived.LoopIn
-- IMPORT Derived.IntWalk
-- IMPORT Derived.Test.YtoedphbikgoapaaWMap
-- IMPORT Derived.Maps.OwnOps
-- IMPORT Derived.Maps.Own
-- IMPORT Derived.Maps.OwnIn
-- IMPORT Derived.WalkArith
-- IMPORT Derived.Laws.MakeOwn
-- ALONE
open Go.Proofs.YtoedphbikgoapaaW
attribute [local go_sem] Oper.semAt_some
def ValsBox (W : World) (g : Nat) (s : Nat → Int) : Prop := W.heap[g]? = some (.cells #[.int .i64 (s 0), .int .i64 (s 1), .int .i64 (s 2), .int .i64 (s 3), .int .i64 (s 4), .int .i64 (s 5)] 3 (0, 0))
theorem ValsBox.at_ {W : World} {g : Nat} {s : Nat → Int} (h : ValsBox W g s) (i : Nat) (hi : i < 6) : W.cell? ⟨g, i, none⟩ = some (.int .i64 (s i)) := by
  rw [blk_cell h i]
  obtain rfl | rfl | rfl | rfl | rfl | rfl : i = 0 ∨ i = 1 ∨ i = 2 ∨ i = 3 ∨ i = 4 ∨ i = 5 := by omega
  all_goals rfl
theorem ValsBox.put {W : World} {g : Nat} {s : Nat → Int} (h : ValsBox W g s) (i : Nat) (hi : i < 6) (a : Int) : ValsBox (W.setCell ⟨g, i, none⟩ (.int .i64 a)) g (fun j => if j = i then a else s j) := by
  have := blk_set h i (.int .i64 a)
  unfold ValsBox
  rw [this]
  obtain rfl | rfl | rfl | rfl | rfl | rfl : i = 0 ∨ i = 1 ∨ i = 2 ∨ i = 3 ∨ i = 4 ∨ i = 5 := by omega
  all_goals simp
theorem ValsBox.row {W : World} {g base : Nat} {s : Nat → Int} (h : ValsBox W g s) (hg : base ≤ g) : Kd.R (Kd.int .i64) 3 W base (fun _ => True) (.slice (some ⟨g, 0, none⟩) 6 6) [s 0, s 1, s 2, s 3, s 4, s 5] :=
  Kd.R_of_own (enc := Value.int .i64) (h1 := fun _ => rfl) ⟨rfl, .inr ⟨g, 6, _, rfl, hg, h, Nat.le_refl _, by decide, rfl, rfl⟩⟩ (fun _ _ => trivial)
theorem make_six (W : World) : (Instr.makeSlice 35 (.int .i64 6) (.int .i64 6)).run Try.prog W = .ok (.slice (some ⟨W.heap.size, 0, none⟩) 6 6) (W.alloc (.cells #[.int .i64 0, .int .i64 0, .int .i64 0, .int .i64 0, .int .i64 0, .int .i64 0] 3)) := by
  have hinfo : (Try.prog.info? 3).map (fun i => (i.zero, i.size, i.bytes)) = some (some (.int .i64 0), 1, 8) := by kernel_rfl
  obtain ⟨i0, hi, hzz⟩ := Option.map_eq_some_iff.1 hinfo
  simp only [Prod.mk.injEq] at hzz
  obtain ⟨hz0, hz1, hz2⟩ := hzz
  have hr := run_make (P := Try.prog) W 35 3 i0 _ Try.underlying35 hi hz0 .i64 .i64 6 6 (by decide) (by decide) (by rw [hz2]; decide) (by decide)
  have h8 : Array.range (Int.toNat 6 * 1) = #[0, 1, 2, 3, 4, 5] := by decide
  rw [hz1] at hr
  unfold madeCells at hr
  have hc : (Value.int IntKind.i64 0).cells = #[Value.int IntKind.i64 0] := by simp [Value.cells]
  rw [h8, hc] at hr
  simpa using hr
def valAt (M : RecMap) (l1 : List Int) (i : Nat) : Int := match M ((i : Int) + 1) with
  | some r => r.2.2.2
  | none => rd l1 (i : Int)
def allV (l0 : List S65) (l1 : List Int) : List Int := if storeOkB l0 l1 = true then [valAt (lastMap l0) l1 0, valAt (lastMap l0) l1 1, valAt (lastMap l0) l1 2, valAt (lastMap l0) l1 3, valAt (lastMap l0) l1 4, valAt (lastMap l0) l1 5] else []
def impl_StoreAll.f (l0_0 : List (S65)) (l0_1 : List Int) : Option (List Int) := some (allV l0_0 l0_1)
set_option maxRecDepth 100000 in
set_option maxHeartbeats 8000000 in
theorem impl_StoreAll.calls (A0_0 : Option Addr) (c0_0 : Nat) (l0_0 : List (S65)) (A0_1 : Option Addr) (c0_1 : Nat) (l0_1 : List Int) (r : List Int) (w : World) (hr0_0 : Kd.C k65 w A0_0 l0_0.length l0_0) (hc0_0 : l0_0.length ≤ c0_0) (hr0_1 : Kd.C (Kd.int .i64) w A0_1 l0_1.length l0_1) (hc0_1 : l0_1.length ≤ c0_1) (h : impl_StoreAll.f l0_0 l0_1 = some r) :
    Calls Try.prog 27 #[.agg #[.slice A0_0 l0_0.length c0_0, .slice A0_1 l0_1.length c0_1]] w fun e w' => ∃ v0_ : Value, e = .returned v0_ ∧ Kd.R (Kd.int .i64) 3 w' w.heap.size (fun _ => True) v0_ r ∧ Below w.heap.size w w' := by
  obtain rfl := Option.some.inj h
  clear h
  refine (callsIn_wide (n := 3)).1 ?_
  have hu := Try.underlying41
  have hu2 := Try.underlying30
  have hmk := make_six
  have hso : ∀ W, Below w.heap.size w W → CallsIn Fence.wide 2 Try.prog 57 #[.agg #[.slice A0_0 l0_0.length c0_0, .slice A0_1 l0_1.length c0_1]] W fun e w' => e = .returned (.bool (storeOkB l0_0 l0_1)) ∧ Below W.heap.size W w' := fun W hb => callsIn_wide.2 (impl_StoreOk.calls A0_0 c0_0 l0_0 A0_1 c0_1 l0_1 _ W (Kd.C_below hr0_0 hb) hc0_0 (Kd.C_below hr0_1 hb) hc0_1 rfl)
  have hbox := blk_new w (.cells #[.slice A0_0 l0_0.length c0_0, .slice A0_1 l0_1.length c0_1] 41)
  have hB1 := below_alloc (Below.refl _ w) (.cells #[.slice A0_0 l0_0.length c0_0, .slice A0_1 l0_1.length c0_1] 41)
  unfold allV
  cases hs : storeOkB l0_0 l0_1 with
  | false =>
    rw [hs] at hso
    rw [if_neg (by simp)]
    refine callsIn_of_wp Try.func27 rfl trivial ?_ rfl
    simp only [Try.ntmps27, List.size_toArray, List.length_cons, List.length_nil, Nat.reduceAdd, Nat.reduceSub, Array.replicate_succ, Array.replicate_zero, List.push_toArray, List.append_toArray, List.nil_append, List.cons_append]
    gi_wp2_with (first | (refine ⟨trivial, ?_⟩; gi_at_call 57; refine (hso _ hB1).mono ?_; rintro e w1 ⟨rfl, hb⟩; have hbox1 := blk_below hbox hb; have hB2 := below_then hB1 hB1.size hb; have hq0 : w1.cell? ⟨w.heap.size, 0, none⟩ = some (.slice A0_0 l0_0.length c0_0) := (blk_cell hbox1 0).trans rfl))
    go_ret
    exact ⟨_, rfl, Kd.R_nil _ _ _ _ _, hB2⟩
  | true =>
    rw [hs] at hso
    rw [if_pos rfl]
    have hl : l0_1.length = 6 ∧ orderI l0_0 = true := by
      unfold storeOkB at hs
      rw [Bool.and_eq_true, Bool.and_eq_true, decide_eq_true_eq] at hs
      exact ⟨by omega, hs.2.1⟩
    have hf := order_flash hl.2
    have hl := hl.1
    have hlr : ∀ W, Below w.heap.size w W → CallsIn Fence.wide 2 Try.prog 58 #[.slice A0_0 l0_0.length c0_0] W fun e w' => ∃ B n, e = .returned (.map (some B)) ∧ RecsIs Try.prog 3 w' B n (lastMap l0_0) ∧ W.heap.size ≤ B ∧ Below W.heap.size W w' := fun W hb => callsIn_wide.2 (lastRecords_any A0_0 c0_0 l0_0 W (Kd.C_below hr0_0 hb) hf)
    generalize lastMap l0_0 = M at hlr ⊢
    rw [hl] at hbox hB1 hso ⊢
    refine callsIn_of_wp Try.func27 rfl trivial ?_ rfl
    simp only [Try.ntmps27, List.size_toArray, List.length_cons, List.length_nil, Nat.reduceAdd, Nat.reduceSub, Array.replicate_succ, Array.replicate_zero, List.push_toArray, List.append_toArray, List.nil_append, List.cons_append]
    gi_wp2_with (first | (refine ⟨trivial, ?_⟩; gi_at_call 57; refine (hso _ hB1).mono ?_; rintro e w1 ⟨rfl, hb⟩; have hbox1 := blk_below hbox hb; have hB2 := below_then hB1 hB1.size hb; have hq0 : w1.cell? ⟨w.heap.size, 0, none⟩ = some (.slice A0_0 l0_0.length c0_0) := (blk_cell hbox1 0).trans rfl) | (refine ⟨trivial, ?_⟩; gi_at_call 58; refine (hlr _ hB2).mono ?_; rintro e w2 ⟨B, n, rfl, hm, hBq, hb2⟩; have hB3 := below_then hB2 hB2.size hb2; have hbox2 := blk_below hbox1 hb2; have hlt2 := blk_lt hbox2; have hq1 : w2.cell? ⟨w.heap.size, 1, none⟩ = some (.slice A0_1 6 c0_1) := (blk_cell hbox2 1).trans rfl))
    clear hso hlr
    have bV : ValsBox (w2.alloc (.cells #[.int .i64 0, .int .i64 0, .int .i64 0, .int .i64 0, .int .i64 0, .int .i64 0] 3)) w2.heap.size (fun _ => 0) := blk_new w2 _
    have hm2 := hm.alloc (.cells #[.int .i64 0, .int .i64 0, .int .i64 0, .int .i64 0, .int .i64 0, .int .i64 0] 3)
    have hB4 := below_alloc hB3 (.cells #[.int .i64 0, .int .i64 0, .int .i64 0, .int .i64 0, .int .i64 0, .int .i64 0] 3)
    have hg : w.heap.size ≤ w2.heap.size := hB3.size
    have hBg : B < w2.heap.size := hm.lt
    generalize w2.heap.size = g at bV hg hBg ⊢
    gi_loopw [19] (fun v19 wr => ∃ i : Nat, v19 = .int .i64 (i : Int) ∧ i ≤ 6 ∧ Aside0 (ValsBox wr g (fun j => if j < i then valAt M l0_1 j else 0)) ∧ Aside0 (RecsIs Try.prog 3 wr B n M) ∧ Aside0 (Below w.heap.size w wr)) (fun v19 _ => 6 - (intOf v19).toNat)
    case atStart => exact ⟨0, rfl, by omega, ⟨by simpa using bV⟩, ⟨hm2⟩, ⟨hB4⟩⟩
    case round =>
      clear hm2 hB4 hB3 hB2 hB1 hbox hbox1 hbox2 hq0 hq1 bV hm
      obtain ⟨i, rfl, hi, hv, hm, hB⟩ := hrel
      by_cases ci : i < 6
      rotate_left
      · obtain rfl : i = 6 := by omega
        gi_wp2
        go_ret
        exact ⟨_, rfl, hv.out.row hg, hB.out⟩
      have cib : decide ((i : Int) < 6) = true := decide_eq_true (by omega)
      have p1 : 0 ≤ (i : Int) := by omega
      have q1 : (i : Int) < 6 := by omega
      obtain ⟨ad1, e1, hx1⟩ := Kd.at_int hr0_1 (i : Int) p1 (by omega)
      cases e1
      replace hx1 := (hB.out.cell (World.block_lt_of_cell? w _ hx1)).trans hx1
      simp only [Int.toNat_natCast] at hx1
      have hva : valAt M l0_1 i = (match M ((i : Int) + 1) with
        | some r => r.2.2.2
        | none => rd l0_1 (i : Int)) := rfl
      generalize rd l0_1 (i : Int) = d at hx1 hva
      have hwf : (Lit.int .i64 ((i : Int) + 1)).wf = true := WalkArith.wf_i64 ⟨by omega, by omega⟩
      have hc0 := hv.out.at_ i ci
      have hf0 : wr.frozen? ⟨g, i, none⟩ = false := blk_frozen hv.out i
      have hV1 := Aside0.mk (hv.out.put i ci d)
      have hM1 := Aside0.mk (hm.out.setCell (a := ⟨g, i, none⟩) (by show B ≠ g; omega) (.int .i64 d))
      have hb1 := Aside0.mk (hB.out.setCell (p := ⟨g, i, none⟩) hg (.int .i64 d))
      have hlk := hM1.out.look_ok (T := 77) (E := 30) Try.underlying3 Try.underlying77 (by go_simp; rfl) hwf
      have hst : ∀ x : Int, valAt M l0_1 i = x → (fun j => if j < i + 1 then valAt M l0_1 j else 0) = (fun j => if j = i then x else (fun j => if j < i then valAt M l0_1 j else 0) j) := fun x hx => by
        funext j
        show (if j < i + 1 then valAt M l0_1 j else 0) = (if j = i then x else if j < i then valAt M l0_1 j else 0)
        by_cases e : j = i
        · subst e
          rw [if_pos (by omega), if_pos rfl, hx]
        rw [if_neg e]
        by_cases e2 : j < i
        rotate_left
        · rw [if_neg (by omega), if_neg e2]
        rw [if_pos (by omega), if_pos e2]
      cases hM : M ((i : Int) + 1) with
      | none =>
        rw [hM] at hlk hva
        simp only [Option.getD_none, Option.isSome_none, recVal] at hlk
        have HS := Aside0.mk (hst d hva)
        clear hst hva hwf
        gi_wp2
        exact ⟨⟨i + 1, by simp, by omega, ⟨by rw [HS.out]; exact blk_alloc hV1.out _⟩, ⟨hM1.out.alloc _⟩, ⟨below_alloc hb1.out _⟩⟩, by simp [intOf]; omega⟩
      | some q =>
        obtain ⟨qa, qb, qc, qd⟩ := q
        rw [hM] at hlk hva
        simp only [Option.getD_some, Option.isSome_some, recVal] at hlk
        have HS := Aside0.mk (hst qd hva)
        have hglt := blk_lt hv.out
        clear hst hva hwf
        gi_wp2
        have hV3 := hV1.out.put i ci qd
        have e : (fun j => if j = i then qd else (if j = i then d else if j < i then valAt M l0_1 j else 0)) = (fun j => if j = i then qd else if j < i then valAt M l0_1 j else 0) := by
          funext j
          by_cases e : j = i
          · rw [if_pos e, if_pos e]
          rw [if_neg e, if_neg e, if_neg e]
        rw [e] at hV3
        exact ⟨⟨i + 1, by simp, by omega, ⟨by rw [HS.out]; exact blk_alloc hV3 _⟩, ⟨(hM1.out.setCell (a := ⟨g, i, none⟩) (by show B ≠ g; omega) _).alloc _⟩, ⟨below_alloc (hb1.out.setCell (p := ⟨g, i, none⟩) hg _) _⟩⟩, by simp [intOf]; omega⟩

end Go.Proofs.Ytoedphbikgoapaa.Ra
