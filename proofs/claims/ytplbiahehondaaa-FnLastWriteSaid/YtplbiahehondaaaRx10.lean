-- printed by wip/pp/pp.py
import Derived.Test.YtplbiahehondaaaRx0
import Derived.Test.YtplbiahehondaaaRx8
import Derived.Test.YtplbiahehondaaaRx9
import Derived.Test.YtplbiahehondaaaWMap
import Derived.Maps.OwnOps
import Derived.Maps.Own
import Derived.IntWalk
import Derived.WalkArith
import Derived.RangeFuncNested
import Derived.RangeFuncBound
import Derived.RangeFuncCalls
import Derived.RangeFuncLeaves
import Derived.Shelf.Abstract
import Derived.WalkKit
import Derived.OwnWalkIn
import Derived.TacticsInMore
import Derived.LoopNIn
import Derived.LoopIn
namespace Go.Proofs.Ytplbiahehondaaa.Rx
open Go.RowKit Go.Proofs.YtplbiahehondaaaW.PrintWords Go.Proofs.YtplbiahehondaaaW.PrintLast Go.Proofs.YtplbiahehondaaaW.PrintMore
attribute [local go_sem] max2_int min2_int max_two min_two max_three min_three max_four min_four
set_option linter.unusedVariables false
set_option linter.unusedSimpArgs false
def impl_RecOk.f (a0_0 : Int) (a0_1 : Int) (a0_2 : Int) (a0_3 : Int) : Option (Bool) := some (recOkB a0_0 a0_1 a0_2 a0_3)
theorem ret_bool {a b : Bool} (h : a = b) : Ending.returned (.bool a) = .returned (.bool b) := by rw [h]
def entryV (a b c d : Int) : Value := if a = 1 then .iface 81 (.agg #[.int .i64 a, .int .i64 b, .int .i64 c, .int .i64 d]) else if a = 2 then .iface 82 (.agg #[.int .i64 a, .int .i64 b, .int .i64 c, .int .i64 d]) else .nilIface
set_option maxHeartbeats 1000000 in
set_option maxRecDepth 100000 in
theorem entryOf_any (a b c d : Int) (w : World) :
 Calls Try.prog 32 #[.agg #[.int .i64 a, .int .i64 b, .int .i64 c, .int .i64 d]] w fun e w' => e = .returned (entryV a b c d) ∧ w' = w.alloc (.cells #[.int .i64 a, .int .i64 b, .int .i64 c, .int .i64 d] 27) := by
 have hu := Try.underlying27
 have hu2 := Try.underlying72
 by_cases c1 : a = 1
 · subst c1
   go_enter Try.func32, Try.ntmps32
   go_wp2
   go_ret
   exact ⟨rfl, rfl⟩
 by_cases c2 : a = 2
 · subst c2
   go_enter Try.func32, Try.ntmps32
   go_wp2
   go_ret
   exact ⟨rfl, rfl⟩
 have b1 : (a == 1) = false := by simpa using c1
 have b2 : (a == 2) = false := by simpa using c2
 have HV := am (show entryV a b c d = .nilIface by unfold entryV; rw [if_neg c1, if_neg c2])
 clear c1 c2
 go_enter Try.func32, Try.ntmps32
 go_wp2
 go_ret
 rw [HV.out]
 exact ⟨rfl, rfl⟩
def addrB (a : Int) : Bool := decide (1 ≤ a ∧ a ≤ 6)
def valB (a : Int) : Bool := decide (0 ≤ a ∧ a ≤ 9)
theorem addrOk_any (a : Int) (w : World) : Calls Try.prog 16 #[.int .i64 a] w fun e w' => e = .returned (.bool (addrB a)) ∧ w = w' := by
 go_enter Try.func16, Try.ntmps16
 go_wp2
 all_goals (go_ret; exact ⟨ret_bool (by unfold addrB; simp; try omega), rfl⟩)
theorem valOk_any (a : Int) (w : World) : Calls Try.prog 33 #[.int .i64 a] w fun e w' => e = .returned (.bool (valB a)) ∧ w = w' := by
 go_enter Try.func33, Try.ntmps33
 go_wp2
 all_goals (go_ret; exact ⟨ret_bool (by unfold valB; simp; try omega), rfl⟩)
theorem recOk_parts (a b c d : Int) : recOkB a b c d = ((decide (a = 1) || decide (a = 2)) && (decide (1 ≤ b) && (decide (b ≤ 600) && (addrB c && valB d)))) := by
 unfold recOkB addrB valB
 rw [Bool.eq_iff_iff]
 simp only [decide_eq_true_eq, Bool.and_eq_true, Bool.or_eq_true]
 constructor <;> rintro ⟨h0, h1, h2, h3, h4⟩ <;> omega
set_option maxHeartbeats 2000000 in
set_option maxRecDepth 100000 in
theorem impl_RecOk.calls (a0_0 : Int) (a0_1 : Int) (a0_2 : Int) (a0_3 : Int) (r : Bool) (w : World) (h : impl_RecOk.f a0_0 a0_1 a0_2 a0_3 = some r) :
 Calls Try.prog 23 #[.agg #[.int .i64 a0_0, .int .i64 a0_1, .int .i64 a0_2, .int .i64 a0_3]] w fun e w' => e = .returned (.bool r) ∧ Below w.heap.size w w' := by
 obtain rfl := Option.some.inj h
 clear h
 have hu := Try.underlying27
 have hu2 := Try.underlying72
 have hb2 : ∀ A B : Obj, Below w.heap.size w ((w.alloc A).alloc B) := fun A B => ((Below.refl _ w).alloc (Nat.le_refl _) A).alloc (by simp) B
 have HE := am hb2
 clear hb2
 have HP := am (recOk_parts a0_0 a0_1 a0_2 a0_3)
 rcases (show (a0_0 = 1 ∨ a0_0 = 2) ∨ (¬ a0_0 = 1 ∧ ¬ a0_0 = 2) by omega) with (c0 | c0) | ⟨c1, c2⟩
 · subst c0
   go_enter Try.func23, Try.ntmps23
   go_wp2_with (first | (go_at_call 32; refine (entryOf_any _ _ _ _ _).mono ?_; rintro e w' ⟨rfl, rfl⟩; simp only [entryV]) | (go_at_call 16; refine (addrOk_any _ _).mono ?_; rintro e w' ⟨rfl, rfl⟩) | (go_at_call 33; refine (valOk_any _ _).mono ?_; rintro e w' ⟨rfl, rfl⟩))
   all_goals go_ret
   all_goals exact ⟨ret_bool (by rw [HP.out]; simp [*]; try (intros; omega)), HE.out _ _⟩
 · subst c0
   go_enter Try.func23, Try.ntmps23
   go_wp2_with (first | (go_at_call 32; refine (entryOf_any _ _ _ _ _).mono ?_; rintro e w' ⟨rfl, rfl⟩; simp only [entryV]) | (go_at_call 16; refine (addrOk_any _ _).mono ?_; rintro e w' ⟨rfl, rfl⟩) | (go_at_call 33; refine (valOk_any _ _).mono ?_; rintro e w' ⟨rfl, rfl⟩))
   all_goals go_ret
   all_goals exact ⟨ret_bool (by rw [HP.out]; simp [*]; try (intros; omega)), HE.out _ _⟩
 · have HV := am (show entryV a0_0 a0_1 a0_2 a0_3 = .nilIface by unfold entryV; rw [if_neg c1, if_neg c2])
   have HF := am (show recOkB a0_0 a0_1 a0_2 a0_3 = false by rw [HP.out]; simp [c1, c2])
   clear c1 c2 HP
   go_enter Try.func23, Try.ntmps23
   go_wp2_with (go_at_call 32; refine (entryOf_any _ _ _ _ _).mono ?_; rintro e w' ⟨rfl, rfl⟩; rw [HV.out])
   all_goals go_ret
   all_goals exact ⟨ret_bool (by rw [HF.out]), HE.out _ _⟩
end Go.Proofs.Ytplbiahehondaaa.Rx
namespace Go.Proofs.Ytplbiahehondaaa.Rx
open Go.RowKit Go.Proofs.YtplbiahehondaaaW.PrintWords Go.Proofs.YtplbiahehondaaaW.PrintLast Go.Proofs.YtplbiahehondaaaW.PrintMore
attribute [local go_sem] max2_int min2_int max_two min_two max_three min_three max_four min_four
set_option linter.unusedVariables false
set_option linter.unusedSimpArgs false
attribute [local go_sem high] eqA27
def impl_pageShape.f (a0_0 : Int) (a0_1 : Int) (a0_2 : Int) (a0_3 : Int) (a0_4 : Int) : Option (Bool) := if a0_0 = 1 then ((impl_RecOk.f a0_1 a0_2 a0_3 a0_4).bind fun t380 => (some t380)) else (if a0_0 = 0 then (some (a0_1 == 0 && (a0_2 == 0 && (a0_3 == 0 && (a0_4 == 0))))) else (if a0_0 = 2 then (some (a0_1 == 0 && (a0_2 == 0 && (a0_3 == 0 && (a0_4 == 0))))) else (some false)))
set_option maxHeartbeats 8000000 in
set_option maxRecDepth 100000 in
theorem impl_pageShape.calls (a0_0 : Int) (a0_1 : Int) (a0_2 : Int) (a0_3 : Int) (a0_4 : Int) (r : Bool) (w : World) (h : impl_pageShape.f a0_0 a0_1 a0_2 a0_3 a0_4 = some r) :
 Calls Try.prog 29 #[.agg #[.int .i64 a0_0, .int .i64 a0_1, .int .i64 a0_2, .int .i64 a0_3, .int .i64 a0_4]] w fun e w' => e = .returned (.bool r) ∧ Below w.heap.size w w' := by
 have hu49 := Try.underlying49
 have hu27 := Try.underlying27
 have HB := am (Below.refl w.heap.size w)
 have H : (if a0_0 = 1 then ((impl_RecOk.f a0_1 a0_2 a0_3 a0_4).bind fun t380 => (some t380)) else (if a0_0 = 0 then (some (a0_1 == 0 && (a0_2 == 0 && (a0_3 == 0 && (a0_4 == 0))))) else (if a0_0 = 2 then (some (a0_1 == 0 && (a0_2 == 0 && (a0_3 == 0 && (a0_4 == 0))))) else (some false)))) = some r := h
 clear h
 by_cases c2 : a0_0 = 1
 · rw [if_pos c2] at H
   have c2b0 : (a0_0 == 1) = true := beq_iff_eq.mpr c2
   have c2b1 : (a0_0 != 1) = false := bne_eq_false_iff_eq.mpr c2
   clear c2
   replace H := Option.bind_eq_some_iff.mp H
   obtain ⟨t380, A30, H⟩ := H
   have A3 := am A30
   clear A30
   obtain rfl := Option.some.inj H
   go_enter Try.func29, Try.ntmps29
   go_wp2_with (first | (refine bx 1 #[.int .i64 a0_0, .int .i64 a0_1, .int .i64 a0_2, .int .i64 a0_3, .int .i64 a0_4] 49 rfl ?_; intro gb379 hg w4 hbox hb; have BK379 := am (hbox); have GW379 := am (ge hg (ph HB.out)); have GE379 := GW379; replace HB := am (below_step (ph HB.out) hb); clear hb hbox hg; obtain ⟨hcz5_0, hcz5_1, hcz5_2, hcz5_3, hcz5_4⟩ := b5 BK379.out; obtain ⟨hfz5_0, hfz5_1, hfz5_2, hfz5_3, hfz5_4⟩ := f5 BK379.out) | (refine gl 9 Try.func23 #[.agg #[.int .i64 a0_1, .int .i64 a0_2, .int .i64 a0_3, .int .i64 a0_4]] rfl ?_; (with_reducible refine (impl_RecOk.calls a0_1 a0_2 a0_3 a0_4 t380 _ A3.out).mono ?_); rintro e w6 ⟨rfl, hb⟩; refine ⟨_, rfl, ?_⟩; replace BK379 := am (blk_below (pb BK379.out) hb); replace HB := am (below_step (bg1 HB.out GE379.out) hb); clear hb))
   go_ret
   exact (rq (bg1 HB.out GE379.out))
 rw [if_neg c2] at H
 have c2b0 : (a0_0 == 1) = false := beq_eq_false_iff_ne.mpr c2
 have c2b1 : (a0_0 != 1) = true := bne_iff_ne.mpr c2
 by_cases c7 : a0_0 = 0
 · rw [if_pos c7] at H
   have c7b0 : (a0_0 == 0) = true := beq_iff_eq.mpr c7
   have c7b1 : (a0_0 != 0) = false := bne_eq_false_iff_eq.mpr c7
   clear c7
   obtain rfl := Option.some.inj H
   go_enter Try.func29, Try.ntmps29
   go_wp2_with (first | (refine bx 1 #[.int .i64 a0_0, .int .i64 a0_1, .int .i64 a0_2, .int .i64 a0_3, .int .i64 a0_4] 49 rfl ?_; intro gb379 hg w8 hbox hb; have BK379 := am (hbox); have GW379 := am (ge hg (ph HB.out)); have GE379 := GW379; replace HB := am (below_step (ph HB.out) hb); clear hb hbox hg; obtain ⟨hcz9_0, hcz9_1, hcz9_2, hcz9_3, hcz9_4⟩ := b5 BK379.out; obtain ⟨hfz9_0, hfz9_1, hfz9_2, hfz9_3, hfz9_4⟩ := f5 BK379.out))
   go_ret
   exact (rq (bg1 HB.out GE379.out))
 rw [if_neg c7] at H
 have c7b0 : (a0_0 == 0) = false := beq_eq_false_iff_ne.mpr c7
 have c7b1 : (a0_0 != 0) = true := bne_iff_ne.mpr c7
 by_cases c10 : a0_0 = 2
 rotate_left
 · rw [if_neg c10] at H
   have c10b0 : (a0_0 == 2) = false := beq_eq_false_iff_ne.mpr c10
   have c10b1 : (a0_0 != 2) = true := bne_iff_ne.mpr c10
   obtain rfl := Option.some.inj H
   go_enter Try.func29, Try.ntmps29
   go_wp2_with (first | (refine bx 1 #[.int .i64 a0_0, .int .i64 a0_1, .int .i64 a0_2, .int .i64 a0_3, .int .i64 a0_4] 49 rfl ?_; intro gb379 hg w13 hbox hb; have BK379 := am (hbox); have GW379 := am (ge hg (ph HB.out)); have GE379 := GW379; replace HB := am (below_step (ph HB.out) hb); clear hb hbox hg; obtain ⟨hcz14_0, hcz14_1, hcz14_2, hcz14_3, hcz14_4⟩ := b5 BK379.out; obtain ⟨hfz14_0, hfz14_1, hfz14_2, hfz14_3, hfz14_4⟩ := f5 BK379.out))
   go_ret
   exact (rq (bg1 HB.out GE379.out))
 rw [if_pos c10] at H
 have c10b0 : (a0_0 == 2) = true := beq_iff_eq.mpr c10
 have c10b1 : (a0_0 != 2) = false := bne_eq_false_iff_eq.mpr c10
 clear c10
 obtain rfl := Option.some.inj H
 go_enter Try.func29, Try.ntmps29
 go_wp2_with (first | (refine bx 1 #[.int .i64 a0_0, .int .i64 a0_1, .int .i64 a0_2, .int .i64 a0_3, .int .i64 a0_4] 49 rfl ?_; intro gb379 hg w11 hbox hb; have BK379 := am (hbox); have GW379 := am (ge hg (ph HB.out)); have GE379 := GW379; replace HB := am (below_step (ph HB.out) hb); clear hb hbox hg; obtain ⟨hcz12_0, hcz12_1, hcz12_2, hcz12_3, hcz12_4⟩ := b5 BK379.out; obtain ⟨hfz12_0, hfz12_1, hfz12_2, hfz12_3, hfz12_4⟩ := f5 BK379.out))
 go_ret
 exact (rq (bg1 HB.out GE379.out))
end Go.Proofs.Ytplbiahehondaaa.Rx
namespace Go.Proofs.Ytplbiahehondaaa.Rx
open Go.RowKit Go.Proofs.YtplbiahehondaaaW.PrintWords Go.Proofs.YtplbiahehondaaaW.PrintLast Go.Proofs.YtplbiahehondaaaW.PrintMore
attribute [local go_sem] max2_int min2_int max_two min_two max_three min_three max_four min_four
set_option linter.unusedVariables false
set_option linter.unusedSimpArgs false
theorem drop_T49 {l : List S49} {i : Nat} (h : i < l.length) : l.drop i = rd_T49 l (i : Int) :: l.drop (i + 1) := by
 rw [List.drop_eq_getElem_cons h]
 simp [rd_T49, List.getD_eq_getElem?_getD, h]
theorem drop_T53 {l : List S53} {i : Nat} (h : i < l.length) : l.drop i = rd_T53 l (i : Int) :: l.drop (i + 1) := by
 rw [List.drop_eq_getElem_cons h]
 simp [rd_T53, List.getD_eq_getElem?_getD, h]
theorem shape_loop (l : List S49) (hl : l.length ≤ maxLen) : ∀ (n i : Nat) (free : Bool), i + n = l.length → impl_blockShape.l0 (n + 1) free l (l.length : Int) (i : Int) = some (shapeB (l.drop i) free)
 | 0, i, free, h => by
  rw [impl_blockShape.l0, if_neg (by omega), List.drop_eq_nil_of_le (by omega)]
  rfl
 | n + 1, i, free, h => by
  have hw : wrap64 ((i : Int) + 1) = ((i + 1 : Nat) : Int) := by
   simp only [maxLen] at hl
   rw [IntWalk.wrap64_in _ (by omega)]
   omega
  rw [impl_blockShape.l0, if_pos (by omega), if_pos (by omega), if_pos (by omega), drop_T49 (by omega), shapeB, hw]
  have ih := fun f => shape_loop l hl n (i + 1) f (by omega)
  by_cases hf : free = true
  rotate_left
  · rw [if_neg hf, if_neg (fun h => hf h.1)]
    exact ih _
  by_cases hs : (rd_T49 l (i : Int)).f0 = 0
  rotate_left
  · rw [if_pos hf, if_neg hs, if_pos ⟨hf, hs⟩]
  rw [if_pos hf, if_pos hs, if_neg (by simp [hs])]
  exact ih _
theorem blockShape_ok (b : S53) (hl : b.f0.length ≤ maxLen) : ∃ k, impl_blockShape.f k b.f0 b.f1 = some (blockB b) := by
 refine ⟨b.f0.length + 2, ?_⟩
 have key := shape_loop b.f0 hl b.f0.length 0 false (by omega)
 unfold impl_blockShape.f blockB
 by_cases h1 : (b.f0.length : Int) = 4
 rotate_left
 · rw [if_neg h1, impl_blockShape.j0, if_pos rfl]
   simp [h1]
 rw [if_pos h1]
 by_cases h2 : b.f1 < 0
 · rw [if_pos h2, impl_blockShape.j0, if_pos rfl]
   simp
   intro _ h
   omega
 rw [if_neg h2]
 by_cases h3 : b.f1 > 200
 · rw [decide_eq_true h3, impl_blockShape.j0, if_pos rfl]
   simp
   intro _ _ h
   omega
 rw [decide_eq_false h3, impl_blockShape.j0, if_neg (by simp)]
 have : decide ((b.f0.length : Int) = 4 ∧ 0 ≤ b.f1 ∧ b.f1 ≤ 200) = true := decide_eq_true ⟨h1, by omega, by omega⟩
 rw [this, Bool.true_and]
 exact key
theorem pageShape_ok (p : S49) : impl_pageShape.f p.f0 p.f1.f0 p.f1.f1 p.f1.f2 p.f1.f3 = some (pageB p) := by
 unfold impl_pageShape.f pageB impl_RecOk.f
 by_cases h1 : p.f0 = 1
 · rw [if_pos h1, if_pos h1]
   rfl
 rw [if_neg h1, if_neg h1]
 by_cases h2 : p.f0 = 0
 · rw [if_pos h2, if_pos (Or.inl h2)]
 by_cases h3 : p.f0 = 2
 rotate_left
 · rw [if_neg h2, if_neg h3, if_neg (by omega)]
 rw [if_neg h2, if_pos h3, if_pos (Or.inr h3)]
def impl_FlashOk.f (l0 : List (S53)) : Option (Bool) := some (flashOkB l0)
set_option maxHeartbeats 8000000 in
set_option maxRecDepth 100000 in
theorem impl_FlashOk.calls (A0 : Option Addr) (c0 : Nat) (l0 : List (S53)) (r : Bool) (w : World) (hr0 : Kd.C k53 w A0 l0.length l0) (hc0 : l0.length ≤ c0) (h : impl_FlashOk.f l0 = some r) :
 Calls Try.prog 17 #[.slice A0 l0.length c0] w fun e w' => e = .returned (.bool r) ∧ Below w.heap.size w w' := by
 have hu53 := Try.underlying53
 have hu49 := Try.underlying49
 have hu27 := Try.underlying27
 obtain rfl : r = flashOkB l0 := (Option.some.inj h).symm
 clear h
 by_cases c : (l0.length : Int) = 4
 rotate_left
 · have cb : ((l0.length : Int) != 4) = true := by simp [c]
   go_enter Try.func17, Try.ntmps17
   go_wp2
   go_ret
   exact ⟨by simp [flashOkB, c], Below.refl _ _⟩
 have cb : ((l0.length : Int) != 4) = false := by simp [c]
 have HE : Aside0 (flashOkB l0 = blocksB l0 []) := ⟨by unfold flashOkB; rw [decide_eq_true c, Bool.true_and]⟩
 have C := am c
 clear c
 have hmm := @run_makeMap Try.prog
 go_enter Try.func17, Try.ntmps17
 go_wp2
 have HS := am (Go.Proofs.YtplbiahehondaaaW.SeenIs.made (P := Try.prog) (K := 3) (E := 3) w)
 have HB : Aside0 (Below w.heap.size w (w.alloc (.map #[] 0))) := ⟨below_alloc (Below.refl _ _) _⟩
 generalize hB : w.heap.size = B at HS
 have HBB := am hB
 clear hB
 generalize w.alloc (.map #[] 0) = w1 at HS HB ⊢
 go_loopg [14, 5, 7] (l0.length + 1) (fun kq v14 v5 v7 w' => ∃ (i : Nat) (S : List Int), v14 = .int .i64 (i : Int) ∧ Aside0 (kq + i = l0.length + 1) ∧ Aside0 (i ≤ l0.length) ∧ Aside0 (blocksB (l0.drop i) S = blocksB l0 []) ∧ Aside0 (S.length ≤ 4 * i) ∧ Aside0 (Go.Proofs.YtplbiahehondaaaW.SeenIs Try.prog 3 3 w' B S.length S) ∧ Aside0 (Below w.heap.size w w'))
 case atStart => exact ⟨0, [], rfl, ⟨rfl⟩, ⟨Nat.zero_le _⟩, ⟨by simp⟩, ⟨by simp⟩, HS, HB⟩
 case round =>
  clear HS HB
  obtain ⟨i, S, rfl, HK, HI, HP, HN, HS, HB⟩ := hrel
  obtain ⟨k1, rfl⟩ : ∃ k, gk = k + 1 := by
   have hsz : (l0.length : Int) = 4 := C.out
   have := HK.out
   have := HI.out
   exact ⟨gk - 1, by omega⟩
  have hsz : (l0.length : Int) = 4 := C.out
  have hw14 : wrap64 ((i : Int) + 1) = ((i + 1 : Nat) : Int) := by have := HI.out; rw [IntWalk.wrap64_in _ (by omega)]; omega
  by_cases ci : i < l0.length
  rotate_left
  · have cib : decide ((i : Int) < (l0.length : Int)) = false := decide_eq_false (by omega)
    have HP2 := HP.out
    rw [List.drop_eq_nil_of_le (by omega), blocksB] at HP2
    have HF : Aside0 (flashOkB l0 = true) := ⟨by rw [HE.out]; exact HP2.symm⟩
    have ci2 : ¬ ((i : Int) < (l0.length : Int)) := by omega
    clear hsz HP2
    go_wp2
    go_ret
    exact ⟨by rw [HF.out]; rfl, HB.out⟩
  have cib : decide ((i : Int) < (l0.length : Int)) = true := decide_eq_true (by omega)
  have p1 : 0 ≤ (i : Int) := by omega
  have q1 : (i : Int) < (l0.length : Int) := by omega
  obtain ⟨ad1, A1, c1, e1, hx1_0, hx1_1, hl1, hi1⟩ := at_T53 hr0 (i : Int) p1 q1
  cases e1
  have hlm1 : (rd_T53 l0 (i : Int)).f0.length ≤ maxLen := Kd.C_max hi1
  replace hx1_0 := up HB.out hx1_0
  replace hx1_1 := up HB.out hx1_1
  simp only [Int.toNat_natCast] at hx1_0 hx1_1
  obtain ⟨kb, hkb⟩ := blockShape_ok (rd_T53 l0 (i : Int)) hlm1
  replace hkb := am hkb
  have HP2 := HP.out
  rw [drop_T53 ci, blocksB] at HP2
  cases hbb : blockB (rd_T53 l0 (i : Int)) with
  | false =>
   rw [hbb] at hkb
   rw [hbb, Bool.false_and] at HP2
   have HF : Aside0 (flashOkB l0 = false) := ⟨by rw [HE.out]; exact HP2.symm⟩
   replace hi1 := am hi1
   replace p1 := eq_true p1
   replace q1 := eq_true q1
   clear hsz ci HP2 hbb
   go_wp2_with (first | (refine bx 5 #[.slice none 0 0, .int .i64 0] 53 rfl ?_; intro g1 hg w6 hbox hb; have n0_ := am (below_step HB.out hb); have n1_ := am hbox; have GE1 := am ((by rw [hg]; exact below_size HB.out) : w.heap.size ≤ g1); have NE1 := am ((by rw [hg]; exact Nat.ne_of_lt HS.out.lt) : B ≠ g1); have n2_ := am (HS.out.below hb); clear HB HS; have HB := n0_; have BK1 := n1_; have HS := n2_; clear n0_ n1_ n2_; obtain ⟨hczg1_0, hczg1_1⟩ := b2 hbox; obtain ⟨hfzg1_0, hfzg1_1⟩ := f2 hbox; clear hb hbox hg) | ((with_reducible refine gate_callee (f := 28) rfl ?_); refine goesL_ (some 19) rfl rfl Try.func28 (by kernel_rfl) rfl #[.agg #[.slice A1 (rd_T53 l0 (i : Int)).f0.length c1, .int .i64 (rd_T53 l0 (i : Int)).f1]] rfl (by (try simp only [List.map_toArray, List.map_cons, List.map_nil]); first | done | rfl) ?_; (with_reducible refine (impl_blockShape.calls kb _ _ _ _ _ _ ?side1 ?side2 hkb.out).mono ?_); (case side1 => exact Kd.C_below hi1.out (bg1 HB.out GE1.out)); (case side2 => exact hl1); rintro e w2 ⟨rfl, hb⟩; refine ⟨_, rfl, ?_⟩; have n0_ := am (below_step (bg1 HB.out GE1.out) hb); have n1_ := am (blk_below (blk_put (cs := #[.slice A1 (rd_T53 l0 (i : Int)).f0.length c1, .int .i64 0]) (blk_put (cs := #[.slice none 0 0, .int .i64 0]) BK1.out 0 _ rfl) 1 _ rfl) hb); have n2_ := am (((HS.out.far (p := ⟨g1, 0, none⟩) NE1.out _).far (p := ⟨g1, 1, none⟩) NE1.out _).below hb); clear HB BK1 HS; have HB := n0_; have BK1 := n1_; have HS := n2_; clear n0_ n1_ n2_; clear hb hczg1_0 hczg1_1 hfzg1_0 hfzg1_1; have hy1_0 := (blk_cell BK1.out 0).trans rfl; have hy1_1 := (blk_cell BK1.out 1).trans rfl))
   go_ret
   exact ⟨by rw [HF.out]; rfl, HB.out⟩
  | true =>
   rw [hbb] at hkb
   rw [hbb, Bool.true_and] at HP2
   replace HP2 := am HP2
   have hbl : (rd_T53 l0 (i : Int)).f0.length = 4 := by
    unfold blockB at hbb
    simp only [Bool.and_eq_true, decide_eq_true_eq] at hbb
    omega
   replace hbl := am hbl
   replace hi1 := am hi1
   replace p1 := eq_true p1
   replace q1 := eq_true q1
   have CI := am ci
   clear hsz ci hbb
   go_wp2_with (first | (refine bx 5 #[.slice none 0 0, .int .i64 0] 53 rfl ?_; intro g1 hg w6 hbox hb; have n0_ := am (below_step HB.out hb); have n1_ := am hbox; have GE1 := am ((by rw [hg]; exact below_size HB.out) : w.heap.size ≤ g1); have NE1 := am ((by rw [hg]; exact Nat.ne_of_lt HS.out.lt) : B ≠ g1); have n2_ := am (HS.out.below hb); clear HB HS; have HB := n0_; have BK1 := n1_; have HS := n2_; clear n0_ n1_ n2_; obtain ⟨hczg1_0, hczg1_1⟩ := b2 hbox; obtain ⟨hfzg1_0, hfzg1_1⟩ := f2 hbox; clear hb hbox hg) | ((with_reducible refine gate_callee (f := 28) rfl ?_); refine goesL_ (some 19) rfl rfl Try.func28 (by kernel_rfl) rfl #[.agg #[.slice A1 (rd_T53 l0 (i : Int)).f0.length c1, .int .i64 (rd_T53 l0 (i : Int)).f1]] rfl (by (try simp only [List.map_toArray, List.map_cons, List.map_nil]); first | done | rfl) ?_; (with_reducible refine (impl_blockShape.calls kb _ _ _ _ _ _ ?side1 ?side2 hkb.out).mono ?_); (case side1 => exact Kd.C_below hi1.out (bg1 HB.out GE1.out)); (case side2 => exact hl1); rintro e w2 ⟨rfl, hb⟩; refine ⟨_, rfl, ?_⟩; have n0_ := am (below_step (bg1 HB.out GE1.out) hb); have n1_ := am (blk_below (blk_put (cs := #[.slice A1 (rd_T53 l0 (i : Int)).f0.length c1, .int .i64 0]) (blk_put (cs := #[.slice none 0 0, .int .i64 0]) BK1.out 0 _ rfl) 1 _ rfl) hb); have n2_ := am (((HS.out.far (p := ⟨g1, 0, none⟩) NE1.out _).far (p := ⟨g1, 1, none⟩) NE1.out _).below hb); clear HB BK1 HS; have HB := n0_; have BK1 := n1_; have HS := n2_; clear n0_ n1_ n2_; clear hb hczg1_0 hczg1_1 hfzg1_0 hfzg1_1; have hy1_0 := (blk_cell BK1.out 0).trans rfl; have hy1_1 := (blk_cell BK1.out 1).trans rfl))
   have NB1 : Aside0 (some g1 ≠ some B) := ⟨fun e => NE1.out (by injection e with e; exact e.symm)⟩
   go_loopg [24, 7] ((rd_T53 l0 (i : Int)).f0.length + 1) (fun kq v24 v7 w' => ∃ (j : Nat) (S2 : List Int), v24 = .int .i64 (j : Int) ∧ Aside0 (kq + j = (rd_T53 l0 (i : Int)).f0.length + 1) ∧ Aside0 (j ≤ (rd_T53 l0 (i : Int)).f0.length) ∧ Aside0 (pagesB ((rd_T53 l0 (i : Int)).f0.drop j) S2 = pagesB (rd_T53 l0 (i : Int)).f0 S) ∧ Aside0 (S2.length ≤ 4 * i + j) ∧ Aside0 (Go.Proofs.YtplbiahehondaaaW.SeenIs Try.prog 3 3 w' B S2.length S2) ∧ Aside0 (w'.heap[g1]? = some (.cells #[.slice A1 (rd_T53 l0 (i : Int)).f0.length c1, .int .i64 (rd_T53 l0 (i : Int)).f1] 53 (0, 0))) ∧ Aside0 (Below w.heap.size w w'))
   case atStart => exact ⟨0, S, rfl, ⟨rfl⟩, ⟨Nat.zero_le _⟩, ⟨by simp⟩, ⟨by have := HN.out; omega⟩, HS, BK1, HB⟩
   case round =>
    clear HS HB BK1 hy1_0 hy1_1
    obtain ⟨j, S2, rfl, HK2, HJ, HQ, HM, HS, BK1, HB⟩ := hrel
    have hbl' := hbl.out
    have hii : i < l0.length := CI.out
    have hsz : (l0.length : Int) = 4 := C.out
    obtain ⟨k2, rfl⟩ : ∃ k, gk = k + 1 := by
     have := HK2.out
     have := HJ.out
     exact ⟨gk - 1, by omega⟩
    by_cases cj : j < (rd_T53 l0 (i : Int)).f0.length
    rotate_left
    · have cjb : decide ((j : Int) < ((rd_T53 l0 (i : Int)).f0.length : Int)) = false := decide_eq_false (by omega)
      have HQ2 := HQ.out
      rw [List.drop_eq_nil_of_le (by omega), pagesB] at HQ2
      have HP3 := HP2.out
      rw [← HQ2] at HP3
      have HP4 := am HP3
      have hjl : j = (rd_T53 l0 (i : Int)).f0.length := by have := HJ.out; omega
      have HN2 : Aside0 (S2.length ≤ 4 * (i + 1)) := ⟨by have := HM.out; omega⟩
      have cj2 : ¬ ((j : Int) < ((rd_T53 l0 (i : Int)).f0.length : Int)) := by omega
      clear hsz hii hbl' HQ2 HP3 hjl
      go_wp2
      go_roundg k1
      case measure => omega
      case rel => exact ⟨i + 1, S2, by first | rfl | (simp; done) | (simp [*]; done), ⟨by have := HK.out; omega⟩, ⟨CI.out⟩, HP4, HN2, HS, HB⟩
    have cjb : decide ((j : Int) < ((rd_T53 l0 (i : Int)).f0.length : Int)) = true := decide_eq_true (by omega)
    have p2 : 0 ≤ (j : Int) := by omega
    have q2 : (j : Int) < ((rd_T53 l0 (i : Int)).f0.length : Int) := by omega
    obtain ⟨ad2, e2, hx2_0, hx2_1, hx2_2, hx2_3, hx2_4⟩ := at_T49 hi1.out (j : Int) p2 q2
    cases e2
    replace hx2_0 := up HB.out hx2_0
    replace hx2_1 := up HB.out hx2_1
    replace hx2_2 := up HB.out hx2_2
    replace hx2_3 := up HB.out hx2_3
    replace hx2_4 := up HB.out hx2_4
    simp only [Int.toNat_natCast] at hx2_0 hx2_1 hx2_2 hx2_3 hx2_4
    have hkp := am (pageShape_ok (rd_T49 (rd_T53 l0 (i : Int)).f0 (j : Int)))
    have HQ2 := HQ.out
    rw [drop_T49 cj, pagesB] at HQ2
    have hw24 : wrap64 ((j : Int) + 1) = ((j + 1 : Nat) : Int) := by rw [IntWalk.wrap64_in _ (by omega)]; omega
    have hnm : Aside0 (S2.length < maxLen) := ⟨by have := HM.out; simp only [maxLen]; omega⟩
    replace p2 := eq_true p2
    replace q2 := eq_true q2
    have CJ := am cj
    clear hsz hii hbl' cj
    cases hpb : pageB (rd_T49 (rd_T53 l0 (i : Int)).f0 (j : Int)) with
    | false =>
     rw [hpb] at hkp
     rw [hpb, if_neg (by simp)] at HQ2
     have HF : Aside0 (flashOkB l0 = false) := ⟨by rw [HE.out, ← HP2.out, ← HQ2]⟩
     clear HQ2 hpb
     go_wp2_with (first | (refine bx 7 #[.int .i64 0, .int .i64 0, .int .i64 0, .int .i64 0, .int .i64 0] 49 rfl ?_; intro g2 hg w7 hbox hb; have n0_ := am (below_step HB.out hb); have n1_ := am hbox; have GE2 := am ((by rw [hg]; exact below_size HB.out) : w.heap.size ≤ g2); have NE2 := am ((by rw [hg]; exact Nat.ne_of_lt HS.out.lt) : B ≠ g2); have NG2 := am ((by rw [hg]; exact Nat.ne_of_lt (blk_lt BK1.out)) : g1 ≠ g2); have n2_ := am (HS.out.below hb); have n3_ := am (blk_below BK1.out hb); clear HB HS BK1; have HB := n0_; have BK2 := n1_; have HS := n2_; have BK1 := n3_; clear n0_ n1_ n2_ n3_; have hnz2_0 := NG2.out; obtain ⟨hczg2_0, hczg2_1, hczg2_2, hczg2_3, hczg2_4⟩ := b5 hbox; obtain ⟨hfzg2_0, hfzg2_1, hfzg2_2, hfzg2_3, hfzg2_4⟩ := f5 hbox; clear hb hbox hg) | ((with_reducible refine gate_callee (f := 29) rfl ?_); refine goesL_ (some 29) rfl rfl Try.func29 (by kernel_rfl) rfl #[.agg #[.int .i64 (rd_T49 (rd_T53 l0 (i : Int)).f0 (j : Int)).f0, .int .i64 (rd_T49 (rd_T53 l0 (i : Int)).f0 (j : Int)).f1.f0, .int .i64 (rd_T49 (rd_T53 l0 (i : Int)).f0 (j : Int)).f1.f1, .int .i64 (rd_T49 (rd_T53 l0 (i : Int)).f0 (j : Int)).f1.f2, .int .i64 (rd_T49 (rd_T53 l0 (i : Int)).f0 (j : Int)).f1.f3]] rfl (by (try simp only [List.map_toArray, List.map_cons, List.map_nil]); first | done | rfl) ?_; (with_reducible refine (impl_pageShape.calls _ _ _ _ _ _ _ hkp.out).mono ?_); rintro e w3 ⟨rfl, hb⟩; refine ⟨_, rfl, ?_⟩; have n0_ := am (below_step (bg2 HB.out GE1.out GE2.out) hb); have n1_ := am (blk_below (blk_put (cs := #[.int .i64 (rd_T49 (rd_T53 l0 (i : Int)).f0 (j : Int)).f0, .int .i64 (rd_T49 (rd_T53 l0 (i : Int)).f0 (j : Int)).f1.f0, .int .i64 (rd_T49 (rd_T53 l0 (i : Int)).f0 (j : Int)).f1.f1, .int .i64 (rd_T49 (rd_T53 l0 (i : Int)).f0 (j : Int)).f1.f2, .int .i64 0]) (blk_put (cs := #[.int .i64 (rd_T49 (rd_T53 l0 (i : Int)).f0 (j : Int)).f0, .int .i64 (rd_T49 (rd_T53 l0 (i : Int)).f0 (j : Int)).f1.f0, .int .i64 (rd_T49 (rd_T53 l0 (i : Int)).f0 (j : Int)).f1.f1, .int .i64 0, .int .i64 0]) (blk_put (cs := #[.int .i64 (rd_T49 (rd_T53 l0 (i : Int)).f0 (j : Int)).f0, .int .i64 (rd_T49 (rd_T53 l0 (i : Int)).f0 (j : Int)).f1.f0, .int .i64 0, .int .i64 0, .int .i64 0]) (blk_put (cs := #[.int .i64 (rd_T49 (rd_T53 l0 (i : Int)).f0 (j : Int)).f0, .int .i64 0, .int .i64 0, .int .i64 0, .int .i64 0]) (blk_put (cs := #[.int .i64 0, .int .i64 0, .int .i64 0, .int .i64 0, .int .i64 0]) BK2.out 0 _ rfl) 1 _ rfl) 2 _ rfl) 3 _ rfl) 4 _ rfl) hb); have n2_ := am ((((((HS.out.far (p := ⟨g2, 0, none⟩) NE2.out _).far (p := ⟨g2, 1, none⟩) NE2.out _).far (p := ⟨g2, 2, none⟩) NE2.out _).far (p := ⟨g2, 3, none⟩) NE2.out _).far (p := ⟨g2, 4, none⟩) NE2.out _).below hb); have n3_ := am (blk_below (blk_far (blk_far (blk_far (blk_far (blk_far BK1.out (p := ⟨g2, 0, none⟩) NG2.out _) (p := ⟨g2, 1, none⟩) NG2.out _) (p := ⟨g2, 2, none⟩) NG2.out _) (p := ⟨g2, 3, none⟩) NG2.out _) (p := ⟨g2, 4, none⟩) NG2.out _) hb); clear HB BK1 BK2 HS; have HB := n0_; have BK2 := n1_; have HS := n2_; have BK1 := n3_; clear n0_ n1_ n2_ n3_; clear hb hczg2_0 hfzg2_0 hczg2_1 hfzg2_1 hczg2_2 hfzg2_2 hczg2_3 hfzg2_3 hczg2_4 hfzg2_4; have hy2_0 := (blk_cell BK2.out 0).trans rfl; have hy2_1 := (blk_cell BK2.out 1).trans rfl; have hy2_2 := (blk_cell BK2.out 2).trans rfl; have hy2_3 := (blk_cell BK2.out 3).trans rfl; have hy2_4 := (blk_cell BK2.out 4).trans rfl))
     go_ret
     exact ⟨by rw [HF.out]; rfl, HB.out⟩
    | true =>
     rw [hpb] at hkp
     rw [hpb, if_pos rfl] at HQ2
     by_cases cs : (rd_T49 (rd_T53 l0 (i : Int)).f0 (j : Int)).f0 = 1
     rotate_left
     · have cs0 : ((rd_T49 (rd_T53 l0 (i : Int)).f0 (j : Int)).f0 == 1) = false := beq_eq_false_iff_ne.mpr cs
       have cs1 : ((rd_T49 (rd_T53 l0 (i : Int)).f0 (j : Int)).f0 != 1) = true := bne_iff_ne.mpr cs
       rw [if_neg cs] at HQ2
       have HQ3 := am HQ2
       clear HQ2 hpb cs
       go_wp2_with (first | (refine bx 7 #[.int .i64 0, .int .i64 0, .int .i64 0, .int .i64 0, .int .i64 0] 49 rfl ?_; intro g2 hg w7 hbox hb; have n0_ := am (below_step HB.out hb); have n1_ := am hbox; have GE2 := am ((by rw [hg]; exact below_size HB.out) : w.heap.size ≤ g2); have NE2 := am ((by rw [hg]; exact Nat.ne_of_lt HS.out.lt) : B ≠ g2); have NG2 := am ((by rw [hg]; exact Nat.ne_of_lt (blk_lt BK1.out)) : g1 ≠ g2); have n2_ := am (HS.out.below hb); have n3_ := am (blk_below BK1.out hb); clear HB HS BK1; have HB := n0_; have BK2 := n1_; have HS := n2_; have BK1 := n3_; clear n0_ n1_ n2_ n3_; have hnz2_0 := NG2.out; obtain ⟨hczg2_0, hczg2_1, hczg2_2, hczg2_3, hczg2_4⟩ := b5 hbox; obtain ⟨hfzg2_0, hfzg2_1, hfzg2_2, hfzg2_3, hfzg2_4⟩ := f5 hbox; clear hb hbox hg) | ((with_reducible refine gate_callee (f := 29) rfl ?_); refine goesL_ (some 29) rfl rfl Try.func29 (by kernel_rfl) rfl #[.agg #[.int .i64 (rd_T49 (rd_T53 l0 (i : Int)).f0 (j : Int)).f0, .int .i64 (rd_T49 (rd_T53 l0 (i : Int)).f0 (j : Int)).f1.f0, .int .i64 (rd_T49 (rd_T53 l0 (i : Int)).f0 (j : Int)).f1.f1, .int .i64 (rd_T49 (rd_T53 l0 (i : Int)).f0 (j : Int)).f1.f2, .int .i64 (rd_T49 (rd_T53 l0 (i : Int)).f0 (j : Int)).f1.f3]] rfl (by (try simp only [List.map_toArray, List.map_cons, List.map_nil]); first | done | rfl) ?_; (with_reducible refine (impl_pageShape.calls _ _ _ _ _ _ _ hkp.out).mono ?_); rintro e w3 ⟨rfl, hb⟩; refine ⟨_, rfl, ?_⟩; have n0_ := am (below_step (bg2 HB.out GE1.out GE2.out) hb); have n1_ := am (blk_below (blk_put (cs := #[.int .i64 (rd_T49 (rd_T53 l0 (i : Int)).f0 (j : Int)).f0, .int .i64 (rd_T49 (rd_T53 l0 (i : Int)).f0 (j : Int)).f1.f0, .int .i64 (rd_T49 (rd_T53 l0 (i : Int)).f0 (j : Int)).f1.f1, .int .i64 (rd_T49 (rd_T53 l0 (i : Int)).f0 (j : Int)).f1.f2, .int .i64 0]) (blk_put (cs := #[.int .i64 (rd_T49 (rd_T53 l0 (i : Int)).f0 (j : Int)).f0, .int .i64 (rd_T49 (rd_T53 l0 (i : Int)).f0 (j : Int)).f1.f0, .int .i64 (rd_T49 (rd_T53 l0 (i : Int)).f0 (j : Int)).f1.f1, .int .i64 0, .int .i64 0]) (blk_put (cs := #[.int .i64 (rd_T49 (rd_T53 l0 (i : Int)).f0 (j : Int)).f0, .int .i64 (rd_T49 (rd_T53 l0 (i : Int)).f0 (j : Int)).f1.f0, .int .i64 0, .int .i64 0, .int .i64 0]) (blk_put (cs := #[.int .i64 (rd_T49 (rd_T53 l0 (i : Int)).f0 (j : Int)).f0, .int .i64 0, .int .i64 0, .int .i64 0, .int .i64 0]) (blk_put (cs := #[.int .i64 0, .int .i64 0, .int .i64 0, .int .i64 0, .int .i64 0]) BK2.out 0 _ rfl) 1 _ rfl) 2 _ rfl) 3 _ rfl) 4 _ rfl) hb); have n2_ := am ((((((HS.out.far (p := ⟨g2, 0, none⟩) NE2.out _).far (p := ⟨g2, 1, none⟩) NE2.out _).far (p := ⟨g2, 2, none⟩) NE2.out _).far (p := ⟨g2, 3, none⟩) NE2.out _).far (p := ⟨g2, 4, none⟩) NE2.out _).below hb); have n3_ := am (blk_below (blk_far (blk_far (blk_far (blk_far (blk_far BK1.out (p := ⟨g2, 0, none⟩) NG2.out _) (p := ⟨g2, 1, none⟩) NG2.out _) (p := ⟨g2, 2, none⟩) NG2.out _) (p := ⟨g2, 3, none⟩) NG2.out _) (p := ⟨g2, 4, none⟩) NG2.out _) hb); clear HB BK1 BK2 HS; have HB := n0_; have BK2 := n1_; have HS := n2_; have BK1 := n3_; clear n0_ n1_ n2_ n3_; clear hb hczg2_0 hfzg2_0 hczg2_1 hfzg2_1 hczg2_2 hfzg2_2 hczg2_3 hfzg2_3 hczg2_4 hfzg2_4; have hy2_0 := (blk_cell BK2.out 0).trans rfl; have hy2_1 := (blk_cell BK2.out 1).trans rfl; have hy2_2 := (blk_cell BK2.out 2).trans rfl; have hy2_3 := (blk_cell BK2.out 3).trans rfl; have hy2_4 := (blk_cell BK2.out 4).trans rfl))
       go_roundg k2
       case measure => omega
       case rel => exact ⟨j + 1, S2, by first | rfl | (simp; done) | (simp [*]; done), ⟨by have := HK2.out; omega⟩, ⟨CJ.out⟩, HQ3, ⟨by have := HM.out; omega⟩, HS, BK1, HB⟩
     have cs0 : ((rd_T49 (rd_T53 l0 (i : Int)).f0 (j : Int)).f0 == 1) = true := beq_iff_eq.mpr cs
     have cs1 : ((rd_T49 (rd_T53 l0 (i : Int)).f0 (j : Int)).f0 != 1) = false := bne_eq_false_iff_eq.mpr cs
     have hwf : Aside0 ((Lit.int .i64 (rd_T49 (rd_T53 l0 (i : Int)).f0 (j : Int)).f1.f1).wf = true) := ⟨by
      unfold pageB at hpb
      rw [if_pos cs] at hpb
      simp only [recOkB, decide_eq_true_eq] at hpb
      exact WalkArith.wf_i64 ⟨by omega, by omega⟩⟩
     rw [if_pos cs] at HQ2
     by_cases hm : (rd_T49 (rd_T53 l0 (i : Int)).f0 (j : Int)).f1.f1 ∈ S2
     · rw [if_pos hm] at HQ2
       have HF : Aside0 (flashOkB l0 = false) := ⟨by rw [HE.out, ← HP2.out, ← HQ2]⟩
       have HM2 := am hm
       clear HQ2 hpb cs hm
       go_wp2_with (first | (refine bx 7 #[.int .i64 0, .int .i64 0, .int .i64 0, .int .i64 0, .int .i64 0] 49 rfl ?_; intro g2 hg w7 hbox hb; have n0_ := am (below_step HB.out hb); have n1_ := am hbox; have GE2 := am ((by rw [hg]; exact below_size HB.out) : w.heap.size ≤ g2); have NE2 := am ((by rw [hg]; exact Nat.ne_of_lt HS.out.lt) : B ≠ g2); have NG2 := am ((by rw [hg]; exact Nat.ne_of_lt (blk_lt BK1.out)) : g1 ≠ g2); have n2_ := am (HS.out.below hb); have n3_ := am (blk_below BK1.out hb); clear HB HS BK1; have HB := n0_; have BK2 := n1_; have HS := n2_; have BK1 := n3_; clear n0_ n1_ n2_ n3_; have hnz2_0 := NG2.out; obtain ⟨hczg2_0, hczg2_1, hczg2_2, hczg2_3, hczg2_4⟩ := b5 hbox; obtain ⟨hfzg2_0, hfzg2_1, hfzg2_2, hfzg2_3, hfzg2_4⟩ := f5 hbox; clear hb hbox hg) | ((with_reducible refine gate_callee (f := 29) rfl ?_); refine goesL_ (some 29) rfl rfl Try.func29 (by kernel_rfl) rfl #[.agg #[.int .i64 (rd_T49 (rd_T53 l0 (i : Int)).f0 (j : Int)).f0, .int .i64 (rd_T49 (rd_T53 l0 (i : Int)).f0 (j : Int)).f1.f0, .int .i64 (rd_T49 (rd_T53 l0 (i : Int)).f0 (j : Int)).f1.f1, .int .i64 (rd_T49 (rd_T53 l0 (i : Int)).f0 (j : Int)).f1.f2, .int .i64 (rd_T49 (rd_T53 l0 (i : Int)).f0 (j : Int)).f1.f3]] rfl (by (try simp only [List.map_toArray, List.map_cons, List.map_nil]); first | done | rfl) ?_; (with_reducible refine (impl_pageShape.calls _ _ _ _ _ _ _ hkp.out).mono ?_); rintro e w3 ⟨rfl, hb⟩; refine ⟨_, rfl, ?_⟩; have n0_ := am (below_step (bg2 HB.out GE1.out GE2.out) hb); have n1_ := am (blk_below (blk_put (cs := #[.int .i64 (rd_T49 (rd_T53 l0 (i : Int)).f0 (j : Int)).f0, .int .i64 (rd_T49 (rd_T53 l0 (i : Int)).f0 (j : Int)).f1.f0, .int .i64 (rd_T49 (rd_T53 l0 (i : Int)).f0 (j : Int)).f1.f1, .int .i64 (rd_T49 (rd_T53 l0 (i : Int)).f0 (j : Int)).f1.f2, .int .i64 0]) (blk_put (cs := #[.int .i64 (rd_T49 (rd_T53 l0 (i : Int)).f0 (j : Int)).f0, .int .i64 (rd_T49 (rd_T53 l0 (i : Int)).f0 (j : Int)).f1.f0, .int .i64 (rd_T49 (rd_T53 l0 (i : Int)).f0 (j : Int)).f1.f1, .int .i64 0, .int .i64 0]) (blk_put (cs := #[.int .i64 (rd_T49 (rd_T53 l0 (i : Int)).f0 (j : Int)).f0, .int .i64 (rd_T49 (rd_T53 l0 (i : Int)).f0 (j : Int)).f1.f0, .int .i64 0, .int .i64 0, .int .i64 0]) (blk_put (cs := #[.int .i64 (rd_T49 (rd_T53 l0 (i : Int)).f0 (j : Int)).f0, .int .i64 0, .int .i64 0, .int .i64 0, .int .i64 0]) (blk_put (cs := #[.int .i64 0, .int .i64 0, .int .i64 0, .int .i64 0, .int .i64 0]) BK2.out 0 _ rfl) 1 _ rfl) 2 _ rfl) 3 _ rfl) 4 _ rfl) hb); have n2_ := am ((((((HS.out.far (p := ⟨g2, 0, none⟩) NE2.out _).far (p := ⟨g2, 1, none⟩) NE2.out _).far (p := ⟨g2, 2, none⟩) NE2.out _).far (p := ⟨g2, 3, none⟩) NE2.out _).far (p := ⟨g2, 4, none⟩) NE2.out _).below hb); have n3_ := am (blk_below (blk_far (blk_far (blk_far (blk_far (blk_far BK1.out (p := ⟨g2, 0, none⟩) NG2.out _) (p := ⟨g2, 1, none⟩) NG2.out _) (p := ⟨g2, 2, none⟩) NG2.out _) (p := ⟨g2, 3, none⟩) NG2.out _) (p := ⟨g2, 4, none⟩) NG2.out _) hb); clear HB BK1 BK2 HS; have HB := n0_; have BK2 := n1_; have HS := n2_; have BK1 := n3_; clear n0_ n1_ n2_ n3_; clear hb hczg2_0 hfzg2_0 hczg2_1 hfzg2_1 hczg2_2 hfzg2_2 hczg2_3 hfzg2_3 hczg2_4 hfzg2_4; have hy2_0 := (blk_cell BK2.out 0).trans rfl; have hy2_1 := (blk_cell BK2.out 1).trans rfl; have hy2_2 := (blk_cell BK2.out 2).trans rfl; have hy2_3 := (blk_cell BK2.out 3).trans rfl; have hy2_4 := (blk_cell BK2.out 4).trans rfl) | (at_lookup; refine Go.Proofs.YtplbiahehondaaaW.wpList_seen_look _ rfl _ _ 69 rfl 3 3 Try.underlying3 Try.underlying3 Try.underlying69 (fun w => by go_simp) B _ S2 rfl HS.out (rd_T49 (rd_T53 l0 (i : Int)).f0 (j : Int)).f1.f1 rfl hwf.out ?_; rw [if_pos HM2.out]))
       go_ret
       exact ⟨by rw [HF.out]; rfl, HB.out⟩
     rw [if_neg hm] at HQ2
     have HM2 := am hm
     have HQ3 := am HQ2
     clear HQ2 hpb cs hm
     go_wp2_with (first | (refine bx 7 #[.int .i64 0, .int .i64 0, .int .i64 0, .int .i64 0, .int .i64 0] 49 rfl ?_; intro g2 hg w7 hbox hb; have n0_ := am (below_step HB.out hb); have n1_ := am hbox; have GE2 := am ((by rw [hg]; exact below_size HB.out) : w.heap.size ≤ g2); have NE2 := am ((by rw [hg]; exact Nat.ne_of_lt HS.out.lt) : B ≠ g2); have NG2 := am ((by rw [hg]; exact Nat.ne_of_lt (blk_lt BK1.out)) : g1 ≠ g2); have n2_ := am (HS.out.below hb); have n3_ := am (blk_below BK1.out hb); clear HB HS BK1; have HB := n0_; have BK2 := n1_; have HS := n2_; have BK1 := n3_; clear n0_ n1_ n2_ n3_; have hnz2_0 := NG2.out; obtain ⟨hczg2_0, hczg2_1, hczg2_2, hczg2_3, hczg2_4⟩ := b5 hbox; obtain ⟨hfzg2_0, hfzg2_1, hfzg2_2, hfzg2_3, hfzg2_4⟩ := f5 hbox; clear hb hbox hg) | ((with_reducible refine gate_callee (f := 29) rfl ?_); refine goesL_ (some 29) rfl rfl Try.func29 (by kernel_rfl) rfl #[.agg #[.int .i64 (rd_T49 (rd_T53 l0 (i : Int)).f0 (j : Int)).f0, .int .i64 (rd_T49 (rd_T53 l0 (i : Int)).f0 (j : Int)).f1.f0, .int .i64 (rd_T49 (rd_T53 l0 (i : Int)).f0 (j : Int)).f1.f1, .int .i64 (rd_T49 (rd_T53 l0 (i : Int)).f0 (j : Int)).f1.f2, .int .i64 (rd_T49 (rd_T53 l0 (i : Int)).f0 (j : Int)).f1.f3]] rfl (by (try simp only [List.map_toArray, List.map_cons, List.map_nil]); first | done | rfl) ?_; (with_reducible refine (impl_pageShape.calls _ _ _ _ _ _ _ hkp.out).mono ?_); rintro e w3 ⟨rfl, hb⟩; refine ⟨_, rfl, ?_⟩; have n0_ := am (below_step (bg2 HB.out GE1.out GE2.out) hb); have n1_ := am (blk_below (blk_put (cs := #[.int .i64 (rd_T49 (rd_T53 l0 (i : Int)).f0 (j : Int)).f0, .int .i64 (rd_T49 (rd_T53 l0 (i : Int)).f0 (j : Int)).f1.f0, .int .i64 (rd_T49 (rd_T53 l0 (i : Int)).f0 (j : Int)).f1.f1, .int .i64 (rd_T49 (rd_T53 l0 (i : Int)).f0 (j : Int)).f1.f2, .int .i64 0]) (blk_put (cs := #[.int .i64 (rd_T49 (rd_T53 l0 (i : Int)).f0 (j : Int)).f0, .int .i64 (rd_T49 (rd_T53 l0 (i : Int)).f0 (j : Int)).f1.f0, .int .i64 (rd_T49 (rd_T53 l0 (i : Int)).f0 (j : Int)).f1.f1, .int .i64 0, .int .i64 0]) (blk_put (cs := #[.int .i64 (rd_T49 (rd_T53 l0 (i : Int)).f0 (j : Int)).f0, .int .i64 (rd_T49 (rd_T53 l0 (i : Int)).f0 (j : Int)).f1.f0, .int .i64 0, .int .i64 0, .int .i64 0]) (blk_put (cs := #[.int .i64 (rd_T49 (rd_T53 l0 (i : Int)).f0 (j : Int)).f0, .int .i64 0, .int .i64 0, .int .i64 0, .int .i64 0]) (blk_put (cs := #[.int .i64 0, .int .i64 0, .int .i64 0, .int .i64 0, .int .i64 0]) BK2.out 0 _ rfl) 1 _ rfl) 2 _ rfl) 3 _ rfl) 4 _ rfl) hb); have n2_ := am ((((((HS.out.far (p := ⟨g2, 0, none⟩) NE2.out _).far (p := ⟨g2, 1, none⟩) NE2.out _).far (p := ⟨g2, 2, none⟩) NE2.out _).far (p := ⟨g2, 3, none⟩) NE2.out _).far (p := ⟨g2, 4, none⟩) NE2.out _).below hb); have n3_ := am (blk_below (blk_far (blk_far (blk_far (blk_far (blk_far BK1.out (p := ⟨g2, 0, none⟩) NG2.out _) (p := ⟨g2, 1, none⟩) NG2.out _) (p := ⟨g2, 2, none⟩) NG2.out _) (p := ⟨g2, 3, none⟩) NG2.out _) (p := ⟨g2, 4, none⟩) NG2.out _) hb); clear HB BK1 BK2 HS; have HB := n0_; have BK2 := n1_; have HS := n2_; have BK1 := n3_; clear n0_ n1_ n2_ n3_; clear hb hczg2_0 hfzg2_0 hczg2_1 hfzg2_1 hczg2_2 hfzg2_2 hczg2_3 hfzg2_3 hczg2_4 hfzg2_4; have hy2_0 := (blk_cell BK2.out 0).trans rfl; have hy2_1 := (blk_cell BK2.out 1).trans rfl; have hy2_2 := (blk_cell BK2.out 2).trans rfl; have hy2_3 := (blk_cell BK2.out 3).trans rfl; have hy2_4 := (blk_cell BK2.out 4).trans rfl) | (at_lookup; refine Go.Proofs.YtplbiahehondaaaW.wpList_seen_look _ rfl _ _ 69 rfl 3 3 Try.underlying3 Try.underlying3 Try.underlying69 (fun w => by go_simp) B _ S2 rfl HS.out (rd_T49 (rd_T53 l0 (i : Int)).f0 (j : Int)).f1.f1 rfl hwf.out ?_; rw [if_neg HM2.out]) | (at_mapUpdate; refine Go.Proofs.YtplbiahehondaaaW.wpList_seen_add _ rfl _ _ _ 69 rfl 3 3 Try.underlying3 Try.underlying3 Try.underlying69 B _ S2 rfl HS.out hnm.out (rd_T49 (rd_T53 l0 (i : Int)).f0 (j : Int)).f1.f1 rfl rfl hwf.out ?_; intro w4 hs4 hg4; have n0_ := am (pw_below_grown HB.out (some B) (below_size HB.out) hg4 (fun k e => by cases e; exact Nat.le_of_eq HBB.out)); have n1_ := am (blk_grown BK1.out hg4 NB1.out); clear HB BK1 HS; have HB := n0_; have BK1 := n1_; have HS := am hs4; clear n0_ n1_ hs4 hg4))
     go_roundg k2
     case measure => omega
     case rel => exact ⟨j + 1, _ :: S2, by first | rfl | (simp; done) | (simp [*]; done), ⟨by have := HK2.out; omega⟩, ⟨CJ.out⟩, HQ3, ⟨by have := HM.out; simp only [List.length_cons]; omega⟩, HS, BK1, HB⟩
attribute [local go_sem] Oper.semAt_some
abbrev Spot := Nat × Nat × S49
def spotsB (i : Nat) : Nat → List S49 → List Spot
 | _, [] => []
 | j, p :: ps => (i, j, p) :: spotsB i (j + 1) ps
def spotsF : Nat → List S53 → List Spot
 | _, [] => []
 | i, b :: bs => spotsB i 0 b.f0 ++ spotsF (i + 1) bs
def pagesL (l : List S53) : List S49 := (spotsF 0 l).map (·.2.2)
abbrev spotArgs (x : Spot) : Array Value := #[.agg #[.int .i64 (x.1 : Int), .int .i64 (x.2.1 : Int)], .agg #[.int .i64 x.2.2.f0, .int .i64 x.2.2.f1.f0, .int .i64 x.2.2.f1.f1, .int .i64 x.2.2.f1.f2, .int .i64 x.2.2.f1.f3]]
theorem drop_pg {l : List S49} {i : Nat} (h : i < l.length) : l.drop i = rd_T49 l (i : Int) :: l.drop (i + 1) := by
 rw [List.drop_eq_getElem_cons h]
 simp [rd_T49, List.getD_eq_getElem?_getD, h]
theorem drop_bl {l : List S53} {i : Nat} (h : i < l.length) : l.drop i = rd_T53 l (i : Int) :: l.drop (i + 1) := by
 rw [List.drop_eq_getElem_cons h]
 simp [rd_T53, List.getD_eq_getElem?_getD, h]
set_option maxHeartbeats 1000000 in
theorem eachPage_in (F : Fence) (n : Nat) (hF : F.fn 18) (hro : F.round = none) (A : Option Addr) (len c : Nat) (w : World) :
 CallsIn F n Try.prog 18 #[.slice A len c] w fun e w' => e = .returned (.func (.func 30) #[] #[.pointer (some ⟨w.heap.size, 0, none⟩)]) ∧ w' = w.alloc (.cells #[.slice A len c] 23) := by
 refine callsIn_of_wp Try.func18 rfl hF ?_ hro
 simp only [Try.ntmps18, List.size_toArray, List.length_cons, List.length_nil, Nat.reduceAdd, Nat.reduceSub, Array.replicate_succ, Array.replicate_zero, List.push_toArray, List.append_toArray, List.nil_append, List.cons_append]
 gi_wp2
 go_ret
 exact ⟨rfl, rfl⟩
set_option maxRecDepth 100000 in
set_option maxHeartbeats 4000000 in
theorem eachPage1_in (F : Fence) (n : Nat) (hF : F.fn 30) (hro : F.round = none) (hn : 1 ≤ n) (T : Spot → Prop) (l Bf : Nat) (A0 : Option Addr) (c0 : Nat) (l0 : List S53) (w : World)
 (hr0 : Kd.C k53 w A0 l0.length l0) (hT : ∀ x ∈ spotsF 0 l0, T x) (J Jx : List {x : Spot // T x} → World → Prop) (W : World) (hJ : AbidesFrom W.heap.size J)
 (hY : ∀ pre x W1, J pre W1 → pre.length < (spotsF 0 l0).length → YieldAt F (n - 1) Try.prog l (spotArgs x.1) W1 fun e W' =>
  (e = .returned (.bool true) ∧ J (pre ++ [x]) W' ∧ Below w.heap.size W1 W') ∨ (e = .returned (.bool false) ∧ Jx (pre ++ [x]) W'))
 (hB : Below w.heap.size w W) (hBf : W.cell? ⟨Bf, 0, none⟩ = some (.slice A0 l0.length c0)) (h0 : J [] W) :
 CallsIn F n Try.prog 30 #[.func (.yield l) #[] #[], .pointer (some ⟨Bf, 0, none⟩)] W fun e W' => (∃ v, e = .returned v) ∧
  ((∃ ys, ys.map (·.1) = spotsF 0 l0 ∧ J ys W') ∨ (∃ pre, True ∧ Jx pre W')) := by
 have hJa : ∀ s A o, J s A → J s (A.alloc o) := fun s A o h => hJ s A _ none h (World.grownBy_alloc A o none) (by simp)
 have hBa : ∀ A o, Below w.heap.size w A → Below w.heap.size w (A.alloc o) := fun A o h => h.alloc h.size o
 have hlm := Kd.C_max hr0
 refine callsIn_of_wp Try.func30 rfl hF ?_ hro
 simp only [Try.ntmps30, List.size_toArray, List.length_cons, List.length_nil, Nat.reduceAdd, Nat.reduceSub, Array.replicate_succ, Array.replicate_zero, List.push_toArray, List.append_toArray, List.nil_append, List.cons_append]
 gi_wp2
 gi_loopw [9] (fun v9 wr => ∃ (i : Nat) (pre : List {x : Spot // T x}), v9 = .int .i64 (i : Int) ∧ i ≤ l0.length ∧ pre.map (·.1) ++ spotsF i (l0.drop i) = spotsF 0 l0 ∧ J pre wr ∧ Below w.heap.size w wr)
  (fun v9 _ => l0.length - (intOf v9).toNat)
 case atStart => exact ⟨0, [], rfl, Nat.zero_le _, rfl, h0, hB⟩
 case round =>
  obtain ⟨i, pre, rfl, hi, hp, hJs, hBs⟩ := hrel
  by_cases ci : i < l0.length
  rotate_left
  · obtain rfl : i = l0.length := by omega
    rw [List.drop_eq_nil_of_le (Nat.le_refl _), spotsF, List.append_nil] at hp
    gi_wp2
    go_end0
    exact ⟨⟨_, rfl⟩, .inl ⟨_, hp, hJs⟩⟩
  have cib : decide ((i : Int) < (l0.length : Int)) = true := decide_eq_true (by omega)
  have p1 : 0 ≤ (i : Int) := by omega
  have q1 : (i : Int) < (l0.length : Int) := by omega
  obtain ⟨ad1, A1, c1, e1, hx1_0, hx1_1, hl1, hi1⟩ := at_T53 hr0 (i : Int) p1 q1
  cases e1
  replace hx1_0 := (hBs.cell (World.block_lt_of_cell? w _ hx1_0)).trans hx1_0
  replace hx1_1 := (hBs.cell (World.block_lt_of_cell? w _ hx1_1)).trans hx1_1
  have hlm1 := Kd.C_max hi1
  simp only [Int.toNat_natCast] at hx1_0 hx1_1
  rw [drop_bl ci, spotsF] at hp
  generalize hbl : rd_T53 l0 (i : Int) = bl at hx1_0 hx1_1 hl1 hi1 hlm1 hp
  have hw9 : wrap64 ((i : Int) + 1) = ((i + 1 : Nat) : Int) := by rw [IntWalk.wrap64_in _ (by omega)]; omega
  gi_wp2
  gi_loopw [17] (fun v17 w2 => ∃ (j : Nat) (pre2 : List {x : Spot // T x}), v17 = .int .i64 (j : Int) ∧ j ≤ bl.f0.length ∧ pre2.map (·.1) ++ (spotsB i j (bl.f0.drop j) ++ spotsF (i + 1) (l0.drop (i + 1))) = spotsF 0 l0 ∧ J pre2 w2 ∧ Below w.heap.size w w2)
   (fun v17 _ => bl.f0.length - (intOf v17).toNat)
  case atStart => exact ⟨0, pre, rfl, Nat.zero_le _, hp, hJa _ _ _ hJs, hBa _ _ hBs⟩
  case round =>
   clear hx1_0 hx1_1 hJs hBs hp pre
   obtain ⟨j, pre2, rfl, hj, hp, hJs, hBs⟩ := hrel
   by_cases cj : j < bl.f0.length
   rotate_left
   · obtain rfl : j = bl.f0.length := by omega
     rw [List.drop_eq_nil_of_le (Nat.le_refl _), spotsB, List.nil_append] at hp
     gi_wp2
     go_roundw
     case rel => exact ⟨i + 1, pre2, by simp, by omega, hp, hJs, hBs⟩
     case measure => simp [intOf]; omega
   have cjb : decide ((j : Int) < (bl.f0.length : Int)) = true := decide_eq_true (by omega)
   have p2 : 0 ≤ (j : Int) := by omega
   have q2 : (j : Int) < (bl.f0.length : Int) := by omega
   obtain ⟨ad2, e2, hx2_0, hx2_1, hx2_2, hx2_3, hx2_4⟩ := at_T49 hi1 (j : Int) p2 q2
   cases e2
   replace hx2_0 := (hBs.cell (World.block_lt_of_cell? w _ hx2_0)).trans hx2_0
   replace hx2_1 := (hBs.cell (World.block_lt_of_cell? w _ hx2_1)).trans hx2_1
   replace hx2_2 := (hBs.cell (World.block_lt_of_cell? w _ hx2_2)).trans hx2_2
   replace hx2_3 := (hBs.cell (World.block_lt_of_cell? w _ hx2_3)).trans hx2_3
   replace hx2_4 := (hBs.cell (World.block_lt_of_cell? w _ hx2_4)).trans hx2_4
   simp only [Int.toNat_natCast] at hx2_0 hx2_1 hx2_2 hx2_3 hx2_4
   rw [drop_pg cj, spotsB] at hp
   generalize hpg : rd_T49 bl.f0 (j : Int) = pg at hx2_0 hx2_1 hx2_2 hx2_3 hx2_4 hp
   have hw17 : wrap64 ((j : Int) + 1) = ((j + 1 : Nat) : Int) := by rw [IntWalk.wrap64_in _ (by omega)]; omega
   have hTx : T (i, j, pg) := hT _ (by rw [← hp]; simp)
   have hlen : pre2.length < (spotsF 0 l0).length := by rw [← hp]; simp
   obtain ⟨fn, tmps, assign, body, hy, hR⟩ := hY pre2 ⟨(i, j, pg), hTx⟩ (wr.alloc (.cells #[.int .i64 pg.f0, .int .i64 pg.f1.f0, .int .i64 pg.f1.f1, .int .i64 pg.f1.f2, .int .i64 pg.f1.f3] 49)) (hJa _ _ _ hJs) hlen
   dsimp only [spotArgs] at hy
   gi_wp2
   refine hR.mono ?_
   rintro e W3 (⟨rfl, hJ3, hk3⟩ | ⟨rfl, hJx3⟩)
   · gi_wp2
     go_roundw
     case rel => exact ⟨j + 1, pre2 ++ [⟨(i, j, pg), hTx⟩], by simp, by omega, by rw [← hp]; simp, hJ3, (hBa _ _ hBs).trans hk3⟩
     case measure => simp [intOf]; omega
   · gi_wp2
     refine bodyPost_ret (results_none rfl _ _ _) rfl ?_
     exact ⟨⟨_, rfl⟩, .inr ⟨_, trivial, hJx3⟩⟩
theorem eachPage_stops (F : Fence) (n : Nat) (hF : F.fn 30) (hro : F.round = none) (hn : 1 ≤ n) (T : Spot → Prop) (Bf : Nat) (A0 : Option Addr) (c0 : Nat) (l0 : List S53) (w W0 : World)
 (hr0 : Kd.C k53 w A0 l0.length l0) (hT : ∀ x ∈ spotsF 0 l0, T x) (hB : Below w.heap.size w W0) (hBf : W0.cell? ⟨Bf, 0, none⟩ = some (.slice A0 l0.length c0)) :
 SeqStopsK F n Try.prog 30 #[.pointer (some ⟨Bf, 0, none⟩)] (fun x : {x : Spot // T x} => spotArgs x.1) (Below w.heap.size) (fun ys => ys.map (·.1) = spotsF 0 l0) (fun _ => True) (spotsF 0 l0).length W0 := fun l J Jx W hW hJ _ hY h0 =>
 eachPage1_in F n hF hro hn T l Bf A0 c0 l0 w hr0 hT J Jx W hJ hY (hB.trans (hW.mono hB.size)) ((hW.cell (p := ⟨Bf, 0, none⟩) (World.block_lt_of_cell? W0 _ hBf)).trans hBf) h0
def PageBox (W : World) (B : Nat) (p : S49) : Prop := W.heap[B]? = some (.cells #[.int .i64 p.f0, .int .i64 p.f1.f0, .int .i64 p.f1.f1, .int .i64 p.f1.f2, .int .i64 p.f1.f3] 49 (0, 0))
theorem PageBox.own (B : Nat) (b : Nat) (p : S49) : OwnFrom b (fun (_ : Unit) W => PageBox W B p) := Own.from (fun s X Y row hs hg hrow => (hg.block B (Array.getElem?_eq_some_iff.1 hs).1 (fun e => by obtain ⟨o, ho, hc⟩ := hrow B e.symm; rw [show X.heap[B]? = _ from hs] at ho; cases ho; cases hc)).trans hs) _
theorem PageBox.cells {W : World} {B : Nat} {p : S49} (h : PageBox W B p) : W.cell? ⟨B, 0, none⟩ = some (.int .i64 p.f0) ∧ W.cell? ⟨B, 1, none⟩ = some (.int .i64 p.f1.f0) ∧ W.cell? ⟨B, 2, none⟩ = some (.int .i64 p.f1.f1) ∧ W.cell? ⟨B, 3, none⟩ = some (.int .i64 p.f1.f2) ∧ W.cell? ⟨B, 4, none⟩ = some (.int .i64 p.f1.f3) :=
 ⟨(blk_cell h 0).trans rfl, (blk_cell h 1).trans rfl, (blk_cell h 2).trans rfl, (blk_cell h 3).trans rfl, (blk_cell h 4).trans rfl⟩
abbrev AnyPage := {x : Spot // True}
def RecBox (W : World) (B : Nat) (r : S27) : Prop := W.heap[B]? = some (.cells #[.int .i64 r.f0, .int .i64 r.f1, .int .i64 r.f2, .int .i64 r.f3] 27 (0, 0))
abbrev set4 (W : World) (B : Nat) (r : S27) : World := (((W.setCell ⟨B, 0, none⟩ (.int .i64 r.f0)).setCell ⟨B, 1, none⟩ (.int .i64 r.f1)).setCell ⟨B, 2, none⟩ (.int .i64 r.f2)).setCell ⟨B, 3, none⟩ (.int .i64 r.f3)
theorem RecBox.own (B : Nat) {β : Type} (f : β → S27) : Own (fun s W => RecBox W B (f s)) := fun s X Y row hs hg hrow => (hg.block B (Array.getElem?_eq_some_iff.1 hs).1 (fun e => by obtain ⟨o, ho, hc⟩ := hrow B e.symm; rw [show X.heap[B]? = _ from hs] at ho; cases ho; cases hc)).trans hs
theorem RecBox.cells {W : World} {B : Nat} {r : S27} (h : RecBox W B r) : W.cell? ⟨B, 0, none⟩ = some (.int .i64 r.f0) ∧ W.cell? ⟨B, 1, none⟩ = some (.int .i64 r.f1) ∧ W.cell? ⟨B, 2, none⟩ = some (.int .i64 r.f2) ∧ W.cell? ⟨B, 3, none⟩ = some (.int .i64 r.f3) :=
 ⟨(blk_cell h 0).trans rfl, (blk_cell h 1).trans rfl, (blk_cell h 2).trans rfl, (blk_cell h 3).trans rfl⟩
theorem RecBox.frozen {W : World} {B : Nat} {r : S27} (h : RecBox W B r) (i : Nat) : W.frozen? ⟨B, i, none⟩ = false := blk_frozen h i
theorem RecBox.put {W : World} {B : Nat} {r : S27} (h : RecBox W B r) (s : S27) : RecBox (set4 W B s) B s := blk_put (blk_put (blk_put (blk_put h 0 _ rfl) 1 _ rfl) 2 _ rfl) 3 _ rfl
theorem RecBox.far {W : World} {B B' : Nat} {r : S27} (h : RecBox W B r) (hne : B ≠ B') (s : S27) : RecBox (set4 W B' s) B r := blk_far (blk_far (blk_far (blk_far h (p := ⟨B', 0, none⟩) hne _) (p := ⟨B', 1, none⟩) hne _) (p := ⟨B', 2, none⟩) hne _) (p := ⟨B', 3, none⟩) hne _
theorem Boxed.far4 {W : World} {B B' t : Nat} {v : Value} (h : Boxed W B t v) (hne : B ≠ B') (s : S27) : Boxed (set4 W B' s) B t v := blk_far (blk_far (blk_far (blk_far h (p := ⟨B', 0, none⟩) hne _) (p := ⟨B', 1, none⟩) hne _) (p := ⟨B', 2, none⟩) hne _) (p := ⟨B', 3, none⟩) hne _
theorem below_set4 {b : Nat} {w W : World} (h : Below b w W) {B : Nat} (hb : b ≤ B) (s : S27) : Below b w (set4 W B s) := (((h.setCell (p := ⟨B, 0, none⟩) hb _).setCell (p := ⟨B, 1, none⟩) hb _).setCell (p := ⟨B, 2, none⟩) hb _).setCell (p := ⟨B, 3, none⟩) hb _
theorem keeps_set4 (W : World) (B : Nat) (s : S27) : KeepsOthers W (set4 W B s) := (((KeepsOthers.setCell W _ _).trans (KeepsOthers.setCell _ _ _)).trans (KeepsOthers.setCell _ _ _)).trans (KeepsOthers.setCell _ _ _)
attribute [local go_sem] Oper.semAt_some
def lastStep (a : Int) (r : S27) (p : S49) : S27 := if p.f0 = 1 ∧ p.f1.f2 = a ∧ p.f1.f1 > r.f1 then p.f1 else r
def lastA (l : List S53) (a : Int) : S27 := (pagesL l).foldl (lastStep a) ⟨0, 0, 0, 0⟩
def impl_FindLast.f (l0 : List (S53)) (a1 : Int) : Option (Int × Int × Int × Int × Bool) := some (if addrB a1 = true ∧ flashOkB l0 = true then ((lastA l0 a1).f0, (lastA l0 a1).f1, (lastA l0 a1).f2, (lastA l0 a1).f3, decide ((lastA l0 a1).f1 > 0)) else (0, 0, 0, 0, false))
def lastOf (a : Int) (pre : List AnyPage) : S27 := pre.foldl (fun m x => lastStep a m x.1.2.2) ⟨0, 0, 0, 0⟩
theorem lastOf_snoc (a : Int) (pre : List AnyPage) (x : AnyPage) : lastOf a (pre ++ [x]) = lastStep a (lastOf a pre) x.1.2.2 := by simp [lastOf]
theorem lastOf_all {a : Int} {ys : List AnyPage} {l0 : List S53} (h : ys.map (·.1) = spotsF 0 l0) : lastOf a ys = lastA l0 a := by
 unfold lastOf lastA pagesL
 rw [← h, List.foldl_map, List.foldl_map]
set_option maxRecDepth 100000 in
set_option maxHeartbeats 4000000 in
theorem impl_FindLast.calls (A0 : Option Addr) (c0 : Nat) (l0 : List (S53)) (a1 : Int) (r1 : Int) (r2 : Int) (r3 : Int) (r4 : Int) (r5 : Bool) (w : World) (hr0 : Kd.C k53 w A0 l0.length l0) (hc0 : l0.length ≤ c0) (h : impl_FindLast.f l0 a1 = some (r1, r2, r3, r4, r5)) :
 Calls Try.prog 6 #[.slice A0 l0.length c0, .int .i64 a1] w fun e w' => e = .returned (.tuple #[.agg #[.int .i64 r1, .int .i64 r2, .int .i64 r3, .int .i64 r4], .bool r5]) ∧ Below w.heap.size w w' := by
 have hu := Try.underlying27
 refine (callsIn_wide (n := 3)).1 ?_
 have hak : ∀ w, CallsIn Fence.wide 2 Try.prog 16 #[.int .i64 a1] w fun e w' => e = .returned (.bool (addrB a1)) ∧ w = w' := fun w => callsIn_wide.2 (addrOk_any a1 w)
 unfold impl_FindLast.f at h
 have h := Option.some.inj h
 have b3 := Boxed.new w 3 (.int .i64 a1)
 have b4 : RecBox ((w.alloc (.cells #[.int .i64 a1] 3)).alloc (.cells #[.int .i64 0, .int .i64 0, .int .i64 0, .int .i64 0] 27)) (w.heap.size + 1) ⟨0, 0, 0, 0⟩ := by have := blk_new (w.alloc (.cells #[.int .i64 a1] 3)) (.cells #[.int .i64 0, .int .i64 0, .int .i64 0, .int .i64 0] 27); rw [World.size_alloc] at this; exact this
 replace b3 := b3.alloc (.cells #[.int .i64 0, .int .i64 0, .int .i64 0, .int .i64 0] 27)
 have hbw : Below w.heap.size w ((w.alloc (.cells #[.int .i64 a1] 3)).alloc (.cells #[.int .i64 0, .int .i64 0, .int .i64 0, .int .i64 0] 27)) := ((Below.refl _ w).alloc (Nat.le_refl _) _).alloc (by simp) _
 cases ha : addrB a1 with
 | false =>
  simp only [ha] at hak
  rw [ha, if_neg (by simp)] at h
  cases h
  refine callsIn_of_wp_marks Try.func6 rfl trivial ?_ rfl
  simp only [Try.ntmps6, List.size_toArray, List.length_cons, List.length_nil, Nat.reduceAdd, Nat.reduceSub, Array.replicate_succ, Array.replicate_zero, List.push_toArray, List.append_toArray, List.nil_append, List.cons_append]
  gi_wp2_with (first | (refine ⟨trivial, ?_⟩; gi_at_call 16; refine (hak _).mono ?_; rintro e w1 ⟨rfl, rfl⟩) | (refine And.intro (show Fence.wide.fn 17 from trivial) ?_))
  exact ⟨_, results_ct rfl _ _ (w.heap.size + 1) _ _ _ _ rfl b4 hu rfl (by kernel_rfl), rfl, hbw⟩
 | true =>
  simp only [ha] at hak
  have hok := callsIn_wide (n := 2).2 (impl_FlashOk.calls A0 c0 l0 _ _ (Kd.C_below hr0 hbw) hc0 rfl)
  cases hf : flashOkB l0 with
  | false =>
   rw [hf] at hok
   rw [hf, if_neg (by simp)] at h
   cases h
   refine callsIn_of_wp_marks Try.func6 rfl trivial ?_ rfl
   simp only [Try.ntmps6, List.size_toArray, List.length_cons, List.length_nil, Nat.reduceAdd, Nat.reduceSub, Array.replicate_succ, Array.replicate_zero, List.push_toArray, List.append_toArray, List.nil_append, List.cons_append]
   gi_wp2_with (first | (refine ⟨trivial, ?_⟩; gi_at_call 16; refine (hak _).mono ?_; rintro e w1 ⟨rfl, rfl⟩) | (refine ⟨trivial, ?_⟩; gi_at_call 17; refine hok.mono ?_; rintro e w1 ⟨rfl, hb⟩; have b4' : RecBox w1 (w.heap.size + 1) ⟨0, 0, 0, 0⟩ := blk_below b4 hb; obtain ⟨hq0, hq1, hq2, hq3⟩ := b4'.cells; have hg0 := b4'.frozen 0; have hg1 := b4'.frozen 1; have hg2 := b4'.frozen 2; have hg3 := b4'.frozen 3))
   exact ⟨_, results_ct rfl _ _ (w.heap.size + 1) _ _ _ _ rfl (b4'.put ⟨0, 0, 0, 0⟩) hu rfl (by kernel_rfl), rfl, below_set4 (below_then hbw hbw.size hb) (by omega) ⟨0, 0, 0, 0⟩⟩
  | true =>
   rw [hf] at hok
   rw [ha, hf, if_pos ⟨rfl, rfl⟩] at h
   refine callsIn_of_wp_marks Try.func6 rfl trivial ?_ rfl
   simp only [Try.ntmps6, List.size_toArray, List.length_cons, List.length_nil, Nat.reduceAdd, Nat.reduceSub, Array.replicate_succ, Array.replicate_zero, List.push_toArray, List.append_toArray, List.nil_append, List.cons_append]
   gi_wp2_with (first | (refine ⟨trivial, ?_⟩; gi_at_call 16; refine (hak _).mono ?_; rintro e w1 ⟨rfl, rfl⟩) | (refine ⟨trivial, ?_⟩; gi_at_call 17; refine hok.mono ?_; rintro e w1 ⟨rfl, hb⟩) | (refine ⟨trivial, ?_⟩; gi_at_call 18; refine (eachPage_in Fence.wide 2 trivial rfl _ _ _ _).mono ?_; rintro e w2 ⟨rfl, rfl⟩))
   have hs1 := hb.size
   simp only [World.size_alloc] at hs1
   have b3' : Boxed w1 w.heap.size 3 (.int .i64 a1) := blk_below b3 hb
   have b4' : RecBox w1 (w.heap.size + 1) ⟨0, 0, 0, 0⟩ := blk_below b4 hb
   have hbw1 := below_then hbw hbw.size hb
   have bL : RecBox (w1.alloc (.cells #[.int .i64 0, .int .i64 0, .int .i64 0, .int .i64 0] 27)) w1.heap.size ⟨0, 0, 0, 0⟩ := blk_new w1 _
   have bN := Boxed.new (w1.alloc (.cells #[.int .i64 0, .int .i64 0, .int .i64 0, .int .i64 0] 27)) 23 (.slice A0 l0.length c0)
   rw [World.size_alloc] at bN
   have bL2 : RecBox ((w1.alloc (.cells #[.int .i64 0, .int .i64 0, .int .i64 0, .int .i64 0] 27)).alloc (.cells #[.slice A0 l0.length c0] 23)) w1.heap.size ⟨0, 0, 0, 0⟩ := blk_alloc bL _
   have hB0 : Below w.heap.size w ((w1.alloc (.cells #[.int .i64 0, .int .i64 0, .int .i64 0, .int .i64 0] 27)).alloc (.cells #[.slice A0 l0.length c0] 23)) := (hbw1.alloc hbw1.size _).alloc (hbw1.alloc hbw1.size _).size _
   refine wpIn_rangeFunc_ownH (F := Fence.wide) rfl (by decide) (gf := 30) (lb := #[.pointer (some ⟨w1.heap.size + 1, 0, none⟩)]) rfl trivial (enters_of Try.func30 (by kernel_rfl) rfl)
    (eachPage_stops Fence.wide 2 trivial rfl (by decide) (fun _ => True) (w1.heap.size + 1) A0 c0 l0 w _ hr0 (fun _ _ => trivial) hB0 bN.cell) belowK_t (belowK_b hB0.size) (Below.refl _ _) (fun _ => rfl)
    (fun pre W => RecBox W w1.heap.size (lastOf a1 pre) ∧ Boxed W w.heap.size 3 (.int .i64 a1) ∧ RecBox W (w.heap.size + 1) ⟨0, 0, 0, 0⟩ ∧ Below w.heap.size w W) (fun _ _ _ => False)
    (OwnFrom.and (Own.from (RecBox.own _ _) _) (OwnFrom.and (Own.from (boxed_own _ _ _) _) (OwnFrom.and (Own.from (RecBox.own _ _) _) (ownFrom_below (Nat.le_refl _) hB0.size)))) (fun _ _ _ _ _ hs _ _ => hs)
    ⟨bL2, (b3'.alloc _).alloc _, blk_alloc (blk_alloc b4' _) _, hB0⟩
    (fun x a' W => ∃ Bx, w1.heap.size < Bx ∧ PageBox W Bx x.1.2.2 ∧ a' = { tmps := #[.slice A0 l0.length c0, .int .i64 a1, undef, .pointer (some ⟨w.heap.size, 0, none⟩), .pointer (some ⟨w.heap.size + 1, 0, none⟩), .bool false, .pointer (some ⟨w1.heap.size, 0, none⟩), undef, .pointer (some ⟨Bx, 0, none⟩), .int .i64 a1, .bool true, .bool false, .bool false, .slice A0 l0.length c0, .bool true, .bool false, .bool false, undef, .slice A0 l0.length c0, .func (.func 30) #[] #[.pointer (some ⟨w1.heap.size + 1, 0, none⟩)], .agg #[.int .i64 (x.1.1 : Int), .int .i64 (x.1.2.1 : Int)], .agg #[.int .i64 x.1.2.2.f0, .int .i64 x.1.2.2.f1.f0, .int .i64 x.1.2.2.f1.f1, .int .i64 x.1.2.2.f1.f2, .int .i64 x.1.2.2.f1.f3], undef, undef, undef, undef, undef, undef, undef, undef, undef, undef, undef, undef, undef, undef, undef, undef, undef, undef, undef, undef, undef, undef, undef, undef], defers := [] })
    (fun x a' s X Y row hs hg hr => by obtain ⟨Bx, h1, h2, h3⟩ := hs; exact ⟨Bx, h1, PageBox.own Bx _ _ () X Y row h2 hg hr, h3⟩) ?assign ?body ?done ?stop
   case assign =>
    rintro l pre x W K ⟨hbx, hb3, hb4, hB⟩ hK
    gi_wp2
    exact hK _ _ ((KeepsOthers.alloc _ _).from _) ((Below.refl _ W).alloc hB.size _) ⟨blk_alloc hbx _, hb3.alloc _, blk_alloc hb4 _, hB.alloc hB.size _⟩ ⟨W.heap.size, blk_lt hbx, blk_new W _, rfl⟩
   case body =>
    rintro l pre x a' W hl ⟨r, hr⟩ ⟨hbx, hb3, hb4, hB⟩ ⟨Bx, hBx, bX, rfl⟩ hlt
    obtain ⟨hc0_, hc1_, hc2_, hc3_, hc4_⟩ := bX.cells
    have hcl := hb3.cell
    obtain ⟨hq0, hq1, hq2, hq3⟩ := hbx.cells
    have hg0 := hbx.frozen 0
    have hg1 := hbx.frozen 1
    have hg2 := hbx.frozen 2
    have hg3 := hbx.frozen 3
    have hsn := lastOf_snoc a1 pre x
    unfold lastStep at hsn
    by_cases hs1 : x.1.2.2.f0 = 1
    rotate_left
    · have hs2 : (x.1.2.2.f0 == 1) = false := by simp [hs1]
      rw [if_neg (fun h => hs1 h.1)] at hsn
      gi_wp2
      exact ⟨KeepsFrom.refl _ _, Below.refl _ _, by rw [hsn]; exact hbx, hb3, hb4, hB⟩
    have hs2 : (x.1.2.2.f0 == 1) = true := by simp [hs1]
    by_cases ht1 : x.1.2.2.f1.f2 = a1
    rotate_left
    · have ht2 : (x.1.2.2.f1.f2 == a1) = false := by simp [ht1]
      rw [if_neg (fun h => ht1 h.2.1)] at hsn
      gi_wp2
      exact ⟨KeepsFrom.refl _ _, Below.refl _ _, by rw [hsn]; exact hbx, hb3, hb4, hB⟩
    have ht2 : (x.1.2.2.f1.f2 == a1) = true := by simp [ht1]
    by_cases hv1 : x.1.2.2.f1.f1 > (lastOf a1 pre).f1
    rotate_left
    · have hv2 : decide ((lastOf a1 pre).f1 < x.1.2.2.f1.f1) = false := decide_eq_false hv1
      rw [if_neg (fun h => hv1 h.2.2)] at hsn
      gi_wp2
      exact ⟨KeepsFrom.refl _ _, Below.refl _ _, by rw [hsn]; exact hbx, hb3, hb4, hB⟩
    have hv2 : decide ((lastOf a1 pre).f1 < x.1.2.2.f1.f1) = true := decide_eq_true hv1
    rw [if_pos ⟨hs1, ht1, hv1⟩] at hsn
    obtain ⟨q, hq, hq_⟩ : ∃ q : S27, q = ⟨x.1.2.2.f1.f0, x.1.2.2.f1.f1, a1, x.1.2.2.f1.f3⟩ ∧ x.1.2.2.f1 = q := ⟨_, rfl, by rw [← ht1]⟩
    rw [hq_] at hsn
    have ok1 : RecBox (set4 W w1.heap.size q) w1.heap.size (lastOf a1 (pre ++ [x])) := by rw [hsn]; exact RecBox.put hbx _
    have ok2 : Boxed (set4 W w1.heap.size q) w.heap.size 3 (.int .i64 a1) := Boxed.far4 hb3 (by omega) _
    have ok3 : RecBox (set4 W w1.heap.size q) (w.heap.size + 1) ⟨0, 0, 0, 0⟩ := RecBox.far hb4 (by omega) _
    have ok4 : Below w.heap.size w (set4 W w1.heap.size q) := below_set4 hB (by omega) _
    have ok5 : Below w.heap.size W (set4 W w1.heap.size q) := below_set4 (Below.refl _ W) (by omega) _
    have OK1 := am ok1
    have OK2 := am ok2
    have OK3 := am ok3
    have OK4 := am ok4
    have OK5 := am ok5
    have OK6 := am ((keeps_set4 W w1.heap.size q).from ((w1.alloc (.cells #[.int .i64 0, .int .i64 0, .int .i64 0, .int .i64 0] 27)).alloc (.cells #[.slice A0 l0.length c0] 23)).heap.size)
    subst hq
    clear ok1 ok2 ok3 ok4 ok5 hsn hq_
    gi_wp2
    exact ⟨OK6.out, OK5.out, OK1.out, OK2.out, OK3.out, OK4.out⟩
   case done =>
    rintro D ys W hD hys ⟨hbx, hb3, hb4, hB⟩ hK
    rw [lastOf_all hys] at hbx
    cases h
    obtain ⟨hq0, hq1, hq2, hq3⟩ := hbx.cells
    obtain ⟨ho0, ho1, ho2, ho3⟩ := hb4.cells
    have hg0 := hb4.frozen 0
    have hg1 := hb4.frozen 1
    have hg2 := hb4.frozen 2
    have hg3 := hb4.frozen 3
    gi_wp2
    gi_region
    gi_wp2
    have hbp : RecBox (set4 W (w.heap.size + 1) (lastA l0 a1)).drew (w.heap.size + 1) (lastA l0 a1) := RecBox.put hb4 _
    have hK' : (set4 W (w.heap.size + 1) (lastA l0 a1)).drew.heap[D]? = some (.deferred (some [])) := (keeps_set4 W (w.heap.size + 1) (lastA l0 a1)).same D _ hK rfl
    have hB' : Below w.heap.size w (set4 W (w.heap.size + 1) (lastA l0 a1)).drew := below_drew (below_set4 hB (by omega) _)
    refine ⟨by simp, .inl ⟨_, _, rfl, run_takeDeferred hK', ?_⟩⟩
    have hbq := RecBox.own (β := Unit) _ (fun _ => lastA l0 a1) () _ _ _ hbp (grownBy_putObj' _ D (.deferred none)) (fun r e => by cases e; exact ⟨_, hK', rfl⟩)
    exact ⟨_, results_ct rfl _ _ (w.heap.size + 1) _ _ _ _ rfl hbq hu rfl (by kernel_rfl), rfl, hB'.trans (belowK_b (w := w) (Nat.le_refl _) _ D _ _ (by have := hB0.size; omega) hK' rfl rfl)⟩
   case stop =>
    rintro D c pre W _ _ h _
    exact h.elim
def impl_freePages.l0 : Nat → Int → List (S49) → Int → Int → Option (Int)
 | 0, _, _, _, _ => none
 | k + 1, x3, x7, x8, x9 => if x9 < x8 then (if 0 ≤ x9 then (if x9 < (x7.length : Int) then (if ((rd_T49 x7 x9).f0) = 0 then (impl_freePages.l0 k (wrap64 (x3 + 1)) x7 x8 (wrap64 (x9 + 1))) else (impl_freePages.l0 k x3 x7 x8 (wrap64 (x9 + 1)))) else (none)) else (none)) else (some x3)
def impl_freePages.f (k : Nat) (l0_0 : List (S49)) (a0_1 : Int) : Option (Int) := impl_freePages.l0 k 0 l0_0 (l0_0.length : Int) 0
theorem impl_freePages.mono_l : ∀ k, (∀ y0 y1 y2 y3, LeO (impl_freePages.l0 k y0 y1 y2 y3) (impl_freePages.l0 (k + 1) y0 y1 y2 y3))
 | 0 => fun _ _ _ _ r h => by simp [impl_freePages.l0] at h
 | k + 1 => by
  have ih0 := impl_freePages.mono_l k
  · intro y0 y1 y2 y3
    unfold impl_freePages.l0
    with_reducible repeat' first | exact ih0 _ _ _ _ | exact LeO.refl _ | exact LeO.none _ | refine LeO.ite ?_ ?_ | refine LeO.bind ?_ (fun _ => ?_)
theorem impl_freePages.mono : ∀ a0 a1 k, LeO (impl_freePages.f k a0 a1) (impl_freePages.f (k + 1) a0 a1) := by
 intro a0 a1 k
 have ih0 := impl_freePages.mono_l k
 unfold impl_freePages.f
 with_reducible repeat' first | exact ih0 _ _ _ _ | exact LeO.refl _ | exact LeO.none _ | refine LeO.ite ?_ ?_ | refine LeO.bind ?_ (fun _ => ?_)
set_option maxHeartbeats 8000000 in
set_option maxRecDepth 100000 in
theorem impl_freePages.calls (k : Nat) (A0_0 : Option Addr) (c0_0 : Nat) (l0_0 : List (S49)) (a0_1 : Int) (r : Int) (w : World) (hr0_0 : Kd.C k49 w A0_0 l0_0.length l0_0) (hc0_0 : l0_0.length ≤ c0_0) (h : impl_freePages.f k l0_0 a0_1 = some r) :
 Calls Try.prog 21 #[.agg #[.slice A0_0 l0_0.length c0_0, .int .i64 a0_1]] w fun e w' => e = .returned (.int .i64 r) ∧ Below w.heap.size w w' := by
 have hu53 := Try.underlying53
 have hu49 := Try.underlying49
 have HR0_0 := am hr0_0
 have HC0_0 := am hc0_0
 clear hr0_0 hc0_0
 have HB := am (Below.refl w.heap.size w)
 have H : (impl_freePages.l0 k 0 l0_0 (l0_0.length : Int) 0) = some r := h
 clear h
 have H' := am H
 clear H
 go_enter Try.func21, Try.ntmps21
 go_wp2_with (first | (refine bx 1 #[.slice A0_0 l0_0.length c0_0, .int .i64 a0_1] 53 rfl ?_; intro gb381 hg w2 hbox hb; have BK381 := am (hbox); have GW381 := am (ge hg (ph HB.out)); have GE381 := GW381; replace HB := am (below_step (ph HB.out) hb); clear hb hbox hg; obtain ⟨hcz3_0, hcz3_1⟩ := b2 BK381.out; obtain ⟨hfz3_0, hfz3_1⟩ := f2 BK381.out))
 go_loopg [3, 9] k (fun kq v3 v9 w' => ∃ (x3_1 : Int) (x9_1 : Int), v3 = .int .i64 x3_1 ∧ v9 = .int .i64 x9_1 ∧ Aside0 (impl_freePages.l0 kq x3_1 l0_0 (l0_0.length : Int) x9_1 = some r) ∧ Aside0 (kq ≤ k) ∧ Aside0 (w'.heap[gb381]? = some (.cells #[(.slice A0_0 l0_0.length c0_0), .int .i64 a0_1] 53 (0, 0))) ∧ Aside0 (Below w.heap.size w w'))
 case atStart => exact ⟨(0), (0), rf, rf, H', ⟨Nat.le_refl _⟩, ⟨pb BK381.out⟩, ⟨bg1 HB.out GE381.out⟩⟩
 case round =>
  clear H'
  obtain ⟨x3_1, x9_1, rfl, rfl, HA, HK1, BK381, HB⟩ := hrel
  cases gk with
  | zero => exact absurd HA.out (by simp [impl_freePages.l0])
  | succ k1 =>
   have H := HA.out
   clear HA
   simp only [impl_freePages.l0] at H
   by_cases c4 : x9_1 < (l0_0.length : Int)
   rotate_left
   · rw [if_neg c4] at H
     have c4b0 := decide_eq_false c4
     clear c4
     obtain rfl := Option.some.inj H
     go_wp2
     go_ret
     exact (rq (bg1 HB.out GE381.out))
   rw [if_pos c4] at H
   have c4b0 := decide_eq_true c4
   clear c4
   obtain ⟨c5b0, H⟩ := ifd H
   obtain ⟨c6b0, H⟩ := ifd H
   by_cases c7 : ((rd_T49 l0_0 x9_1).f0) = 0
   rotate_left
   · rw [if_neg c7] at H
     have c7b0 : (((rd_T49 l0_0 x9_1).f0) == 0) = false := beq_eq_false_iff_ne.mpr c7
     have c7b1 : (((rd_T49 l0_0 x9_1).f0) != 0) = true := bne_iff_ne.mpr c7
     have H' := am H
     clear H
     have p382 : 0 ≤ (x9_1 : Int) := ofb
     have q382 : x9_1 < (l0_0.length : Int) := ofb
     obtain ⟨ad382, e382, hx382_0, hx382_1, hx382_2, hx382_3, hx382_4⟩ := at_T49 HR0_0.out x9_1 p382 q382
     cases e382
     replace hx382_0 := up HB.out hx382_0
     replace hx382_1 := up HB.out hx382_1
     replace hx382_2 := up HB.out hx382_2
     replace hx382_3 := up HB.out hx382_3
     replace hx382_4 := up HB.out hx382_4
     replace p382 := eq_true p382
     replace q382 := eq_true q382
     go_wp2_with (first | (refine bx 5 #[.int .i64 0, .int .i64 0, .int .i64 0, .int .i64 0, .int .i64 0] 49 rfl ?_; intro gb383 hg w11 hbox hb; have BK383 := am (hbox); have GW383 := am (ge hg (bg1 HB.out GE381.out)); have GE383 := GW383; replace HB := am (below_step (bg1 HB.out GE381.out) hb); have NB381_383 := am (nb hg (pb BK381.out)); have NB383_381 := am (Ne.symm NB381_383.out); replace BK381 := am (blk_below (pb BK381.out) hb); clear hb hbox hg; have hnb12 := NB383_381.out; have hnc12 := NB381_383.out; obtain ⟨hcz13_0, hcz13_1, hcz13_2, hcz13_3, hcz13_4⟩ := b5 BK383.out; obtain ⟨hfz13_0, hfz13_1, hfz13_2, hfz13_3, hfz13_4⟩ := f5 BK383.out))
     go_roundg k1
     case measure => have := HK1.out; omega
     case rel => exact ⟨(x3_1), (wrap64 (x9_1 + 1)), rf, rf, H', ⟨by have := HK1.out; omega⟩, ⟨bf5 (pb BK381.out) NB381_383.out⟩, ⟨bg2 HB.out GE381.out GE383.out⟩⟩
   rw [if_pos c7] at H
   have c7b0 : (((rd_T49 l0_0 x9_1).f0) == 0) = true := beq_iff_eq.mpr c7
   have c7b1 : (((rd_T49 l0_0 x9_1).f0) != 0) = false := bne_eq_false_iff_eq.mpr c7
   clear c7
   have H' := am H
   clear H
   have p382 : 0 ≤ (x9_1 : Int) := ofb
   have q382 : x9_1 < (l0_0.length : Int) := ofb
   obtain ⟨ad382, e382, hx382_0, hx382_1, hx382_2, hx382_3, hx382_4⟩ := at_T49 HR0_0.out x9_1 p382 q382
   cases e382
   replace hx382_0 := up HB.out hx382_0
   replace hx382_1 := up HB.out hx382_1
   replace hx382_2 := up HB.out hx382_2
   replace hx382_3 := up HB.out hx382_3
   replace hx382_4 := up HB.out hx382_4
   replace p382 := eq_true p382
   replace q382 := eq_true q382
   go_wp2_with (first | (refine bx 5 #[.int .i64 0, .int .i64 0, .int .i64 0, .int .i64 0, .int .i64 0] 49 rfl ?_; intro gb383 hg w8 hbox hb; have BK383 := am (hbox); have GW383 := am (ge hg (bg1 HB.out GE381.out)); have GE383 := GW383; replace HB := am (below_step (bg1 HB.out GE381.out) hb); have NB381_383 := am (nb hg (pb BK381.out)); have NB383_381 := am (Ne.symm NB381_383.out); replace BK381 := am (blk_below (pb BK381.out) hb); clear hb hbox hg; have hnb9 := NB383_381.out; have hnc9 := NB381_383.out; obtain ⟨hcz10_0, hcz10_1, hcz10_2, hcz10_3, hcz10_4⟩ := b5 BK383.out; obtain ⟨hfz10_0, hfz10_1, hfz10_2, hfz10_3, hfz10_4⟩ := f5 BK383.out))
   go_roundg k1
   case measure => have := HK1.out; omega
   case rel => exact ⟨(wrap64 (x3_1 + 1)), (wrap64 (x9_1 + 1)), rf, rf, H', ⟨by have := HK1.out; omega⟩, ⟨bf5 (pb BK381.out) NB381_383.out⟩, ⟨bg2 HB.out GE381.out GE383.out⟩⟩
def impl_partlyUsed.f (k : Nat) (l0_0 : List (S49)) (a0_1 : Int) : Option (Bool) := (impl_freePages.f k l0_0 a0_1).bind fun t385 => (if t385 > 0 then (some (decide (t385 < 4))) else (some false))
theorem impl_partlyUsed.mono : ∀ a0 a1 k, LeO (impl_partlyUsed.f k a0 a1) (impl_partlyUsed.f (k + 1) a0 a1) := by
 intro a0 a1 k
 unfold impl_partlyUsed.f
 with_reducible repeat' first | exact impl_freePages.mono _ _ _ | exact LeO.refl _ | exact LeO.none _ | refine LeO.ite ?_ ?_ | refine LeO.bind ?_ (fun _ => ?_)
set_option maxHeartbeats 8000000 in
set_option maxRecDepth 100000 in
theorem impl_partlyUsed.calls (k : Nat) (A0_0 : Option Addr) (c0_0 : Nat) (l0_0 : List (S49)) (a0_1 : Int) (r : Bool) (w : World) (hr0_0 : Kd.C k49 w A0_0 l0_0.length l0_0) (hc0_0 : l0_0.length ≤ c0_0) (h : impl_partlyUsed.f k l0_0 a0_1 = some r) :
 Calls Try.prog 20 #[.agg #[.slice A0_0 l0_0.length c0_0, .int .i64 a0_1]] w fun e w' => e = .returned (.bool r) ∧ Below w.heap.size w w' := by
 have hu53 := Try.underlying53
 have HR0_0 := am hr0_0
 have HC0_0 := am hc0_0
 clear hr0_0 hc0_0
 have HB := am (Below.refl w.heap.size w)
 have H : ((impl_freePages.f k l0_0 a0_1).bind fun t385 => (if t385 > 0 then (some (decide (t385 < 4))) else (some false))) = some r := h
 clear h
 replace H := Option.bind_eq_some_iff.mp H
 obtain ⟨t385, A20, H⟩ := H
 have A2 := am A20
 clear A20
 by_cases c3 : t385 > 0
 · rw [if_pos c3] at H
   have c3b0 := decide_eq_true c3
   clear c3
   obtain rfl := Option.some.inj H
   go_enter Try.func20, Try.ntmps20
   go_wp2_with (first | (refine bx 1 #[.slice A0_0 l0_0.length c0_0, .int .i64 a0_1] 53 rfl ?_; intro gb384 hg w4 hbox hb; have BK384 := am (hbox); have GW384 := am (ge hg (ph HB.out)); have GE384 := GW384; replace HB := am (below_step (ph HB.out) hb); clear hb hbox hg; obtain ⟨hcz5_0, hcz5_1⟩ := b2 BK384.out; obtain ⟨hfz5_0, hfz5_1⟩ := f2 BK384.out) | (refine gl 5 Try.func21 #[.agg #[.slice A0_0 l0_0.length c0_0, .int .i64 a0_1]] rfl ?_; (with_reducible refine (impl_freePages.calls k _ _ l0_0 a0_1 t385 _ ?side1 ?side2 A2.out).mono ?_); (case side1 => exact pc (Kd.C_below HR0_0.out HB.out)); (case side2 => exact HC0_0.out); rintro e w6 ⟨rfl, hb⟩; refine ⟨_, rfl, ?_⟩; replace BK384 := am (blk_below (pb BK384.out) hb); replace HB := am (below_step (bg1 HB.out GE384.out) hb); clear hb))
   go_ret
   exact (rq (bg1 HB.out GE384.out))
 rw [if_neg c3] at H
 have c3b0 := decide_eq_false c3
 clear c3
 obtain rfl := Option.some.inj H
 go_enter Try.func20, Try.ntmps20
 go_wp2_with (first | (refine bx 1 #[.slice A0_0 l0_0.length c0_0, .int .i64 a0_1] 53 rfl ?_; intro gb384 hg w7 hbox hb; have BK384 := am (hbox); have GW384 := am (ge hg (ph HB.out)); have GE384 := GW384; replace HB := am (below_step (ph HB.out) hb); clear hb hbox hg; obtain ⟨hcz8_0, hcz8_1⟩ := b2 BK384.out; obtain ⟨hfz8_0, hfz8_1⟩ := f2 BK384.out) | (refine gl 5 Try.func21 #[.agg #[.slice A0_0 l0_0.length c0_0, .int .i64 a0_1]] rfl ?_; (with_reducible refine (impl_freePages.calls k _ _ l0_0 a0_1 t385 _ ?side1 ?side2 A2.out).mono ?_); (case side1 => exact pc (Kd.C_below HR0_0.out HB.out)); (case side2 => exact HC0_0.out); rintro e w9 ⟨rfl, hb⟩; refine ⟨_, rfl, ?_⟩; replace BK384 := am (blk_below (pb BK384.out) hb); replace HB := am (below_step (bg1 HB.out GE384.out) hb); clear hb))
 go_ret
 exact (rq (bg1 HB.out GE384.out))
end Go.Proofs.Ytplbiahehondaaa.Rx
