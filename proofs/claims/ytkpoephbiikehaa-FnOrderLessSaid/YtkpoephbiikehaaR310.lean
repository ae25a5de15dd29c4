-- printed by wip/pp/pp.py
import Derived.Test.YtkpoephbiikehaaR30
import Derived.RangeFuncNested
import Derived.RangeFuncBound
import Derived.RangeFuncCalls
import Derived.RangeFuncLeaves
import Derived.Shelf.Abstract
import Derived.WalkKit
import Derived.OwnWalkIn
import Derived.TacticsInMore
import Derived.LoopNIn
import Derived.LoopIn
import Derived.IntWalk
import Derived.Test.YtkpoephbiikehaaR39
import Derived.Test.YtkpoephbiikehaaR33
namespace Go.Proofs.Ytkpoephbiikehaa.R3
open Go.RowKit Go.Proofs.YtkpoephbiikehaaW.PrintWords Go.Proofs.YtkpoephbiikehaaW.PrintLast Go.Proofs.YtkpoephbiikehaaW.PrintMore
attribute [local go_sem] max2_int min2_int max_two min_two max_three min_three max_four min_four
set_option linter.unusedVariables false
set_option linter.unusedSimpArgs false
def impl_freePages.l0 : Nat → Int → List (S29) → Int → Int → Option (Int)
 | 0, _, _, _, _ => none
 | k + 1, x3, x7, x8, x9 => if x9 < x8 then (if 0 ≤ x9 then (if x9 < (x7.length : Int) then (if ((rd_T29 x7 x9).f0) = 0 then (impl_freePages.l0 k (wrap64 (x3 + 1)) x7 x8 (wrap64 (x9 + 1))) else (impl_freePages.l0 k x3 x7 x8 (wrap64 (x9 + 1)))) else (none)) else (none)) else (some x3)
def impl_freePages.f (k : Nat) (l0_0 : List (S29)) (a0_1 : Int) : Option (Int) := impl_freePages.l0 k 0 l0_0 (l0_0.length : Int) 0
theorem impl_freePages.mono_l : ∀ k, (∀ y0 y1 y2 y3, LeO (impl_freePages.l0 k y0 y1 y2 y3) (impl_freePages.l0 (k + 1) y0 y1 y2 y3))
 | 0 => fun _ _ _ _ r h => by simp [impl_freePages.l0] at h
 | k + 1 => by
  have ih0 := impl_freePages.mono_l k
  · intro y0 y1 y2 y3
    unfold impl_freePages.l0
    with_reducible repeat' first | exact ih0 _ _ _ _ | exact LeO.refl _ | exact LeO.none _ | refine LeO.ite ?_ ?_ | refine LeO.bind ?_ (fun _ => ?_)
theorem impl_freePages.mono : ∀ a0 a1 k, LeO (impl_freePages.f k a0 a1) (impl_freePages.f (k + 1) a0 a1) := by
 intro a0 a1 k
 have ih0 := impl_freePages.mono_l k
 unfold impl_freePages.f
 with_reducible repeat' first | exact ih0 _ _ _ _ | exact LeO.refl _ | exact LeO.none _ | refine LeO.ite ?_ ?_ | refine LeO.bind ?_ (fun _ => ?_)
set_option maxHeartbeats 8000000 in
set_option maxRecDepth 100000 in
theorem impl_freePages.calls (k : Nat) (A0_0 : Option Addr) (c0_0 : Nat) (l0_0 : List (S29)) (a0_1 : Int) (r : Int) (w : World) (hr0_0 : Kd.C k29 w A0_0 l0_0.length l0_0) (hc0_0 : l0_0.length ≤ c0_0) (h : impl_freePages.f k l0_0 a0_1 = some r) :
 Calls Try.prog 19 #[.agg #[.slice A0_0 l0_0.length c0_0, .int .i64 a0_1]] w fun e w' => e = .returned (.int .i64 r) ∧ Below w.heap.size w w' := by
 have hu32 := Try.underlying32
 have hu29 := Try.underlying29
 have HR0_0 := am hr0_0
 have HC0_0 := am hc0_0
 clear hr0_0 hc0_0
 have HB := am (Below.refl w.heap.size w)
 have H : (impl_freePages.l0 k 0 l0_0 (l0_0.length : Int) 0) = some r := h
 clear h
 have H' := am H
 clear H
 go_enter Try.func19, Try.ntmps19
 go_wp2_with (first | (refine bx 1 #[.slice A0_0 l0_0.length c0_0, .int .i64 a0_1] 32 rfl ?_; intro gb360 hg w2 hbox hb; have BK360 := am (hbox); have GW360 := am (ge hg (ph HB.out)); have GE360 := GW360; replace HB := am (below_step (ph HB.out) hb); clear hb hbox hg; obtain ⟨hcz3_0, hcz3_1⟩ := b2 BK360.out; obtain ⟨hfz3_0, hfz3_1⟩ := f2 BK360.out))
 go_loopg [3, 9] k (fun kq v3 v9 w' => ∃ (x3_1 : Int) (x9_1 : Int), v3 = .int .i64 x3_1 ∧ v9 = .int .i64 x9_1 ∧ Aside0 (impl_freePages.l0 kq x3_1 l0_0 (l0_0.length : Int) x9_1 = some r) ∧ Aside0 (kq ≤ k) ∧ Aside0 (w'.heap[gb360]? = some (.cells #[(.slice A0_0 l0_0.length c0_0), .int .i64 a0_1] 32 (0, 0))) ∧ Aside0 (Below w.heap.size w w'))
 case atStart => exact ⟨(0), (0), rf, rf, H', ⟨Nat.le_refl _⟩, ⟨pb BK360.out⟩, ⟨bg1 HB.out GE360.out⟩⟩
 case round =>
  clear H'
  obtain ⟨x3_1, x9_1, rfl, rfl, HA, HK1, BK360, HB⟩ := hrel
  cases gk with
  | zero => exact absurd HA.out (by simp [impl_freePages.l0])
  | succ k1 =>
   have H := HA.out
   clear HA
   simp only [impl_freePages.l0] at H
   by_cases c4 : x9_1 < (l0_0.length : Int)
   rotate_left
   · rw [if_neg c4] at H
     have c4b0 := decide_eq_false c4
     clear c4
     obtain rfl := Option.some.inj H
     go_wp2
     go_ret
     exact (rq (bg1 HB.out GE360.out))
   rw [if_pos c4] at H
   have c4b0 := decide_eq_true c4
   clear c4
   obtain ⟨c5b0, H⟩ := ifd H
   obtain ⟨c6b0, H⟩ := ifd H
   by_cases c7 : ((rd_T29 l0_0 x9_1).f0) = 0
   rotate_left
   · rw [if_neg c7] at H
     have c7b0 : (((rd_T29 l0_0 x9_1).f0) == 0) = false := beq_eq_false_iff_ne.mpr c7
     have c7b1 : (((rd_T29 l0_0 x9_1).f0) != 0) = true := bne_iff_ne.mpr c7
     have H' := am H
     clear H
     have p361 : 0 ≤ (x9_1 : Int) := ofb
     have q361 : x9_1 < (l0_0.length : Int) := ofb
     obtain ⟨ad361, e361, hx361_0, hx361_1, hx361_2, hx361_3, hx361_4⟩ := at_T29 HR0_0.out x9_1 p361 q361
     cases e361
     replace hx361_0 := up HB.out hx361_0
     replace hx361_1 := up HB.out hx361_1
     replace hx361_2 := up HB.out hx361_2
     replace hx361_3 := up HB.out hx361_3
     replace hx361_4 := up HB.out hx361_4
     replace p361 := eq_true p361
     replace q361 := eq_true q361
     go_wp2_with (first | (refine bx 5 #[.int .i64 0, .int .i64 0, .int .i64 0, .int .i64 0, .int .i64 0] 29 rfl ?_; intro gb362 hg w11 hbox hb; have BK362 := am (hbox); have GW362 := am (ge hg (bg1 HB.out GE360.out)); have GE362 := GW362; replace HB := am (below_step (bg1 HB.out GE360.out) hb); have NB360_362 := am (nb hg (pb BK360.out)); have NB362_360 := am (Ne.symm NB360_362.out); replace BK360 := am (blk_below (pb BK360.out) hb); clear hb hbox hg; have hnb12 := NB362_360.out; have hnc12 := NB360_362.out; obtain ⟨hcz13_0, hcz13_1, hcz13_2, hcz13_3, hcz13_4⟩ := b5 BK362.out; obtain ⟨hfz13_0, hfz13_1, hfz13_2, hfz13_3, hfz13_4⟩ := f5 BK362.out))
     go_roundg k1
     case measure => have := HK1.out; omega
     case rel => exact ⟨(x3_1), (wrap64 (x9_1 + 1)), rf, rf, H', ⟨by have := HK1.out; omega⟩, ⟨bf5 (pb BK360.out) NB360_362.out⟩, ⟨bg2 HB.out GE360.out GE362.out⟩⟩
   rw [if_pos c7] at H
   have c7b0 : (((rd_T29 l0_0 x9_1).f0) == 0) = true := beq_iff_eq.mpr c7
   have c7b1 : (((rd_T29 l0_0 x9_1).f0) != 0) = false := bne_eq_false_iff_eq.mpr c7
   clear c7
   have H' := am H
   clear H
   have p361 : 0 ≤ (x9_1 : Int) := ofb
   have q361 : x9_1 < (l0_0.length : Int) := ofb
   obtain ⟨ad361, e361, hx361_0, hx361_1, hx361_2, hx361_3, hx361_4⟩ := at_T29 HR0_0.out x9_1 p361 q361
   cases e361
   replace hx361_0 := up HB.out hx361_0
   replace hx361_1 := up HB.out hx361_1
   replace hx361_2 := up HB.out hx361_2
   replace hx361_3 := up HB.out hx361_3
   replace hx361_4 := up HB.out hx361_4
   replace p361 := eq_true p361
   replace q361 := eq_true q361
   go_wp2_with (first | (refine bx 5 #[.int .i64 0, .int .i64 0, .int .i64 0, .int .i64 0, .int .i64 0] 29 rfl ?_; intro gb362 hg w8 hbox hb; have BK362 := am (hbox); have GW362 := am (ge hg (bg1 HB.out GE360.out)); have GE362 := GW362; replace HB := am (below_step (bg1 HB.out GE360.out) hb); have NB360_362 := am (nb hg (pb BK360.out)); have NB362_360 := am (Ne.symm NB360_362.out); replace BK360 := am (blk_below (pb BK360.out) hb); clear hb hbox hg; have hnb9 := NB362_360.out; have hnc9 := NB360_362.out; obtain ⟨hcz10_0, hcz10_1, hcz10_2, hcz10_3, hcz10_4⟩ := b5 BK362.out; obtain ⟨hfz10_0, hfz10_1, hfz10_2, hfz10_3, hfz10_4⟩ := f5 BK362.out))
   go_roundg k1
   case measure => have := HK1.out; omega
   case rel => exact ⟨(wrap64 (x3_1 + 1)), (wrap64 (x9_1 + 1)), rf, rf, H', ⟨by have := HK1.out; omega⟩, ⟨bf5 (pb BK360.out) NB360_362.out⟩, ⟨bg2 HB.out GE360.out GE362.out⟩⟩
def impl_partlyUsed.f (k : Nat) (l0_0 : List (S29)) (a0_1 : Int) : Option (Bool) := (impl_freePages.f k l0_0 a0_1).bind fun t364 => (if t364 > 0 then (some (decide (t364 < 4))) else (some false))
theorem impl_partlyUsed.mono : ∀ a0 a1 k, LeO (impl_partlyUsed.f k a0 a1) (impl_partlyUsed.f (k + 1) a0 a1) := by
 intro a0 a1 k
 unfold impl_partlyUsed.f
 with_reducible repeat' first | exact impl_freePages.mono _ _ _ | exact LeO.refl _ | exact LeO.none _ | refine LeO.ite ?_ ?_ | refine LeO.bind ?_ (fun _ => ?_)
set_option maxHeartbeats 8000000 in
set_option maxRecDepth 100000 in
theorem impl_partlyUsed.calls (k : Nat) (A0_0 : Option Addr) (c0_0 : Nat) (l0_0 : List (S29)) (a0_1 : Int) (r : Bool) (w : World) (hr0_0 : Kd.C k29 w A0_0 l0_0.length l0_0) (hc0_0 : l0_0.length ≤ c0_0) (h : impl_partlyUsed.f k l0_0 a0_1 = some r) :
 Calls Try.prog 13 #[.agg #[.slice A0_0 l0_0.length c0_0, .int .i64 a0_1]] w fun e w' => e = .returned (.bool r) ∧ Below w.heap.size w w' := by
 have hu32 := Try.underlying32
 have HR0_0 := am hr0_0
 have HC0_0 := am hc0_0
 clear hr0_0 hc0_0
 have HB := am (Below.refl w.heap.size w)
 have H : ((impl_freePages.f k l0_0 a0_1).bind fun t364 => (if t364 > 0 then (some (decide (t364 < 4))) else (some false))) = some r := h
 clear h
 replace H := Option.bind_eq_some_iff.mp H
 obtain ⟨t364, A20, H⟩ := H
 have A2 := am A20
 clear A20
 by_cases c3 : t364 > 0
 · rw [if_pos c3] at H
   have c3b0 := decide_eq_true c3
   clear c3
   obtain rfl := Option.some.inj H
   go_enter Try.func13, Try.ntmps13
   go_wp2_with (first | (refine bx 1 #[.slice A0_0 l0_0.length c0_0, .int .i64 a0_1] 32 rfl ?_; intro gb363 hg w4 hbox hb; have BK363 := am (hbox); have GW363 := am (ge hg (ph HB.out)); have GE363 := GW363; replace HB := am (below_step (ph HB.out) hb); clear hb hbox hg; obtain ⟨hcz5_0, hcz5_1⟩ := b2 BK363.out; obtain ⟨hfz5_0, hfz5_1⟩ := f2 BK363.out) | (refine gl 5 Try.func19 #[.agg #[.slice A0_0 l0_0.length c0_0, .int .i64 a0_1]] rfl ?_; (with_reducible refine (impl_freePages.calls k _ _ l0_0 a0_1 t364 _ ?side1 ?side2 A2.out).mono ?_); (case side1 => exact pc (Kd.C_below HR0_0.out HB.out)); (case side2 => exact HC0_0.out); rintro e w6 ⟨rfl, hb⟩; refine ⟨_, rfl, ?_⟩; replace BK363 := am (blk_below (pb BK363.out) hb); replace HB := am (below_step (bg1 HB.out GE363.out) hb); clear hb))
   go_ret
   exact (rq (bg1 HB.out GE363.out))
 rw [if_neg c3] at H
 have c3b0 := decide_eq_false c3
 clear c3
 obtain rfl := Option.some.inj H
 go_enter Try.func13, Try.ntmps13
 go_wp2_with (first | (refine bx 1 #[.slice A0_0 l0_0.length c0_0, .int .i64 a0_1] 32 rfl ?_; intro gb363 hg w7 hbox hb; have BK363 := am (hbox); have GW363 := am (ge hg (ph HB.out)); have GE363 := GW363; replace HB := am (below_step (ph HB.out) hb); clear hb hbox hg; obtain ⟨hcz8_0, hcz8_1⟩ := b2 BK363.out; obtain ⟨hfz8_0, hfz8_1⟩ := f2 BK363.out) | (refine gl 5 Try.func19 #[.agg #[.slice A0_0 l0_0.length c0_0, .int .i64 a0_1]] rfl ?_; (with_reducible refine (impl_freePages.calls k _ _ l0_0 a0_1 t364 _ ?side1 ?side2 A2.out).mono ?_); (case side1 => exact pc (Kd.C_below HR0_0.out HB.out)); (case side2 => exact HC0_0.out); rintro e w9 ⟨rfl, hb⟩; refine ⟨_, rfl, ?_⟩; replace BK363 := am (blk_below (pb BK363.out) hb); replace HB := am (below_step (bg1 HB.out GE363.out) hb); clear hb))
 go_ret
 exact (rq (bg1 HB.out GE363.out))
def freeQ : List S29 → Nat
 | [] => 0
 | p :: ps => (if p.f0 = 0 then 1 else 0) + freeQ ps
attribute [local go_sem] Oper.semAt_some
theorem flash_four' {l : List S32} (h : flashOkB l = true) : l.length = 4 := by
 unfold flashOkB at h
 rw [Bool.and_eq_true, decide_eq_true_eq] at h
 omega
theorem freeQ_loop (l : List S29) (hl : l.length ≤ maxLen) : ∀ (n i m : Nat), i + n = l.length → m ≤ i → impl_freePages.l0 (n + 1) (m : Int) l (l.length : Int) (i : Int) = some ((m + freeQ (l.drop i) : Nat) : Int)
 | 0, i, m, h, hm => by
  rw [impl_freePages.l0, if_neg (by omega), List.drop_eq_nil_of_le (by omega)]
  rfl
 | n + 1, i, m, h, hm => by
  have ih1 := freeQ_loop l hl n (i + 1) (m + 1) (by omega) (by omega)
  have ih2 := freeQ_loop l hl n (i + 1) m (by omega) (by omega)
  have e1 : wrap64 ((i : Int) + 1) = ((i + 1 : Nat) : Int) := by simp only [maxLen] at hl; rw [IntWalk.wrap64_in _ (by omega)]; omega
  have e2 : wrap64 ((m : Int) + 1) = ((m + 1 : Nat) : Int) := by simp only [maxLen] at hl; rw [IntWalk.wrap64_in _ (by omega)]; omega
  rw [drop_pg (by omega : i < l.length), freeQ, impl_freePages.l0, if_pos (by omega), if_pos (by omega), if_pos (by omega), e1, e2]
  by_cases hs : (rd_T29 l (i : Int)).f0 = 0
  rotate_left
  · rw [if_neg hs, if_neg hs, Nat.zero_add]
    exact ih2
  rw [if_pos hs, if_pos hs, show m + (1 + freeQ (l.drop (i + 1))) = m + 1 + freeQ (l.drop (i + 1)) by omega]
  exact ih1
def partB (b : S32) : Bool := decide (0 < freeQ b.f0 ∧ freeQ b.f0 < 4)
theorem partlyUsed_ok (b : S32) (hl : b.f0.length ≤ maxLen) : ∃ k, impl_partlyUsed.f k b.f0 b.f1 = some (partB b) := by
 refine ⟨b.f0.length + 1, ?_⟩
 have := freeQ_loop b.f0 hl b.f0.length 0 0 (by omega) (by omega)
 have this2 : impl_freePages.l0 (b.f0.length + 1) 0 b.f0 (b.f0.length : Int) 0 = _ := this
 unfold impl_partlyUsed.f impl_freePages.f partB
 rw [this2, Option.bind_some, List.drop_zero, Nat.zero_add]
 by_cases h : 0 < freeQ b.f0
 rotate_left
 · rw [if_neg (by omega), decide_eq_false (fun q => h q.1)]
 rw [if_pos (by omega)]
 by_cases h4 : freeQ b.f0 < 4
 · rw [decide_eq_true (by omega : ((freeQ b.f0 : Nat) : Int) < 4), decide_eq_true ⟨h, h4⟩]
 rw [decide_eq_false (by omega : ¬ ((freeQ b.f0 : Nat) : Int) < 4), decide_eq_false (fun q => h4 q.2)]
def crossB (a b : Int × Int) : Bool := decide (a.2 > 0 ∧ b.2 > 0 ∧ a.2 ≥ b.1 ∧ b.2 ≥ a.1)
def overI (s : Spans) (i : Nat) : Nat → Bool
 | 0 => false
 | j + 1 => overI s i j || crossB (s i) (s j)
def overN (s : Spans) : Nat → Bool
 | 0 => false
 | i + 1 => overN s i || overI s i i
def newestN (s : Spans) : Nat → Int
 | 0 => 0
 | i + 1 => mx (newestN s i) (s i).2
def partN (l : List S32) : Nat → Nat
 | 0 => 0
 | i + 1 => partN l i + (if partB (rd_T32 l (i : Int)) = true then 1 else 0)
def badN (l : List S32) (s : Spans) (m : Int) : Nat → Bool
 | 0 => false
 | i + 1 => badN l s m i || (partB (rd_T32 l (i : Int)) && decide ((s i).2 > 0 ∧ (s i).2 < m))
theorem partN_le (l : List S32) : ∀ i, partN l i ≤ i
 | 0 => Nat.le_refl _
 | i + 1 => by
  have := partN_le l i
  rw [partN]
  split <;> omega
theorem overI_of {s : Spans} {i j : Nat} (h : crossB (s i) (s j) = true) : ∀ n, j < n → overI s i n = true
 | 0, hn => by omega
 | n + 1, hn => by
  rw [overI, Bool.or_eq_true]
  by_cases e : j = n
  · subst e; exact .inr h
  exact .inl (overI_of h n (by omega))
theorem overN_of {s : Spans} {i : Nat} (h : overI s i i = true) : ∀ n, i < n → overN s n = true
 | 0, hn => by omega
 | n + 1, hn => by
  rw [overN, Bool.or_eq_true]
  by_cases e : i = n
  · subst e; exact .inr h
  exact .inl (overN_of h n (by omega))
theorem badN_of {l : List S32} {s : Spans} {m : Int} {i : Nat} (h : partB (rd_T32 l (i : Int)) = true) (h2 : (s i).2 > 0 ∧ (s i).2 < m) : ∀ n, i < n → badN l s m n = true
 | 0, hn => by omega
 | n + 1, hn => by
  rw [badN, Bool.or_eq_true]
  by_cases e : i = n
  rotate_left
  · exact .inl (badN_of h h2 n (by omega))
  subst e; exact .inr (by rw [h, decide_eq_true h2]; rfl)
theorem overI_step {s : Spans} {i j : Nat} (h : overI s i j = false) (h2 : crossB (s i) (s j) = false) : overI s i (j + 1) = false := by rw [overI, h, h2]; rfl
theorem crossB_false {a b : Int × Int} (h : ¬ (a.2 > 0 ∧ b.2 > 0 ∧ a.2 ≥ b.1 ∧ b.2 ≥ a.1)) : crossB a b = false := decide_eq_false h
def orderI (l : List S32) : Bool := flashOkB l && (!overN (spansF l) 4 && (!badN l (spansF l) (newestN (spansF l) 4) 4 && decide (partN l 4 ≤ 1)))
def impl_FindOrder.f (l0 : List (S32)) : Option (Bool) := some (orderI l0)
set_option maxRecDepth 100000 in
set_option maxHeartbeats 8000000 in
theorem impl_FindOrder.calls (A0 : Option Addr) (c0 : Nat) (l0 : List (S32)) (r : Bool) (w : World) (hr0 : Kd.C k32 w A0 l0.length l0) (hc0 : l0.length ≤ c0) (h : impl_FindOrder.f l0 = some r) :
 Calls Try.prog 5 #[.slice A0 l0.length c0] w fun e w' => e = .returned (.bool r) ∧ Below w.heap.size w w' := by
 obtain rfl := Option.some.inj h
 clear h
 refine (callsIn_wide (n := 3)).1 ?_
 have hok := callsIn_wide (n := 2).2 (impl_FlashOk.calls A0 c0 l0 _ w hr0 hc0 rfl)
 have hu := Try.underlying42
 have hu2 := Try.underlying32
 unfold orderI
 cases hf : flashOkB l0 with
 | false =>
  rw [hf] at hok
  refine callsIn_of_wp Try.func5 rfl trivial ?_ rfl
  simp only [Try.ntmps5, List.size_toArray, List.length_cons, List.length_nil, Nat.reduceAdd, Nat.reduceSub, Array.replicate_succ, Array.replicate_zero, List.push_toArray, List.append_toArray, List.nil_append, List.cons_append]
  gi_wp2_with (first | (refine ⟨trivial, ?_⟩; gi_at_call 11; refine hok.mono ?_; rintro e w1 ⟨rfl, hb⟩))
  go_ret
  exact ⟨rfl, hb⟩
 | true =>
  rw [hf] at hok
  have hl := flash_four' hf
  rw [Bool.true_and]
  have hsp : ∀ W, Below w.heap.size w W → CallsIn Fence.wide 2 Try.prog 12 #[.slice A0 4 c0] W fun e w' => ∃ g, e = .returned (.slice (some ⟨g, 0, none⟩) 4 4) ∧ SpansBox w' g (spansF l0) ∧ W.heap.size ≤ g ∧ Below W.heap.size W w' := fun W hb => callsIn_wide.2 (spansOf_any A0 c0 l0 W (Kd.C_below hr0 hb) hl)
  generalize spansF l0 = s at hsp ⊢
  obtain ⟨V, hV⟩ : ∃ V : Bool, (!overN s 4 && (!badN l0 s (newestN s 4) 4 && decide (partN l0 4 ≤ 1))) = V := ⟨_, rfl⟩
  rw [hV]
  have HV := am hV
  clear hV
  rw [hl] at hok ⊢
  refine callsIn_of_wp Try.func5 rfl trivial ?_ rfl
  simp only [Try.ntmps5, List.size_toArray, List.length_cons, List.length_nil, Nat.reduceAdd, Nat.reduceSub, Array.replicate_succ, Array.replicate_zero, List.push_toArray, List.append_toArray, List.nil_append, List.cons_append]
  gi_wp2_with (first | (refine ⟨trivial, ?_⟩; gi_at_call 11; refine hok.mono ?_; rintro e w1 ⟨rfl, hb⟩) | (refine ⟨trivial, ?_⟩; gi_at_call 12; refine (hsp _ hb).mono ?_; rintro e w2 ⟨g, rfl, hsb, hg, hb2⟩))
  have hB0 := below_then hb hb.size hb2
  clear hsp hok
  gi_loopw [19, 4] (fun v19 v4 wr => ∃ i : Nat, v19 = .int .i64 (i : Int) ∧ v4 = .int .i64 (newestN s i) ∧ i ≤ 4 ∧ overN s i = false ∧ SpansBox wr g s ∧ Below w.heap.size w wr) (fun v19 _ _ => 4 - (intOf v19).toNat)
  case atStart => exact ⟨0, rfl, rfl, by omega, rfl, hsb, hB0⟩
  case round =>
   clear hsb hB0
   obtain ⟨i, rfl, rfl, hi, hov, hbx, hB⟩ := hrel
   by_cases ci : i < 4
   · have cib : decide ((i : Int) < 4) = true := decide_eq_true (by omega)
     have p1 : 0 ≤ (i : Int) := by omega
     have q1 : (i : Int) < 4 := by omega
     obtain ⟨h1, h2⟩ := hbx.at_ i ci
     have hglt := blk_lt hbx
     have hst : newestN s (i + 1) = mx (newestN s i) (s i).2 := rfl
     gi_wp2
     all_goals
      have hA := blk_new wr (.cells #[.int .i64 (s i).1, .int .i64 (s i).2] 42)
      have hbx := blk_alloc hbx (.cells #[.int .i64 (s i).1, .int .i64 (s i).2] 42)
      have hB := below_alloc hB (.cells #[.int .i64 (s i).1, .int .i64 (s i).2] 42)
      clear h1 h2 hglt
      generalize wr.heap.size = gA at hA ⊢
      generalize wr.alloc (.cells #[.int .i64 (s i).1, .int .i64 (s i).2] 42) = wa at hA hbx hB ⊢
      gi_loopw [32] (fun v32 w3 => ∃ j : Nat, v32 = .int .i64 (j : Int) ∧ j ≤ i ∧ overI s i j = false ∧ SpansBox w3 g s ∧ w3.heap[gA]? = some (.cells #[.int .i64 (s i).1, .int .i64 (s i).2] 42 (0, 0)) ∧ Below w.heap.size w w3) (fun v32 _ => i - (intOf v32).toNat)
      case atStart => exact ⟨0, rfl, by omega, rfl, hbx, hA, hB⟩
      case round =>
       clear hbx hA hB
       obtain ⟨j, rfl, hj, hoj, hbx, hA, hB⟩ := hrel
       by_cases cj : j < i
       rotate_left
       · obtain rfl : j = i := by omega
         have HC : Aside0 (overN s (j + 1) = false) := ⟨by rw [overN, hov, hoj]; rfl⟩
         have HM : Aside0 (newestN s (j + 1) = mx (newestN s j) (s j).2) := ⟨rfl⟩
         clear hst
         gi_wp2
         refine ⟨⟨j + 1, by simp, ?_, by omega, HC.out, hbx, hB⟩, by simp [intOf]; omega⟩
         rw [HM.out]
         unfold mx
         first
          | (rw [if_pos (by assumption)]; done)
          | (rw [if_pos (by omega)]; done)
          | (rw [if_neg (by omega)]; done)
       have cjb : decide ((j : Int) < (i : Int)) = true := decide_eq_true (by omega)
       have p2 : 0 ≤ (j : Int) := by omega
       have q2 : (j : Int) < (i : Int) := by omega
       obtain ⟨h3, h4⟩ := hbx.at_ j (by omega)
       have hglt := blk_lt hbx
       have hAlt := blk_lt hA
       have ha0 : wr.cell? ⟨gA, 0, none⟩ = some (.int .i64 (s i).1) := (blk_cell hA 0).trans rfl
       have ha1 : wr.cell? ⟨gA, 1, none⟩ = some (.int .i64 (s i).2) := (blk_cell hA 1).trans rfl
       by_cases k1 : 0 < (s i).2
       rotate_left
       · have k1b : decide (0 < (s i).2) = false := decide_eq_false k1
         have HC := am (overI_step hoj (crossB_false (fun q => k1 q.1)))
         gi_wp2
         exact ⟨⟨j + 1, by simp, by omega, HC.out, blk_alloc hbx _, blk_alloc hA _, below_alloc hB _⟩, by simp [intOf]; omega⟩
       have k1b : decide (0 < (s i).2) = true := decide_eq_true k1
       by_cases k2 : 0 < (s j).2
       rotate_left
       · have k2b : decide (0 < (s j).2) = false := decide_eq_false k2
         have HC := am (overI_step hoj (crossB_false (fun q => k2 q.2.1)))
         gi_wp2
         exact ⟨⟨j + 1, by simp, by omega, HC.out, blk_alloc hbx _, blk_alloc hA _, below_alloc hB _⟩, by simp [intOf]; omega⟩
       have k2b : decide (0 < (s j).2) = true := decide_eq_true k2
       by_cases k3 : (s j).1 ≤ (s i).2
       rotate_left
       · have k3b : decide ((s j).1 ≤ (s i).2) = false := decide_eq_false k3
         have HC := am (overI_step hoj (crossB_false (fun q => k3 q.2.2.1)))
         gi_wp2
         exact ⟨⟨j + 1, by simp, by omega, HC.out, blk_alloc hbx _, blk_alloc hA _, below_alloc hB _⟩, by simp [intOf]; omega⟩
       have k3b : decide ((s j).1 ≤ (s i).2) = true := decide_eq_true k3
       by_cases k4 : (s i).1 ≤ (s j).2
       rotate_left
       · have k4b : decide ((s i).1 ≤ (s j).2) = false := decide_eq_false k4
         have HC := am (overI_step hoj (crossB_false (fun q => k4 q.2.2.2)))
         gi_wp2
         exact ⟨⟨j + 1, by simp, by omega, HC.out, blk_alloc hbx _, blk_alloc hA _, below_alloc hB _⟩, by simp [intOf]; omega⟩
       have k4b : decide ((s i).1 ≤ (s j).2) = true := decide_eq_true k4
       have hx : V = false := by rw [← HV.out, overN_of (overI_of (show crossB (s i) (s j) = true from decide_eq_true ⟨k1, k2, k3, k4⟩) i cj) 4 ci]; rfl
       have HX := am hx
       clear hx
       gi_wp2
       go_ret
       exact ⟨by rw [HX.out]; rfl, below_alloc hB _⟩
   obtain rfl : i = 4 := by omega
   generalize newestN s 4 = m at HV ⊢
   gi_wp2
   gi_loopw [62, 9] (fun v62 v9 wr => ∃ i : Nat, v62 = .int .i64 (i : Int) ∧ v9 = .int .i64 ((partN l0 i : Nat) : Int) ∧ i ≤ 4 ∧ badN l0 s m i = false ∧ SpansBox wr g s ∧ Below w.heap.size w wr) (fun v62 _ _ => 4 - (intOf v62).toNat)
   case atStart => exact ⟨0, rfl, rfl, by omega, rfl, hbx, hB⟩
   case round =>
    clear hbx hB
    obtain ⟨i, rfl, rfl, hi, hbad, hbx, hB⟩ := hrel
    have hple := partN_le l0 i
    by_cases ci : i < 4
    rotate_left
    · obtain rfl : i = 4 := by omega
      gi_wp2
      go_ret
      exact ⟨by rw [← HV.out, hov, hbad, Bool.not_false, Bool.true_and, Bool.true_and]; exact congrArg (fun b => Ending.returned (Value.bool b)) (decide_eq_decide.2 (by omega : ((partN l0 4 : Nat) : Int) ≤ 1 ↔ partN l0 4 ≤ 1)), hB⟩
    have cib : decide ((i : Int) < 4) = true := decide_eq_true (by omega)
    have p1 : 0 ≤ (i : Int) := by omega
    have q1 : (i : Int) < 4 := by omega
    obtain ⟨h1, h2⟩ := hbx.at_ i ci
    have hglt := blk_lt hbx
    obtain ⟨ad1, A1, c1, e1, hx1_0, hx1_1, hl1, hi1⟩ := at_T32 hr0 (i : Int) p1 (by omega)
    cases e1
    replace hx1_0 := (hB.cell (World.block_lt_of_cell? w _ hx1_0)).trans hx1_0
    replace hx1_1 := (hB.cell (World.block_lt_of_cell? w _ hx1_1)).trans hx1_1
    have hlm1 := Kd.C_max hi1
    simp only [Int.toNat_natCast] at hx1_0 hx1_1
    obtain ⟨kb, hkb⟩ := partlyUsed_ok (rd_T32 l0 (i : Int)) hlm1
    have hst1 : partN l0 (i + 1) = partN l0 i + (if partB (rd_T32 l0 (i : Int)) = true then 1 else 0) := rfl
    have hst2 : badN l0 s m (i + 1) = (badN l0 s m i || (partB (rd_T32 l0 (i : Int)) && decide ((s i).2 > 0 ∧ (s i).2 < m))) := rfl
    have hbo := fun n => badN_of (l := l0) (s := s) (m := m) (i := i) (h2 := n)
    have hpu : ∀ W, Below w.heap.size w W → CallsIn Fence.wide 2 Try.prog 13 #[.agg #[.slice A1 (rd_T32 l0 (i : Int)).f0.length c1, .int .i64 (rd_T32 l0 (i : Int)).f1]] W fun e w' => e = .returned (.bool (partB (rd_T32 l0 (i : Int)))) ∧ Below W.heap.size W w' := fun W hb => callsIn_wide.2 (impl_partlyUsed.calls kb _ _ _ _ _ W (Kd.C_below hi1 hb) hl1 hkb)
    clear hkb hi1
    generalize rd_T32 l0 (i : Int) = bl at hx1_0 hx1_1 hl1 hlm1 hst1 hst2 hbo hpu
    have hA := blk_new wr (.cells #[.slice A1 bl.f0.length c1, .int .i64 bl.f1] 32)
    have hbx2 := blk_alloc hbx (.cells #[.slice A1 bl.f0.length c1, .int .i64 bl.f1] 32)
    have hB2 := below_alloc hB (.cells #[.slice A1 bl.f0.length c1, .int .i64 bl.f1] 32)
    cases hpb : partB bl with
    | false =>
     rw [hpb] at hpu hst1 hst2
     gi_wp2_with (first | (refine ⟨trivial, ?_⟩; gi_at_call 13; refine (hpu _ hB2).mono ?_; rintro e w3 ⟨rfl, hb3⟩))
     go_roundw
     case rel =>
      (repeat apply Exists.intro)
      refine ⟨?_, rfl⟩
      exact ⟨i + 1, by simp, by rw [hst1]; simp, by omega, by rw [hst2, hbad]; rfl, blk_below hbx2 hb3, below_then hB2 hB2.size hb3⟩
     case measure => simp [intOf]; omega
    | true =>
     rw [hpb] at hpu hst1 hst2
     rw [if_pos rfl] at hst1
     by_cases k1 : 0 < (s i).2
     rotate_left
     · have k1b : decide (0 < (s i).2) = false := decide_eq_false k1
       have HC : Aside0 (badN l0 s m (i + 1) = false) := ⟨by rw [hst2, hbad, decide_eq_false (fun q => k1 q.1)]; rfl⟩
       gi_wp2_with (first | (refine ⟨trivial, ?_⟩; gi_at_call 13; refine (hpu _ hB2).mono ?_; rintro e w3 ⟨rfl, hb3⟩; have hbx3 := SpansBox.at_ (blk_below hbx2 hb3) i ci; have h5 := hbx3.2))
       go_roundw
       case rel =>
        (repeat apply Exists.intro)
        refine ⟨?_, rfl⟩
        exact ⟨i + 1, by simp, by rw [hst1]; simp, by omega, HC.out, blk_below hbx2 hb3, below_then hB2 hB2.size hb3⟩
       case measure => simp [intOf]; omega
     have k1b : decide (0 < (s i).2) = true := decide_eq_true k1
     by_cases k2 : (s i).2 < m
     · have k2b : decide ((s i).2 < m) = true := decide_eq_true k2
       have hx : V = false := by rw [← HV.out, hbo ⟨k1, k2⟩ hpb 4 ci, Bool.not_true, Bool.false_and, Bool.and_false]
       have HX := am hx
       clear hx
       gi_wp2_with (first | (refine ⟨trivial, ?_⟩; gi_at_call 13; refine (hpu _ hB2).mono ?_; rintro e w3 ⟨rfl, hb3⟩; have hbx3 := SpansBox.at_ (blk_below hbx2 hb3) i ci; have h5 := hbx3.2))
       go_ret
       exact ⟨by rw [HX.out]; rfl, below_then hB2 hB2.size hb3⟩
     have k2b : decide ((s i).2 < m) = false := decide_eq_false k2
     have HC : Aside0 (badN l0 s m (i + 1) = false) := ⟨by rw [hst2, hbad, decide_eq_false (fun q => k2 q.2)]; rfl⟩
     gi_wp2_with (first | (refine ⟨trivial, ?_⟩; gi_at_call 13; refine (hpu _ hB2).mono ?_; rintro e w3 ⟨rfl, hb3⟩; have hbx3 := SpansBox.at_ (blk_below hbx2 hb3) i ci; have h5 := hbx3.2))
     go_roundw
     case rel =>
      (repeat apply Exists.intro)
      refine ⟨?_, rfl⟩
      exact ⟨i + 1, by simp, by rw [hst1]; simp, by omega, HC.out, blk_below hbx2 hb3, below_then hB2 hB2.size hb3⟩
     case measure => simp [intOf]; omega
end Go.Proofs.Ytkpoephbiikehaa.R3
namespace Go.Proofs.Ytkpoephbiikehaa.R3
open Go.RowKit Go.Proofs.YtkpoephbiikehaaW.PrintWords Go.Proofs.YtkpoephbiikehaaW.PrintLast Go.Proofs.YtkpoephbiikehaaW.PrintMore
attribute [local go_sem] max2_int min2_int max_two min_two max_three min_three max_four min_four
set_option linter.unusedVariables false
set_option linter.unusedSimpArgs false
attribute [local go_sem high] eqA27
def spec_l2Page.f (a0_0 : Int) (a0_1 : Int) (a0_2 : Int) (a0_3 : Int) (a0_4 : Int) : Option (Bool) := if a0_0 = 1 then ((spec_RecOk.f a0_1 a0_2 a0_3 a0_4).bind fun t366 => (some t366)) else (if a0_0 = 0 then (some (a0_1 == 0 && (a0_2 == 0 && (a0_3 == 0 && (a0_4 == 0))))) else (if a0_0 = 2 then (some (a0_1 == 0 && (a0_2 == 0 && (a0_3 == 0 && (a0_4 == 0))))) else (some false)))
set_option maxHeartbeats 8000000 in
set_option maxRecDepth 100000 in
theorem spec_l2Page.calls (a0_0 : Int) (a0_1 : Int) (a0_2 : Int) (a0_3 : Int) (a0_4 : Int) (r : Bool) (w : World) (h : spec_l2Page.f a0_0 a0_1 a0_2 a0_3 a0_4 = some r) :
 Calls Try.prog 26 #[.agg #[.int .i64 a0_0, .int .i64 a0_1, .int .i64 a0_2, .int .i64 a0_3, .int .i64 a0_4]] w fun e w' => e = .returned (.bool r) ∧ Below w.heap.size w w' := by
 have hu29 := Try.underlying29
 have hu27 := Try.underlying27
 have HB := am (Below.refl w.heap.size w)
 have H : (if a0_0 = 1 then ((spec_RecOk.f a0_1 a0_2 a0_3 a0_4).bind fun t366 => (some t366)) else (if a0_0 = 0 then (some (a0_1 == 0 && (a0_2 == 0 && (a0_3 == 0 && (a0_4 == 0))))) else (if a0_0 = 2 then (some (a0_1 == 0 && (a0_2 == 0 && (a0_3 == 0 && (a0_4 == 0))))) else (some false)))) = some r := h
 clear h
 by_cases c2 : a0_0 = 1
 · rw [if_pos c2] at H
   have c2b0 : (a0_0 == 1) = true := beq_iff_eq.mpr c2
   have c2b1 : (a0_0 != 1) = false := bne_eq_false_iff_eq.mpr c2
   clear c2
   replace H := Option.bind_eq_some_iff.mp H
   obtain ⟨t366, A30, H⟩ := H
   have A3 := am A30
   clear A30
   obtain rfl := Option.some.inj H
   go_enter Try.func26, Try.ntmps26
   go_wp2_with (first | (refine bx 1 #[.int .i64 a0_0, .int .i64 a0_1, .int .i64 a0_2, .int .i64 a0_3, .int .i64 a0_4] 29 rfl ?_; intro gb365 hg w4 hbox hb; have BK365 := am (hbox); have GW365 := am (ge hg (ph HB.out)); have GE365 := GW365; replace HB := am (below_step (ph HB.out) hb); clear hb hbox hg; obtain ⟨hcz5_0, hcz5_1, hcz5_2, hcz5_3, hcz5_4⟩ := b5 BK365.out; obtain ⟨hfz5_0, hfz5_1, hfz5_2, hfz5_3, hfz5_4⟩ := f5 BK365.out) | (refine gl 9 Try.func32 #[.agg #[.int .i64 a0_1, .int .i64 a0_2, .int .i64 a0_3, .int .i64 a0_4]] rfl ?_; (with_reducible refine (spec_RecOk.calls a0_1 a0_2 a0_3 a0_4 t366 _ A3.out).mono ?_); rintro e w6 ⟨rfl, hb⟩; refine ⟨_, rfl, ?_⟩; replace BK365 := am (blk_below (pb BK365.out) hb); replace HB := am (below_step (bg1 HB.out GE365.out) hb); clear hb))
   go_ret
   exact (rq (bg1 HB.out GE365.out))
 rw [if_neg c2] at H
 have c2b0 : (a0_0 == 1) = false := beq_eq_false_iff_ne.mpr c2
 have c2b1 : (a0_0 != 1) = true := bne_iff_ne.mpr c2
 by_cases c7 : a0_0 = 0
 · rw [if_pos c7] at H
   have c7b0 : (a0_0 == 0) = true := beq_iff_eq.mpr c7
   have c7b1 : (a0_0 != 0) = false := bne_eq_false_iff_eq.mpr c7
   clear c7
   obtain rfl := Option.some.inj H
   go_enter Try.func26, Try.ntmps26
   go_wp2_with (first | (refine bx 1 #[.int .i64 a0_0, .int .i64 a0_1, .int .i64 a0_2, .int .i64 a0_3, .int .i64 a0_4] 29 rfl ?_; intro gb365 hg w8 hbox hb; have BK365 := am (hbox); have GW365 := am (ge hg (ph HB.out)); have GE365 := GW365; replace HB := am (below_step (ph HB.out) hb); clear hb hbox hg; obtain ⟨hcz9_0, hcz9_1, hcz9_2, hcz9_3, hcz9_4⟩ := b5 BK365.out; obtain ⟨hfz9_0, hfz9_1, hfz9_2, hfz9_3, hfz9_4⟩ := f5 BK365.out))
   go_ret
   exact (rq (bg1 HB.out GE365.out))
 rw [if_neg c7] at H
 have c7b0 : (a0_0 == 0) = false := beq_eq_false_iff_ne.mpr c7
 have c7b1 : (a0_0 != 0) = true := bne_iff_ne.mpr c7
 by_cases c10 : a0_0 = 2
 rotate_left
 · rw [if_neg c10] at H
   have c10b0 : (a0_0 == 2) = false := beq_eq_false_iff_ne.mpr c10
   have c10b1 : (a0_0 != 2) = true := bne_iff_ne.mpr c10
   obtain rfl := Option.some.inj H
   go_enter Try.func26, Try.ntmps26
   go_wp2_with (first | (refine bx 1 #[.int .i64 a0_0, .int .i64 a0_1, .int .i64 a0_2, .int .i64 a0_3, .int .i64 a0_4] 29 rfl ?_; intro gb365 hg w13 hbox hb; have BK365 := am (hbox); have GW365 := am (ge hg (ph HB.out)); have GE365 := GW365; replace HB := am (below_step (ph HB.out) hb); clear hb hbox hg; obtain ⟨hcz14_0, hcz14_1, hcz14_2, hcz14_3, hcz14_4⟩ := b5 BK365.out; obtain ⟨hfz14_0, hfz14_1, hfz14_2, hfz14_3, hfz14_4⟩ := f5 BK365.out))
   go_ret
   exact (rq (bg1 HB.out GE365.out))
 rw [if_pos c10] at H
 have c10b0 : (a0_0 == 2) = true := beq_iff_eq.mpr c10
 have c10b1 : (a0_0 != 2) = false := bne_eq_false_iff_eq.mpr c10
 clear c10
 obtain rfl := Option.some.inj H
 go_enter Try.func26, Try.ntmps26
 go_wp2_with (first | (refine bx 1 #[.int .i64 a0_0, .int .i64 a0_1, .int .i64 a0_2, .int .i64 a0_3, .int .i64 a0_4] 29 rfl ?_; intro gb365 hg w11 hbox hb; have BK365 := am (hbox); have GW365 := am (ge hg (ph HB.out)); have GE365 := GW365; replace HB := am (below_step (ph HB.out) hb); clear hb hbox hg; obtain ⟨hcz12_0, hcz12_1, hcz12_2, hcz12_3, hcz12_4⟩ := b5 BK365.out; obtain ⟨hfz12_0, hfz12_1, hfz12_2, hfz12_3, hfz12_4⟩ := f5 BK365.out))
 go_ret
 exact (rq (bg1 HB.out GE365.out))
end Go.Proofs.Ytkpoephbiikehaa.R3
