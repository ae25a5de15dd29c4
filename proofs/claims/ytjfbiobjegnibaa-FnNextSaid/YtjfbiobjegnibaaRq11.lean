-- printed by wip/pp/pp.py
import Derived.Test.YtjfbiobjegnibaaRq0
import Derived.Test.YtjfbiobjegnibaaRq9
import Derived.Test.YtjfbiobjegnibaaRq10
import Derived.Laws.CopyRow
import Derived.Deep.WholeRow
import Derived.Deep.RegionHeld3
import Derived.RegionTactic
import Derived.Test.YtjfbiobjegnibaaRq8
namespace Go.Proofs.Ytjfbiobjegnibaa.Rq
open Go.RowKit Go.Proofs.YtjfbiobjegnibaaW.PrintWords Go.Proofs.YtjfbiobjegnibaaW.PrintLast Go.Proofs.YtjfbiobjegnibaaW.PrintMore
attribute [local go_sem] max2_int min2_int max_two min_two max_three min_three max_four min_four
set_option linter.unusedVariables false
set_option linter.unusedSimpArgs false
mutual
def impl_FindOpen.l0 : Nat → List (S33) → List (S33) → Int → Int → Option (Int × Bool)
 | 0, _, _, _, _ => none
 | k + 1, x0, x13, x14, x15 => if x15 < x14 then (if 0 ≤ x15 then (if x15 < (x13.length : Int) then ((impl_partlyUsed.f k ((rd_T33 x13 x15).f0) ((rd_T33 x13 x15).f1)).bind fun t379 => (if t379 = true then (some (x15, true)) else (impl_FindOpen.l0 k x0 x13 x14 (wrap64 (x15 + 1))))) else (none)) else (none)) else (impl_FindOpen.l1 k x0 0 false x0 (x0.length : Int) 0)
def impl_FindOpen.l1 : Nat → List (S33) → Int → Bool → List (S33) → Int → Int → Option (Int × Bool)
 | 0, _, _, _, _, _, _ => none
 | k + 1, x0, x6, x7, x24, x25, x26 => if x26 < x25 then (if 0 ≤ x26 then (if x26 < (x24.length : Int) then ((impl_freePages.f k ((rd_T33 x24 x26).f0) ((rd_T33 x24 x26).f1)).bind fun t382 => (if t382 = 4 then (if x7 = true then (if 0 ≤ x6 then (if x6 < (x0.length : Int) then (if ((rd_T33 x24 x26).f1) < ((rd_T33 x0 x6).f1) then (impl_FindOpen.l1 k x0 x26 true x24 x25 (wrap64 (x26 + 1))) else (impl_FindOpen.l1 k x0 x6 x7 x24 x25 (wrap64 (x26 + 1)))) else (none)) else (none)) else (impl_FindOpen.l1 k x0 x26 true x24 x25 (wrap64 (x26 + 1)))) else (impl_FindOpen.l1 k x0 x6 x7 x24 x25 (wrap64 (x26 + 1))))) else (none)) else (none)) else (some (x6, x7))
end
def impl_FindOpen.f (k : Nat) (l0 : List (S33)) : Option (Int × Bool) := (impl_FlashOk.f l0).bind fun t376 => (if t376 = true then (impl_FindOpen.l0 k l0 l0 (l0.length : Int) 0) else (some (0, false)))
theorem impl_FindOpen.mono_l : ∀ k, (∀ y0 y1 y2 y3, LeO (impl_FindOpen.l0 k y0 y1 y2 y3) (impl_FindOpen.l0 (k + 1) y0 y1 y2 y3)) ∧ (∀ y0 y1 y2 y3 y4 y5, LeO (impl_FindOpen.l1 k y0 y1 y2 y3 y4 y5) (impl_FindOpen.l1 (k + 1) y0 y1 y2 y3 y4 y5))
 | 0 => ⟨fun _ _ _ _ r h => by simp [impl_FindOpen.l0] at h, fun _ _ _ _ _ _ r h => by simp [impl_FindOpen.l1] at h⟩
 | k + 1 => by
  obtain ⟨ih0, ih1⟩ := impl_FindOpen.mono_l k
  refine ⟨?_, ?_⟩
  · intro y0 y1 y2 y3
    unfold impl_FindOpen.l0
    repeat' first
    | (with_reducible exact ih0 _ _ _ _)
    | (with_reducible exact ih1 _ _ _ _ _ _)
    | (with_reducible exact impl_freePages.mono _ _ _)
    | (with_reducible exact impl_partlyUsed.mono _ _ _)
    | (with_reducible exact LeO.refl _)
    | (with_reducible exact LeO.none _)
    | (with_reducible refine LeO.ite ?_ ?_)
    | (with_reducible refine LeO.bind ?_ (fun _ => ?_))
    | exact ih0 _ _ _ _
    | exact ih1 _ _ _ _ _ _
    | exact impl_freePages.mono _ _ _
    | exact impl_partlyUsed.mono _ _ _
    | exact LeO.none _
    | refine LeO.ite ?_ ?_
    | refine LeO.bind ?_ (fun _ => ?_)
  · intro y0 y1 y2 y3 y4 y5
    unfold impl_FindOpen.l1
    repeat' first
    | (with_reducible exact ih0 _ _ _ _)
    | (with_reducible exact ih1 _ _ _ _ _ _)
    | (with_reducible exact impl_freePages.mono _ _ _)
    | (with_reducible exact impl_partlyUsed.mono _ _ _)
    | (with_reducible exact LeO.refl _)
    | (with_reducible exact LeO.none _)
    | (with_reducible refine LeO.ite ?_ ?_)
    | (with_reducible refine LeO.bind ?_ (fun _ => ?_))
    | exact ih0 _ _ _ _
    | exact ih1 _ _ _ _ _ _
    | exact impl_freePages.mono _ _ _
    | exact impl_partlyUsed.mono _ _ _
    | exact LeO.none _
    | refine LeO.ite ?_ ?_
    | refine LeO.bind ?_ (fun _ => ?_)
theorem impl_FindOpen.mono : ∀ a0 k, LeO (impl_FindOpen.f k a0) (impl_FindOpen.f (k + 1) a0) := by
 intro a0 k
 obtain ⟨ih0, ih1⟩ := impl_FindOpen.mono_l k
 unfold impl_FindOpen.f
 repeat' first
  | (with_reducible exact ih0 _ _ _ _)
  | (with_reducible exact ih1 _ _ _ _ _ _)
  | (with_reducible exact impl_freePages.mono _ _ _)
  | (with_reducible exact impl_partlyUsed.mono _ _ _)
  | (with_reducible exact LeO.refl _)
  | (with_reducible exact LeO.none _)
  | (with_reducible refine LeO.ite ?_ ?_)
  | (with_reducible refine LeO.bind ?_ (fun _ => ?_))
  | exact ih0 _ _ _ _
  | exact ih1 _ _ _ _ _ _
  | exact impl_freePages.mono _ _ _
  | exact impl_partlyUsed.mono _ _ _
  | exact LeO.none _
  | refine LeO.ite ?_ ?_
  | refine LeO.bind ?_ (fun _ => ?_)
def impl_FindOpen.T13 : Bool × List (List Nat × List Nat) := (true, [([], []), ([0], [0]), ([1], [1]), ([2, 1], [2]), ([3], [3]), ([4, 3], [3, 4]), ([5, 3, 3], [3, 5]), ([6], [6]), ([7, 6], [6, 7]), ([6], [6]), ([6], [6]), ([9, 10, 6], [6, 9, 10]), ([11, 6], [6, 11]), ([12, 6], [6, 12]), ([8, 13, 6], [6, 8, 13]), ([6, 14, 3], [3, 6, 14]), ([3, 15], [3, 15])])
def impl_FindOpen.B13 : List Nat := [0, 1, 3, 7, 15, 31, 63, 127, 255, 127, 127, 1663, 3711, 7807, 16383, 32767, 65535]
theorem impl_FindOpen.tab13 : rtab .any (opsOf Try.f8 13) = impl_FindOpen.T13 := by kernel_rfl
theorem impl_FindOpen.bits13 : waitsOk impl_FindOpen.T13.2 impl_FindOpen.B13 = true := by kernel_rfl
set_option maxHeartbeats 8000000 in
set_option maxRecDepth 100000 in
theorem impl_FindOpen.calls (k : Nat) (A0 : Option Addr) (c0 : Nat) (l0 : List (S33)) (r1 : Int) (r2 : Bool) (w : World) (hr0 : Kd.C k33 w A0 l0.length l0) (hc0 : l0.length ≤ c0) (h : impl_FindOpen.f k l0 = some (r1, r2)) :
 Calls Try.prog 8 #[.slice A0 l0.length c0] w fun e w' => e = .returned (.tuple #[.int .i64 r1, .bool r2]) ∧ Below w.heap.size w w' := by
 have hu33 := Try.underlying33
 have HR0 := am hr0
 have HC0 := am hc0
 clear hr0 hc0
 have HB := am (Below.refl w.heap.size w)
 have H : ((impl_FlashOk.f l0).bind fun t376 => (if t376 = true then (impl_FindOpen.l0 k l0 l0 (l0.length : Int) 0) else (some (0, false)))) = some (r1, r2) := h
 clear h
 replace H := Option.bind_eq_some_iff.mp H
 obtain ⟨t376, A20, H⟩ := H
 replace H : (if t376 = true then (impl_FindOpen.l0 k l0 l0 (l0.length : Int) 0) else (some (0, false))) = some (r1, r2) := H
 have A2 := am A20
 clear A20
 by_cases c3 : t376 = true
 rotate_left
 · replace c3 := Bool.eq_false_iff.mpr c3
   subst c3
   have H1 : (some (0, false)) = some (r1, r2) := by rw [if_neg (show ¬ (false = true) by decide)] at H; exact H
   clear H
   have H := H1
   clear H1
   simp only [Option.some.injEq, Prod.mk.injEq] at H
   obtain ⟨rfl, rfl⟩ := H
   go_enter Try.func8, Try.ntmps8
   go_wp2_with (first | (refine gl 11 Try.func12 #[.slice A0 l0.length c0] rfl ?_; (with_reducible refine (impl_FlashOk.calls _ _ l0 false _ ?side1 ?side2 A2.out).mono ?_); (case side1 => repeat (first | exact HR0.out | (with_reducible refine Kd.C_alloc ?_ _) | (with_reducible refine Kd.C_drewN ?_ _) | (with_reducible refine Kd.C_drew ?_))); (case side2 => exact HC0.out); rintro e w45 ⟨rfl, hb⟩; refine ⟨_, rfl, ?_⟩; replace HB := am (below_step (ph HB.out) hb); (try clear hb); (try clear hb2); (try clear hk); (try clear hi)))
   go_ret2
   exact (rq (ph HB.out))
 subst c3
 have H1 : (impl_FindOpen.l0 k l0 l0 (l0.length : Int) 0) = some (r1, r2) := by rw [if_pos rfl] at H; exact H
 clear H
 have H := H1
 clear H1
 have H' := am H
 clear H
 go_enter Try.func8, Try.ntmps8
 go_wp2_with (first | (refine gl 11 Try.func12 #[.slice A0 l0.length c0] rfl ?_; (with_reducible refine (impl_FlashOk.calls _ _ l0 true _ ?side1 ?side2 A2.out).mono ?_); (case side1 => repeat (first | exact HR0.out | (with_reducible refine Kd.C_alloc ?_ _) | (with_reducible refine Kd.C_drewN ?_ _) | (with_reducible refine Kd.C_drew ?_))); (case side2 => exact HC0.out); rintro e w4 ⟨rfl, hb⟩; refine ⟨_, rfl, ?_⟩; replace HB := am (below_step (ph HB.out) hb); (try clear hb); (try clear hb2); (try clear hk); (try clear hi)))
 go_loopg [15] k (fun kq v15 w' => ∃ (x15_1 : Int), v15 = .int .i64 x15_1 ∧ Aside0 (impl_FindOpen.l0 kq l0 l0 (l0.length : Int) x15_1 = some (r1, r2)) ∧ Aside0 (kq ≤ k) ∧ Aside0 (Below w.heap.size w w'))
 case atStart => exact ⟨(0), rf, H', ⟨Nat.le_refl _⟩, ⟨ph HB.out⟩⟩
 case round =>
  clear H'
  obtain ⟨x15_1, rfl, HA, HK1, HB⟩ := hrel
  cases gk with
  | zero => exact absurd HA.out (by simp [impl_FindOpen.l0])
  | succ k1 =>
   have H := HA.out
   clear HA
   simp only [impl_FindOpen.l0] at H
   by_cases c5 : x15_1 < (l0.length : Int)
   · rw [if_pos c5] at H
     have c5b0 := decide_eq_true c5
     clear c5
     by_cases c6 : 0 ≤ x15_1
     rotate_left
     · rw [if_neg c6] at H
       exact absurd H (by simp)
     rw [if_pos c6] at H
     have c6b0 := decide_eq_true c6
     clear c6
     by_cases c7 : x15_1 < (l0.length : Int)
     rotate_left
     · rw [if_neg c7] at H
       exact absurd H (by simp)
     rw [if_pos c7] at H
     have c7b0 := decide_eq_true c7
     clear c7
     replace H := Option.bind_eq_some_iff.mp H
     obtain ⟨t379, A80, H⟩ := H
     replace H : (if t379 = true then (some (x15_1, true)) else (impl_FindOpen.l0 k1 l0 l0 (l0.length : Int) (wrap64 (x15_1 + 1)))) = some (r1, r2) := H
     have A8 := am A80
     clear A80
     by_cases c9 : t379 = true
     · subst c9
       have H1 : (some (x15_1, true)) = some (r1, r2) := by rw [if_pos rfl] at H; exact H
       clear H
       have H := H1
       clear H1
       simp only [Option.some.injEq, Prod.mk.injEq] at H
       obtain ⟨rfl, rfl⟩ := H
       have p377 : 0 ≤ (x15_1 : Int) := ofb
       have q377 : x15_1 < (l0.length : Int) := ofb
       obtain ⟨ad377, A377_0, c377_0, e377, hx377_0, hx377_1, hl377_0, hi377_0⟩ := at_T33 HR0.out x15_1 p377 q377
       cases e377
       replace hx377_0 := up HB.out hx377_0
       replace hx377_1 := up HB.out hx377_1
       have HR377_0 := am hi377_0
       have HC377_0 := am hl377_0
       clear hi377_0 hl377_0
       replace p377 := eq_true p377
       replace q377 := eq_true q377
       go_wp2_with (first | (refine bx 5 #[.slice none 0 0, .int .i64 0] 33 rfl ?_; intro gb378 hg w10 hbox hb; have BK378 := am (hbox); have GW378 := am ((by rw [hg]; exact (below_size (ph HB.out)) : w.heap.size ≤ gb378)); have GE378 := GW378; replace HB := am (below_step (ph HB.out) hb); clear hb hbox hg; obtain ⟨hcz11_0, hcz11_1⟩ := b2 BK378.out; obtain ⟨hfz11_0, hfz11_1⟩ := f2 BK378.out) | (refine gl 21 Try.func17 #[.agg #[.slice A377_0 ((rd_T33 l0 x15_1).f0).length c377_0, .int .i64 ((rd_T33 l0 x15_1).f1)]] rfl ?_; (with_reducible refine (impl_partlyUsed.calls k1 _ _ ((rd_T33 l0 x15_1).f0) ((rd_T33 l0 x15_1).f1) true _ ?side1 ?side2 A8.out).mono ?_); (case side1 => exact Kd.C_below HR377_0.out (bg1 HB.out GE378.out)); (case side2 => exact HC377_0.out); rintro e w12 ⟨rfl, hb⟩; refine ⟨_, rfl, ?_⟩; replace BK378 := am (blk_below (g := gb378) (o := .cells #[.slice A377_0 ((rd_T33 l0 x15_1).f0).length c377_0, .int .i64 ((rd_T33 l0 x15_1).f1)] 33 (0, 0)) (by (with_reducible repeat (first | refine blk_drewN ?_ _ | refine blk_drew ?_ | refine blk_alloc ?_ _)); refine blk_put (cs := #[.slice A377_0 ((rd_T33 l0 x15_1).f0).length c377_0, .int .i64 0]) ?_ 1 _ rfl; (with_reducible repeat (first | refine blk_drewN ?_ _ | refine blk_drew ?_ | refine blk_alloc ?_ _)); refine blk_put (cs := #[.slice none 0 0, .int .i64 0]) ?_ 0 _ rfl; (with_reducible repeat (first | refine blk_drewN ?_ _ | refine blk_drew ?_ | refine blk_alloc ?_ _)); exact BK378.out) hb); replace HB := am (below_step (bg1 HB.out GE378.out) hb); (try clear hb); (try clear hb2); (try clear hk); (try clear hi)))
       go_ret2
       exact (rq (bg1 HB.out GE378.out))
     replace c9 := Bool.eq_false_iff.mpr c9
     subst c9
     have H1 : (impl_FindOpen.l0 k1 l0 l0 (l0.length : Int) (wrap64 (x15_1 + 1))) = some (r1, r2) := by rw [if_neg (show ¬ (false = true) by decide)] at H; exact H
     clear H
     have H := H1
     clear H1
     have H' := am H
     clear H
     have p377 : 0 ≤ (x15_1 : Int) := ofb
     have q377 : x15_1 < (l0.length : Int) := ofb
     obtain ⟨ad377, A377_0, c377_0, e377, hx377_0, hx377_1, hl377_0, hi377_0⟩ := at_T33 HR0.out x15_1 p377 q377
     cases e377
     replace hx377_0 := up HB.out hx377_0
     replace hx377_1 := up HB.out hx377_1
     have HR377_0 := am hi377_0
     have HC377_0 := am hl377_0
     clear hi377_0 hl377_0
     replace p377 := eq_true p377
     replace q377 := eq_true q377
     go_wp2_with (first | (refine bx 5 #[.slice none 0 0, .int .i64 0] 33 rfl ?_; intro gb378 hg w13 hbox hb; have BK378 := am (hbox); have GW378 := am ((by rw [hg]; exact (below_size (ph HB.out)) : w.heap.size ≤ gb378)); have GE378 := GW378; replace HB := am (below_step (ph HB.out) hb); clear hb hbox hg; obtain ⟨hcz14_0, hcz14_1⟩ := b2 BK378.out; obtain ⟨hfz14_0, hfz14_1⟩ := f2 BK378.out) | (refine gl 21 Try.func17 #[.agg #[.slice A377_0 ((rd_T33 l0 x15_1).f0).length c377_0, .int .i64 ((rd_T33 l0 x15_1).f1)]] rfl ?_; (with_reducible refine (impl_partlyUsed.calls k1 _ _ ((rd_T33 l0 x15_1).f0) ((rd_T33 l0 x15_1).f1) false _ ?side1 ?side2 A8.out).mono ?_); (case side1 => exact Kd.C_below HR377_0.out (bg1 HB.out GE378.out)); (case side2 => exact HC377_0.out); rintro e w15 ⟨rfl, hb⟩; refine ⟨_, rfl, ?_⟩; replace BK378 := am (blk_below (g := gb378) (o := .cells #[.slice A377_0 ((rd_T33 l0 x15_1).f0).length c377_0, .int .i64 ((rd_T33 l0 x15_1).f1)] 33 (0, 0)) (by (with_reducible repeat (first | refine blk_drewN ?_ _ | refine blk_drew ?_ | refine blk_alloc ?_ _)); refine blk_put (cs := #[.slice A377_0 ((rd_T33 l0 x15_1).f0).length c377_0, .int .i64 0]) ?_ 1 _ rfl; (with_reducible repeat (first | refine blk_drewN ?_ _ | refine blk_drew ?_ | refine blk_alloc ?_ _)); refine blk_put (cs := #[.slice none 0 0, .int .i64 0]) ?_ 0 _ rfl; (with_reducible repeat (first | refine blk_drewN ?_ _ | refine blk_drew ?_ | refine blk_alloc ?_ _)); exact BK378.out) hb); replace HB := am (below_step (bg1 HB.out GE378.out) hb); (try clear hb); (try clear hb2); (try clear hk); (try clear hi)))
     go_roundg k1
     case measure => have := HK1.out; omega
     case rel => exact ⟨(wrap64 (x15_1 + 1)), rf, H', ⟨by have := HK1.out; omega⟩, ⟨bg1 HB.out GE378.out⟩⟩
   rw [if_neg c5] at H
   have c5b0 := decide_eq_false c5
   clear c5
   have H' := am H
   clear H
   go_wp2
   go_loopg [6, 7, 26] k1 (fun kq v6 v7 v26 w' => ∃ (x6_2 : Int) (x7_2 : Bool) (x26_2 : Int), v6 = .int .i64 x6_2 ∧ v7 = .bool x7_2 ∧ v26 = .int .i64 x26_2 ∧ Aside0 (impl_FindOpen.l1 kq l0 x6_2 x7_2 l0 (l0.length : Int) x26_2 = some (r1, r2)) ∧ Aside0 (kq ≤ k1) ∧ Aside0 (Below w.heap.size w w'))
   case atStart => exact ⟨(0), (false), (0), rf, rf, rf, H', ⟨Nat.le_refl _⟩, ⟨ph HB.out⟩⟩
   case round =>
    clear H'
    obtain ⟨x6_2, x7_2, x26_2, rfl, rfl, rfl, HA, HK2, HB⟩ := hrel
    cases gk with
    | zero => exact absurd HA.out (by simp [impl_FindOpen.l1])
    | succ k2 =>
     have H := HA.out
     clear HA
     simp only [impl_FindOpen.l1] at H
     by_cases c16 : x26_2 < (l0.length : Int)
     rotate_left
     · rw [if_neg c16] at H
       have c16b0 := decide_eq_false c16
       clear c16
       simp only [Option.some.injEq, Prod.mk.injEq] at H
       obtain ⟨rfl, rfl⟩ := H
       go_wp2
       go_ret2
       exact (rq (ph HB.out))
     rw [if_pos c16] at H
     have c16b0 := decide_eq_true c16
     clear c16
     by_cases c17 : 0 ≤ x26_2
     rotate_left
     · rw [if_neg c17] at H
       exact absurd H (by simp)
     rw [if_pos c17] at H
     have c17b0 := decide_eq_true c17
     clear c17
     by_cases c18 : x26_2 < (l0.length : Int)
     rotate_left
     · rw [if_neg c18] at H
       exact absurd H (by simp)
     rw [if_pos c18] at H
     have c18b0 := decide_eq_true c18
     clear c18
     replace H := Option.bind_eq_some_iff.mp H
     obtain ⟨t382, A190, H⟩ := H
     replace H : (if t382 = 4 then (if x7_2 = true then (if 0 ≤ x6_2 then (if x6_2 < (l0.length : Int) then (if ((rd_T33 l0 x26_2).f1) < ((rd_T33 l0 x6_2).f1) then (impl_FindOpen.l1 k2 l0 x26_2 true l0 (l0.length : Int) (wrap64 (x26_2 + 1))) else (impl_FindOpen.l1 k2 l0 x6_2 x7_2 l0 (l0.length : Int) (wrap64 (x26_2 + 1)))) else (none)) else (none)) else (impl_FindOpen.l1 k2 l0 x26_2 true l0 (l0.length : Int) (wrap64 (x26_2 + 1)))) else (impl_FindOpen.l1 k2 l0 x6_2 x7_2 l0 (l0.length : Int) (wrap64 (x26_2 + 1)))) = some (r1, r2) := H
     have A19 := am A190
     clear A190
     by_cases c20 : t382 = 4
     rotate_left
     · rw [if_neg c20] at H
       have c20b0 : (t382 == 4) = false := beq_eq_false_iff_ne.mpr c20
       have c20b1 : (t382 != 4) = true := bne_iff_ne.mpr c20
       have H' := am H
       clear H
       have p380 : 0 ≤ (x26_2 : Int) := ofb
       have q380 : x26_2 < (l0.length : Int) := ofb
       obtain ⟨ad380, A380_0, c380_0, e380, hx380_0, hx380_1, hl380_0, hi380_0⟩ := at_T33 HR0.out x26_2 p380 q380
       cases e380
       replace hx380_0 := up HB.out hx380_0
       replace hx380_1 := up HB.out hx380_1
       have HR380_0 := am hi380_0
       have HC380_0 := am hl380_0
       clear hi380_0 hl380_0
       replace p380 := eq_true p380
       replace q380 := eq_true q380
       try go_wp2_with (first | (refine bx 9 #[.slice none 0 0, .int .i64 0] 33 rfl ?_; intro gb381 hg w40 hbox hb; have BK381 := am (hbox); have GW381 := am ((by rw [hg]; exact (below_size (ph HB.out)) : w.heap.size ≤ gb381)); have GE381 := GW381; replace HB := am (below_step (ph HB.out) hb); clear hb hbox hg; obtain ⟨hcz41_0, hcz41_1⟩ := b2 BK381.out; obtain ⟨hfz41_0, hfz41_1⟩ := f2 BK381.out))
       have n0_ : Aside0 (((w40.setCell ⟨gb381, 0, none⟩ (.slice A380_0 ((rd_T33 l0 x26_2).f0).length c380_0)).setCell ⟨gb381, 1, none⟩ (.int .i64 ((rd_T33 l0 x26_2).f1))).heap[gb381]? = some (.cells #[.slice A380_0 ((rd_T33 l0 x26_2).f0).length c380_0, .int .i64 ((rd_T33 l0 x26_2).f1)] 33 (0, 0))) := ⟨by (with_reducible repeat (first | refine blk_drewN ?_ _ | refine blk_drew ?_ | refine blk_alloc ?_ _)); refine blk_put (cs := #[.slice A380_0 ((rd_T33 l0 x26_2).f0).length c380_0, .int .i64 0]) ?_ 1 _ rfl; (with_reducible repeat (first | refine blk_drewN ?_ _ | refine blk_drew ?_ | refine blk_alloc ?_ _)); refine blk_put (cs := #[.slice none 0 0, .int .i64 0]) ?_ 0 _ rfl; (with_reducible repeat (first | refine blk_drewN ?_ _ | refine blk_drew ?_ | refine blk_alloc ?_ _)); exact BK381.out⟩
       have n1_ : Aside0 (Below w.heap.size w ((w40.setCell ⟨gb381, 0, none⟩ (.slice A380_0 ((rd_T33 l0 x26_2).f0).length c380_0)).setCell ⟨gb381, 1, none⟩ (.int .i64 ((rd_T33 l0 x26_2).f1)))) := ⟨bg1 HB.out GE381.out⟩
       (try clear BK381)
       (try clear HB)
       generalize ((w40.setCell ⟨gb381, 0, none⟩ (.slice A380_0 ((rd_T33 l0 x26_2).f0).length c380_0)).setCell ⟨gb381, 1, none⟩ (.int .i64 ((rd_T33 l0 x26_2).f1))) = w42 at n0_ n1_ ⊢
       have BK381 := n0_
       have HB := n1_
       clear n0_ n1_
       replace BK381 := am (blk_drew BK381.out)
       replace HB := am (below_drew1 HB.out)
       refine start_ (n := 17) (S := fun w' => w'.cell? ⟨gb381, 0, none⟩ = some (.slice A380_0 ((rd_T33 l0 x26_2).f0).length c380_0) ∧ w'.cell? ⟨gb381, 1, none⟩ = some (.int .i64 ((rd_T33 l0 x26_2).f1))) (ds := []) #[false, false, false, false, false, false, false, false, false, false, false, false, false, false, false, false, false] (by kernel_rfl) rfl rfl ⟨(blk_cell BK381.out 0).trans rfl, (blk_cell BK381.out 1).trans rfl⟩ (fun hHeld => ?_); refine with_tabW impl_FindOpen.tab13 impl_FindOpen.bits13 (fun HT_ HW_ => ?_)
       generalize w42.drew = w43 at BK381 HB hHeld ⊢
       refine pm_ 0 31 #[true, false, false, false, false, false, false, false, false, false, false, false, false, false, false, false, false] rfl rfl (take_ofW HT_.out HW_.out (by kernel_rfl)) (fun _ _ _ h => h) hHeld ?_
       refine one_ (i := 1) (N := some 32) #[true, true, false, false, false, false, false, false, false, false, false, false, false, false, false, false, false] rfl rfl (one_of HT_.out (by kernel_rfl)) (by decide) (fun K hK => ?_)
       refine goes_ Try.func18 (by kernel_rfl) rfl #[.agg #[.slice A380_0 ((rd_T33 l0 x26_2).f0).length c380_0, .int .i64 ((rd_T33 l0 x26_2).f1)]] (by rfl) rfl rfl (by (try simp only [List.map_toArray, List.map_cons, List.map_nil]); first | done | rfl | (simp only [List.length_drop, List.length_take]; rfl)) ?_
       with_reducible refine (impl_freePages.calls k2 _ _ ((rd_T33 l0 x26_2).f0) ((rd_T33 l0 x26_2).f1) t382 _ ?side1 ?side2 A19.out).mono ?_
       (case side1 => exact pc (Kd.C_below HR380_0.out HB.out))
       (case side2 => exact HC380_0.out)
       rintro e w44 ⟨rfl, hb⟩
       refine ⟨_, rfl, ?_⟩
       replace BK381 := am (blk_below (pb BK381.out) hb)
       replace HB := am (below_step (bg1 HB.out GE381.out) hb)
       (try clear hb)
       (try clear hb2)
       (try clear hk)
       (try clear hi)
       refine hK.out _ _ ⟨(blk_cell BK381.out 0).trans rfl, (blk_cell BK381.out 1).trans rfl⟩ (fun hHeld => ?_)
       clear hK K
       refine norm_ (a' := ?_) ?_ ?_
       rotate_left
       · show Act.put _ (some 32) _ = _
         simp only [Act.put, List.setIfInBounds_toArray, List.set_cons_zero, List.set_cons_succ, i64_w, i32_w]
         rfl
       refine pj_ 2 33 #[true, true, true, false, false, false, false, false, false, false, false, false, false, false, false, false, false] rfl rfl (any_of HT_.out (by kernel_rfl)) (fun _ _ _ h => h) ?_
       refine pj_ 3 34 #[true, true, true, true, false, false, false, false, false, false, false, false, false, false, false, false, false] rfl rfl (any_of HT_.out (by kernel_rfl)) (fun _ _ _ h => h) ?_
       refine pure_ (i := 4) (N := some 35) (v := undef) (a' := ?_) #[true, true, true, true, true, false, false, false, false, false, false, false, false, false, false, false, false] rfl rfl (any_of HT_.out (by kernel_rfl)) (fun _ _ _ h => h) (Or.inr ⟨by rfl, rfl⟩) ?_ ?_
       rotate_left
       · simp only [Act.put, List.setIfInBounds_toArray, List.set_cons_zero, List.set_cons_succ, i64_w, i32_w]
         rfl
       refine pure_ (i := 5) (N := some 36) (v := undef) (a' := ?_) #[true, true, true, true, true, true, false, false, false, false, false, false, false, false, false, false, false] rfl rfl (any_of HT_.out (by kernel_rfl)) (fun _ _ _ h => h) (Or.inr ⟨by rfl, rfl⟩) ?_ ?_
       rotate_left
       · simp only [Act.put, List.setIfInBounds_toArray, List.set_cons_zero, List.set_cons_succ, i64_w, i32_w]
         rfl
       refine pure_ (i := 6) (N := some 37) (v := undef) (a' := ?_) #[true, true, true, true, true, true, true, false, false, false, false, false, false, false, false, false, false] rfl rfl (any_of HT_.out (by kernel_rfl)) (fun _ _ _ h => h) (Or.inr ⟨by rfl, rfl⟩) ?_ ?_
       rotate_left
       · simp only [Act.put, List.setIfInBounds_toArray, List.set_cons_zero, List.set_cons_succ, i64_w, i32_w]
         rfl
       refine pure_ (i := 7) (N := some 38) (v := undef) (a' := ?_) #[true, true, true, true, true, true, true, true, false, false, false, false, false, false, false, false, false] rfl rfl (any_of HT_.out (by kernel_rfl)) (fun _ _ _ h => h) (Or.inr ⟨by rfl, rfl⟩) ?_ ?_
       rotate_left
       · simp only [Act.put, List.setIfInBounds_toArray, List.set_cons_zero, List.set_cons_succ, i64_w, i32_w]
         rfl
       refine pure_ (i := 8) (N := some 39) (v := undef) (a' := ?_) #[true, true, true, true, true, true, true, true, true, false, false, false, false, false, false, false, false] rfl rfl (any_of HT_.out (by kernel_rfl)) (fun _ _ _ h => h) (Or.inr ⟨by rfl, rfl⟩) ?_ ?_
       rotate_left
       · simp only [Act.put, List.setIfInBounds_toArray, List.set_cons_zero, List.set_cons_succ, i64_w, i32_w]
         rfl
       refine pure_ (i := 9) (N := some 40) (v := undef) (a' := ?_) #[true, true, true, true, true, true, true, true, true, true, false, false, false, false, false, false, false] rfl rfl (any_of HT_.out (by kernel_rfl)) (fun _ _ _ h => h) (Or.inr ⟨by rfl, rfl⟩) ?_ ?_
       rotate_left
       · simp only [Act.put, List.setIfInBounds_toArray, List.set_cons_zero, List.set_cons_succ, i64_w, i32_w]
         rfl
       refine pure_ (i := 10) (N := some 41) (v := undef) (a' := ?_) #[true, true, true, true, true, true, true, true, true, true, true, false, false, false, false, false, false] rfl rfl (any_of HT_.out (by kernel_rfl)) (fun _ _ _ h => h) (Or.inr ⟨by rfl, rfl⟩) ?_ ?_
       rotate_left
       · simp only [Act.put, List.setIfInBounds_toArray, List.set_cons_zero, List.set_cons_succ, i64_w, i32_w]
         rfl
       refine pure_ (i := 11) (N := some 42) (v := undef) (a' := ?_) #[true, true, true, true, true, true, true, true, true, true, true, true, false, false, false, false, false] rfl rfl (any_of HT_.out (by kernel_rfl)) (fun _ _ _ h => h) (Or.inr ⟨by rfl, rfl⟩) ?_ ?_
       rotate_left
       · simp only [Act.put, List.setIfInBounds_toArray, List.set_cons_zero, List.set_cons_succ, i64_w, i32_w]
         rfl
       refine pure_ (i := 12) (N := some 43) (v := undef) (a' := ?_) #[true, true, true, true, true, true, true, true, true, true, true, true, true, false, false, false, false] rfl rfl (any_of HT_.out (by kernel_rfl)) (fun _ _ _ h => h) (Or.inr ⟨by rfl, rfl⟩) ?_ ?_
       rotate_left
       · simp only [Act.put, List.setIfInBounds_toArray, List.set_cons_zero, List.set_cons_succ, i64_w, i32_w]
         rfl
       refine pure_ (i := 13) (N := some 44) (v := undef) (a' := ?_) #[true, true, true, true, true, true, true, true, true, true, true, true, true, true, false, false, false] rfl rfl (any_of HT_.out (by kernel_rfl)) (fun _ _ _ h => h) (Or.inr ⟨by rfl, rfl⟩) ?_ ?_
       rotate_left
       · simp only [Act.put, List.setIfInBounds_toArray, List.set_cons_zero, List.set_cons_succ, i64_w, i32_w]
         rfl
       refine pure_ (i := 14) (N := some 45) (v := undef) (a' := ?_) #[true, true, true, true, true, true, true, true, true, true, true, true, true, true, true, false, false] rfl rfl (any_of HT_.out (by kernel_rfl)) (fun _ _ _ h => h) (Or.inr ⟨by rfl, rfl⟩) ?_ ?_
       rotate_left
       · simp only [Act.put, List.setIfInBounds_toArray, List.set_cons_zero, List.set_cons_succ, i64_w, i32_w]
         rfl
       refine pure_ (i := 15) (N := some 46) (v := undef) (a' := ?_) #[true, true, true, true, true, true, true, true, true, true, true, true, true, true, true, true, false] rfl rfl (any_of HT_.out (by kernel_rfl)) (fun _ _ _ h => h) (Or.inr ⟨by rfl, rfl⟩) ?_ ?_
       rotate_left
       · simp only [Act.put, List.setIfInBounds_toArray, List.set_cons_zero, List.set_cons_succ, i64_w, i32_w]
         rfl
       refine pj_ 16 47 #[true, true, true, true, true, true, true, true, true, true, true, true, true, true, true, true, true] rfl rfl (any_of HT_.out (by kernel_rfl)) (fun _ _ _ h => h) ?_
       refine done_ (done_of HT_.out (by kernel_rfl)) ?_
       try go_wp2
       go_roundg k2
       case measure => have := HK1.out; have := HK2.out; omega
       case rel => exact ⟨(x6_2), (x7_2), (wrap64 (x26_2 + 1)), rf, rf, rf, H', ⟨by have := HK1.out; have := HK2.out; omega⟩, ⟨bg1 HB.out GE381.out⟩⟩
     rw [if_pos c20] at H
     have c20b0 : (t382 == 4) = true := beq_iff_eq.mpr c20
     have c20b1 : (t382 != 4) = false := bne_eq_false_iff_eq.mpr c20
     clear c20
     by_cases c21 : x7_2 = true
     rotate_left
     · replace c21 := Bool.eq_false_iff.mpr c21
       subst c21
       have H1 : (impl_FindOpen.l1 k2 l0 x26_2 true l0 (l0.length : Int) (wrap64 (x26_2 + 1))) = some (r1, r2) := by rw [if_neg (show ¬ (false = true) by decide)] at H; exact H
       clear H
       have H := H1
       clear H1
       have H' := am H
       clear H
       have p380 : 0 ≤ (x26_2 : Int) := ofb
       have q380 : x26_2 < (l0.length : Int) := ofb
       obtain ⟨ad380, A380_0, c380_0, e380, hx380_0, hx380_1, hl380_0, hi380_0⟩ := at_T33 HR0.out x26_2 p380 q380
       cases e380
       replace hx380_0 := up HB.out hx380_0
       replace hx380_1 := up HB.out hx380_1
       have HR380_0 := am hi380_0
       have HC380_0 := am hl380_0
       clear hi380_0 hl380_0
       replace p380 := eq_true p380
       replace q380 := eq_true q380
       try go_wp2_with (first | (refine bx 9 #[.slice none 0 0, .int .i64 0] 33 rfl ?_; intro gb381 hg w35 hbox hb; have BK381 := am (hbox); have GW381 := am ((by rw [hg]; exact (below_size (ph HB.out)) : w.heap.size ≤ gb381)); have GE381 := GW381; replace HB := am (below_step (ph HB.out) hb); clear hb hbox hg; obtain ⟨hcz36_0, hcz36_1⟩ := b2 BK381.out; obtain ⟨hfz36_0, hfz36_1⟩ := f2 BK381.out))
       have n0_ : Aside0 (((w35.setCell ⟨gb381, 0, none⟩ (.slice A380_0 ((rd_T33 l0 x26_2).f0).length c380_0)).setCell ⟨gb381, 1, none⟩ (.int .i64 ((rd_T33 l0 x26_2).f1))).heap[gb381]? = some (.cells #[.slice A380_0 ((rd_T33 l0 x26_2).f0).length c380_0, .int .i64 ((rd_T33 l0 x26_2).f1)] 33 (0, 0))) := ⟨by (with_reducible repeat (first | refine blk_drewN ?_ _ | refine blk_drew ?_ | refine blk_alloc ?_ _)); refine blk_put (cs := #[.slice A380_0 ((rd_T33 l0 x26_2).f0).length c380_0, .int .i64 0]) ?_ 1 _ rfl; (with_reducible repeat (first | refine blk_drewN ?_ _ | refine blk_drew ?_ | refine blk_alloc ?_ _)); refine blk_put (cs := #[.slice none 0 0, .int .i64 0]) ?_ 0 _ rfl; (with_reducible repeat (first | refine blk_drewN ?_ _ | refine blk_drew ?_ | refine blk_alloc ?_ _)); exact BK381.out⟩
       have n1_ : Aside0 (Below w.heap.size w ((w35.setCell ⟨gb381, 0, none⟩ (.slice A380_0 ((rd_T33 l0 x26_2).f0).length c380_0)).setCell ⟨gb381, 1, none⟩ (.int .i64 ((rd_T33 l0 x26_2).f1)))) := ⟨bg1 HB.out GE381.out⟩
       (try clear BK381)
       (try clear HB)
       generalize ((w35.setCell ⟨gb381, 0, none⟩ (.slice A380_0 ((rd_T33 l0 x26_2).f0).length c380_0)).setCell ⟨gb381, 1, none⟩ (.int .i64 ((rd_T33 l0 x26_2).f1))) = w37 at n0_ n1_ ⊢
       have BK381 := n0_
       have HB := n1_
       clear n0_ n1_
       replace BK381 := am (blk_drew BK381.out)
       replace HB := am (below_drew1 HB.out)
       refine start_ (n := 17) (S := fun w' => w'.cell? ⟨gb381, 0, none⟩ = some (.slice A380_0 ((rd_T33 l0 x26_2).f0).length c380_0) ∧ w'.cell? ⟨gb381, 1, none⟩ = some (.int .i64 ((rd_T33 l0 x26_2).f1))) (ds := []) #[false, false, false, false, false, false, false, false, false, false, false, false, false, false, false, false, false] (by kernel_rfl) rfl rfl ⟨(blk_cell BK381.out 0).trans rfl, (blk_cell BK381.out 1).trans rfl⟩ (fun hHeld => ?_); refine with_tabW impl_FindOpen.tab13 impl_FindOpen.bits13 (fun HT_ HW_ => ?_)
       generalize w37.drew = w38 at BK381 HB hHeld ⊢
       refine pm_ 0 31 #[true, false, false, false, false, false, false, false, false, false, false, false, false, false, false, false, false] rfl rfl (take_ofW HT_.out HW_.out (by kernel_rfl)) (fun _ _ _ h => h) hHeld ?_
       refine one_ (i := 1) (N := some 32) #[true, true, false, false, false, false, false, false, false, false, false, false, false, false, false, false, false] rfl rfl (one_of HT_.out (by kernel_rfl)) (by decide) (fun K hK => ?_)
       refine goes_ Try.func18 (by kernel_rfl) rfl #[.agg #[.slice A380_0 ((rd_T33 l0 x26_2).f0).length c380_0, .int .i64 ((rd_T33 l0 x26_2).f1)]] (by rfl) rfl rfl (by (try simp only [List.map_toArray, List.map_cons, List.map_nil]); first | done | rfl | (simp only [List.length_drop, List.length_take]; rfl)) ?_
       with_reducible refine (impl_freePages.calls k2 _ _ ((rd_T33 l0 x26_2).f0) ((rd_T33 l0 x26_2).f1) t382 _ ?side1 ?side2 A19.out).mono ?_
       (case side1 => exact pc (Kd.C_below HR380_0.out HB.out))
       (case side2 => exact HC380_0.out)
       rintro e w39 ⟨rfl, hb⟩
       refine ⟨_, rfl, ?_⟩
       replace BK381 := am (blk_below (pb BK381.out) hb)
       replace HB := am (below_step (bg1 HB.out GE381.out) hb)
       (try clear hb)
       (try clear hb2)
       (try clear hk)
       (try clear hi)
       refine hK.out _ _ ⟨(blk_cell BK381.out 0).trans rfl, (blk_cell BK381.out 1).trans rfl⟩ (fun hHeld => ?_)
       clear hK K
       refine norm_ (a' := ?_) ?_ ?_
       rotate_left
       · show Act.put _ (some 32) _ = _
         simp only [Act.put, List.setIfInBounds_toArray, List.set_cons_zero, List.set_cons_succ, i64_w, i32_w]
         rfl
       refine pj_ 2 33 #[true, true, true, false, false, false, false, false, false, false, false, false, false, false, false, false, false] rfl rfl (any_of HT_.out (by kernel_rfl)) (fun _ _ _ h => h) ?_
       refine pj_ 3 34 #[true, true, true, true, false, false, false, false, false, false, false, false, false, false, false, false, false] rfl rfl (any_of HT_.out (by kernel_rfl)) (fun _ _ _ h => h) ?_
       refine pj_ 4 35 #[true, true, true, true, true, false, false, false, false, false, false, false, false, false, false, false, false] rfl rfl (any_of HT_.out (by kernel_rfl)) (fun _ _ _ h => h) ?_
       refine pj_ 5 36 #[true, true, true, true, true, true, false, false, false, false, false, false, false, false, false, false, false] rfl rfl (any_of HT_.out (by kernel_rfl)) (fun _ _ _ h => h) ?_
       refine pj_ 6 37 #[true, true, true, true, true, true, true, false, false, false, false, false, false, false, false, false, false] rfl rfl (any_of HT_.out (by kernel_rfl)) (fun _ _ _ h => h) ?_
       refine pure_ (i := 7) (N := some 38) (v := undef) (a' := ?_) #[true, true, true, true, true, true, true, true, false, false, false, false, false, false, false, false, false] rfl rfl (any_of HT_.out (by kernel_rfl)) (fun _ _ _ h => h) (Or.inr ⟨by rfl, rfl⟩) ?_ ?_
       rotate_left
       · simp only [Act.put, List.setIfInBounds_toArray, List.set_cons_zero, List.set_cons_succ, i64_w, i32_w]
         rfl
       refine pure_ (i := 8) (N := some 39) (v := undef) (a' := ?_) #[true, true, true, true, true, true, true, true, true, false, false, false, false, false, false, false, false] rfl rfl (any_of HT_.out (by kernel_rfl)) (fun _ _ _ h => h) (Or.inr ⟨by rfl, rfl⟩) ?_ ?_
       rotate_left
       · simp only [Act.put, List.setIfInBounds_toArray, List.set_cons_zero, List.set_cons_succ, i64_w, i32_w]
         rfl
       refine pure_ (i := 9) (N := some 40) (v := undef) (a' := ?_) #[true, true, true, true, true, true, true, true, true, true, false, false, false, false, false, false, false] rfl rfl (any_of HT_.out (by kernel_rfl)) (fun _ _ _ h => h) (Or.inr ⟨by rfl, rfl⟩) ?_ ?_
       rotate_left
       · simp only [Act.put, List.setIfInBounds_toArray, List.set_cons_zero, List.set_cons_succ, i64_w, i32_w]
         rfl
       refine pure_ (i := 10) (N := some 41) (v := undef) (a' := ?_) #[true, true, true, true, true, true, true, true, true, true, true, false, false, false, false, false, false] rfl rfl (any_of HT_.out (by kernel_rfl)) (fun _ _ _ h => h) (Or.inr ⟨by rfl, rfl⟩) ?_ ?_
       rotate_left
       · simp only [Act.put, List.setIfInBounds_toArray, List.set_cons_zero, List.set_cons_succ, i64_w, i32_w]
         rfl
       refine pure_ (i := 11) (N := some 42) (v := undef) (a' := ?_) #[true, true, true, true, true, true, true, true, true, true, true, true, false, false, false, false, false] rfl rfl (any_of HT_.out (by kernel_rfl)) (fun _ _ _ h => h) (Or.inr ⟨by rfl, rfl⟩) ?_ ?_
       rotate_left
       · simp only [Act.put, List.setIfInBounds_toArray, List.set_cons_zero, List.set_cons_succ, i64_w, i32_w]
         rfl
       refine pure_ (i := 12) (N := some 43) (v := undef) (a' := ?_) #[true, true, true, true, true, true, true, true, true, true, true, true, true, false, false, false, false] rfl rfl (any_of HT_.out (by kernel_rfl)) (fun _ _ _ h => h) (Or.inr ⟨by rfl, rfl⟩) ?_ ?_
       rotate_left
       · simp only [Act.put, List.setIfInBounds_toArray, List.set_cons_zero, List.set_cons_succ, i64_w, i32_w]
         rfl
       refine pure_ (i := 13) (N := some 44) (v := undef) (a' := ?_) #[true, true, true, true, true, true, true, true, true, true, true, true, true, true, false, false, false] rfl rfl (any_of HT_.out (by kernel_rfl)) (fun _ _ _ h => h) (Or.inr ⟨by rfl, rfl⟩) ?_ ?_
       rotate_left
       · simp only [Act.put, List.setIfInBounds_toArray, List.set_cons_zero, List.set_cons_succ, i64_w, i32_w]
         rfl
       refine pure_ (i := 14) (N := some 45) (v := undef) (a' := ?_) #[true, true, true, true, true, true, true, true, true, true, true, true, true, true, true, false, false] rfl rfl (any_of HT_.out (by kernel_rfl)) (fun _ _ _ h => h) (Or.inr ⟨by rfl, rfl⟩) ?_ ?_
       rotate_left
       · simp only [Act.put, List.setIfInBounds_toArray, List.set_cons_zero, List.set_cons_succ, i64_w, i32_w]
         rfl
       refine pj_ 15 46 #[true, true, true, true, true, true, true, true, true, true, true, true, true, true, true, true, false] rfl rfl (any_of HT_.out (by kernel_rfl)) (fun _ _ _ h => h) ?_
       refine pj_ 16 47 #[true, true, true, true, true, true, true, true, true, true, true, true, true, true, true, true, true] rfl rfl (any_of HT_.out (by kernel_rfl)) (fun _ _ _ h => h) ?_
       refine done_ (done_of HT_.out (by kernel_rfl)) ?_
       try go_wp2
       go_roundg k2
       case measure => have := HK1.out; have := HK2.out; omega
       case rel => exact ⟨(x26_2), (true), (wrap64 (x26_2 + 1)), rf, rf, rf, H', ⟨by have := HK1.out; have := HK2.out; omega⟩, ⟨bg1 HB.out GE381.out⟩⟩
     subst c21
     have H1 : (if 0 ≤ x6_2 then (if x6_2 < (l0.length : Int) then (if ((rd_T33 l0 x26_2).f1) < ((rd_T33 l0 x6_2).f1) then (impl_FindOpen.l1 k2 l0 x26_2 true l0 (l0.length : Int) (wrap64 (x26_2 + 1))) else (impl_FindOpen.l1 k2 l0 x6_2 true l0 (l0.length : Int) (wrap64 (x26_2 + 1)))) else (none)) else (none)) = some (r1, r2) := by rw [if_pos rfl] at H; exact H
     clear H
     have H := H1
     clear H1
     by_cases c22 : 0 ≤ x6_2
     rotate_left
     · rw [if_neg c22] at H
       exact absurd H (by simp)
     rw [if_pos c22] at H
     have c22b0 := decide_eq_true c22
     clear c22
     by_cases c23 : x6_2 < (l0.length : Int)
     rotate_left
     · rw [if_neg c23] at H
       exact absurd H (by simp)
     rw [if_pos c23] at H
     have c23b0 := decide_eq_true c23
     clear c23
     by_cases c24 : ((rd_T33 l0 x26_2).f1) < ((rd_T33 l0 x6_2).f1)
     rotate_left
     · rw [if_neg c24] at H
       have c24b0 := decide_eq_false c24
       clear c24
       have H' := am H
       clear H
       have p380 : 0 ≤ (x26_2 : Int) := ofb
       have q380 : x26_2 < (l0.length : Int) := ofb
       obtain ⟨ad380, A380_0, c380_0, e380, hx380_0, hx380_1, hl380_0, hi380_0⟩ := at_T33 HR0.out x26_2 p380 q380
       cases e380
       replace hx380_0 := up HB.out hx380_0
       replace hx380_1 := up HB.out hx380_1
       have HR380_0 := am hi380_0
       have HC380_0 := am hl380_0
       clear hi380_0 hl380_0
       replace p380 := eq_true p380
       replace q380 := eq_true q380
       try go_wp2_with (first | (refine bx 9 #[.slice none 0 0, .int .i64 0] 33 rfl ?_; intro gb381 hg w30 hbox hb; have BK381 := am (hbox); have GW381 := am ((by rw [hg]; exact (below_size (ph HB.out)) : w.heap.size ≤ gb381)); have GE381 := GW381; replace HB := am (below_step (ph HB.out) hb); clear hb hbox hg; obtain ⟨hcz31_0, hcz31_1⟩ := b2 BK381.out; obtain ⟨hfz31_0, hfz31_1⟩ := f2 BK381.out))
       have n0_ : Aside0 (((w30.setCell ⟨gb381, 0, none⟩ (.slice A380_0 ((rd_T33 l0 x26_2).f0).length c380_0)).setCell ⟨gb381, 1, none⟩ (.int .i64 ((rd_T33 l0 x26_2).f1))).heap[gb381]? = some (.cells #[.slice A380_0 ((rd_T33 l0 x26_2).f0).length c380_0, .int .i64 ((rd_T33 l0 x26_2).f1)] 33 (0, 0))) := ⟨by (with_reducible repeat (first | refine blk_drewN ?_ _ | refine blk_drew ?_ | refine blk_alloc ?_ _)); refine blk_put (cs := #[.slice A380_0 ((rd_T33 l0 x26_2).f0).length c380_0, .int .i64 0]) ?_ 1 _ rfl; (with_reducible repeat (first | refine blk_drewN ?_ _ | refine blk_drew ?_ | refine blk_alloc ?_ _)); refine blk_put (cs := #[.slice none 0 0, .int .i64 0]) ?_ 0 _ rfl; (with_reducible repeat (first | refine blk_drewN ?_ _ | refine blk_drew ?_ | refine blk_alloc ?_ _)); exact BK381.out⟩
       have n1_ : Aside0 (Below w.heap.size w ((w30.setCell ⟨gb381, 0, none⟩ (.slice A380_0 ((rd_T33 l0 x26_2).f0).length c380_0)).setCell ⟨gb381, 1, none⟩ (.int .i64 ((rd_T33 l0 x26_2).f1)))) := ⟨bg1 HB.out GE381.out⟩
       (try clear BK381)
       (try clear HB)
       generalize ((w30.setCell ⟨gb381, 0, none⟩ (.slice A380_0 ((rd_T33 l0 x26_2).f0).length c380_0)).setCell ⟨gb381, 1, none⟩ (.int .i64 ((rd_T33 l0 x26_2).f1))) = w32 at n0_ n1_ ⊢
       have BK381 := n0_
       have HB := n1_
       clear n0_ n1_
       replace BK381 := am (blk_drew BK381.out)
       replace HB := am (below_drew1 HB.out)
       have p383 : 0 ≤ (x6_2 : Int) := ofb
       have q383 : x6_2 < (l0.length : Int) := ofb
       obtain ⟨ad383, A383_0, c383_0, e383, hx383_0, hx383_1, hl383_0, hi383_0⟩ := at_T33 HR0.out x6_2 p383 q383
       have hw383_1 := hx383_1
       have hw383_0 := hx383_0
       obtain rfl : ad380 = ad383 := (by injection e383)
       replace hx383_0 := up HB.out hx383_0
       replace hx383_1 := up HB.out hx383_1
       have HR383_0 := am hi383_0
       have HC383_0 := am hl383_0
       clear hi383_0 hl383_0
       replace p383 := eq_true p383
       replace q383 := eq_true q383
       refine start_ (n := 17) (S := fun w' => w'.cell? ⟨gb381, 0, none⟩ = some (.slice A380_0 ((rd_T33 l0 x26_2).f0).length c380_0) ∧ w'.cell? ⟨gb381, 1, none⟩ = some (.int .i64 ((rd_T33 l0 x26_2).f1)) ∧ w'.cell? (ad380.add ((x6_2).toNat * 2)) = some (.slice A383_0 ((rd_T33 l0 x6_2).f0).length c383_0) ∧ w'.cell? ⟨(ad380.add ((x6_2).toNat * 2)).block, (ad380.add ((x6_2).toNat * 2)).off + 1, none⟩ = some (.int .i64 ((rd_T33 l0 x6_2).f1))) (ds := []) #[false, false, false, false, false, false, false, false, false, false, false, false, false, false, false, false, false] (by kernel_rfl) rfl rfl ⟨(blk_cell BK381.out 0).trans rfl, (blk_cell BK381.out 1).trans rfl, ((HB.out.cell (World.block_lt_of_cell? w _ hw383_0)).trans hw383_0), ((HB.out.cell (World.block_lt_of_cell? w _ hw383_1)).trans hw383_1)⟩ (fun hHeld => ?_); refine with_tabW impl_FindOpen.tab13 impl_FindOpen.bits13 (fun HT_ HW_ => ?_)
       generalize w32.drew = w33 at BK381 HB HR383_0 hx383_0 hx383_1 hHeld ⊢
       refine pm_ 0 31 #[true, false, false, false, false, false, false, false, false, false, false, false, false, false, false, false, false] rfl rfl (take_ofW HT_.out HW_.out (by kernel_rfl)) (fun _ _ _ h => h) hHeld ?_
       refine one_ (i := 1) (N := some 32) #[true, true, false, false, false, false, false, false, false, false, false, false, false, false, false, false, false] rfl rfl (one_of HT_.out (by kernel_rfl)) (by decide) (fun K hK => ?_)
       refine goes_ Try.func18 (by kernel_rfl) rfl #[.agg #[.slice A380_0 ((rd_T33 l0 x26_2).f0).length c380_0, .int .i64 ((rd_T33 l0 x26_2).f1)]] (by rfl) rfl rfl (by (try simp only [List.map_toArray, List.map_cons, List.map_nil]); first | done | rfl | (simp only [List.length_drop, List.length_take]; rfl)) ?_
       with_reducible refine (impl_freePages.calls k2 _ _ ((rd_T33 l0 x26_2).f0) ((rd_T33 l0 x26_2).f1) t382 _ ?side1 ?side2 A19.out).mono ?_
       (case side1 => exact pc (Kd.C_below HR380_0.out HB.out))
       (case side2 => exact HC380_0.out)
       rintro e w34 ⟨rfl, hb⟩
       refine ⟨_, rfl, ?_⟩
       replace BK381 := am (blk_below (pb BK381.out) hb)
       replace HB := am (below_step (bg1 HB.out GE381.out) hb)
       (try clear hb)
       (try clear hb2)
       (try clear hk)
       (try clear hi)
       refine hK.out _ _ ⟨(blk_cell BK381.out 0).trans rfl, (blk_cell BK381.out 1).trans rfl, ((HB.out.cell (World.block_lt_of_cell? w _ hw383_0)).trans hw383_0), ((HB.out.cell (World.block_lt_of_cell? w _ hw383_1)).trans hw383_1)⟩ (fun hHeld => ?_)
       clear hK K
       refine norm_ (a' := ?_) ?_ ?_
       rotate_left
       · show Act.put _ (some 32) _ = _
         simp only [Act.put, List.setIfInBounds_toArray, List.set_cons_zero, List.set_cons_succ, i64_w, i32_w]
         rfl
       refine pj_ 2 33 #[true, true, true, false, false, false, false, false, false, false, false, false, false, false, false, false, false] rfl rfl (any_of HT_.out (by kernel_rfl)) (fun _ _ _ h => h) ?_
       refine pj_ 3 34 #[true, true, true, true, false, false, false, false, false, false, false, false, false, false, false, false, false] rfl rfl (any_of HT_.out (by kernel_rfl)) (fun _ _ _ h => h) ?_
       refine pj_ 4 35 #[true, true, true, true, true, false, false, false, false, false, false, false, false, false, false, false, false] rfl rfl (any_of HT_.out (by kernel_rfl)) (fun _ _ _ h => h) ?_
       refine pj_ 5 36 #[true, true, true, true, true, true, false, false, false, false, false, false, false, false, false, false, false] rfl rfl (any_of HT_.out (by kernel_rfl)) (fun _ _ _ h => h) ?_
       refine pj_ 6 37 #[true, true, true, true, true, true, true, false, false, false, false, false, false, false, false, false, false] rfl rfl (any_of HT_.out (by kernel_rfl)) (fun _ _ _ h => h) ?_
       refine pj_ 7 38 #[true, true, true, true, true, true, true, true, false, false, false, false, false, false, false, false, false] rfl rfl (any_of HT_.out (by kernel_rfl)) (fun _ _ _ h => h) ?_
       refine pj_ 9 40 #[true, true, true, true, true, true, true, true, false, true, false, false, false, false, false, false, false] rfl rfl (any_of HT_.out (by kernel_rfl)) (fun _ _ _ h => h) ?_
       refine pj_ 10 41 #[true, true, true, true, true, true, true, true, false, true, true, false, false, false, false, false, false] rfl rfl (any_of HT_.out (by kernel_rfl)) (fun _ _ _ h => h) ?_
       refine pj_ 11 42 #[true, true, true, true, true, true, true, true, false, true, true, true, false, false, false, false, false] rfl rfl (any_of HT_.out (by kernel_rfl)) (fun _ _ _ h => h) ?_
       refine pj_ 12 43 #[true, true, true, true, true, true, true, true, false, true, true, true, true, false, false, false, false] rfl rfl (any_of HT_.out (by kernel_rfl)) (fun _ _ _ h => h) ?_
       refine pm_ 8 39 #[true, true, true, true, true, true, true, true, true, true, true, true, true, false, false, false, false] rfl rfl (take_ofW HT_.out HW_.out (by kernel_rfl)) (fun _ _ _ h => h) hHeld ?_
       refine pm_ 13 44 #[true, true, true, true, true, true, true, true, true, true, true, true, true, true, false, false, false] rfl rfl (take_ofW HT_.out HW_.out (by kernel_rfl)) (fun _ _ _ h => h) hHeld ?_
       refine pj_ 14 45 #[true, true, true, true, true, true, true, true, true, true, true, true, true, true, true, false, false] rfl rfl (any_of HT_.out (by kernel_rfl)) (fun _ _ _ h => h) ?_
       refine pj_ 15 46 #[true, true, true, true, true, true, true, true, true, true, true, true, true, true, true, true, false] rfl rfl (any_of HT_.out (by kernel_rfl)) (fun _ _ _ h => h) ?_
       refine pj_ 16 47 #[true, true, true, true, true, true, true, true, true, true, true, true, true, true, true, true, true] rfl rfl (any_of HT_.out (by kernel_rfl)) (fun _ _ _ h => h) ?_
       refine done_ (done_of HT_.out (by kernel_rfl)) ?_
       try go_wp2
       go_roundg k2
       case measure => have := HK1.out; have := HK2.out; omega
       case rel => exact ⟨(x6_2), (true), (wrap64 (x26_2 + 1)), rf, rf, rf, H', ⟨by have := HK1.out; have := HK2.out; omega⟩, ⟨bg1 HB.out GE381.out⟩⟩
     rw [if_pos c24] at H
     have c24b0 := decide_eq_true c24
     clear c24
     have H' := am H
     clear H
     have p380 : 0 ≤ (x26_2 : Int) := ofb
     have q380 : x26_2 < (l0.length : Int) := ofb
     obtain ⟨ad380, A380_0, c380_0, e380, hx380_0, hx380_1, hl380_0, hi380_0⟩ := at_T33 HR0.out x26_2 p380 q380
     cases e380
     replace hx380_0 := up HB.out hx380_0
     replace hx380_1 := up HB.out hx380_1
     have HR380_0 := am hi380_0
     have HC380_0 := am hl380_0
     clear hi380_0 hl380_0
     replace p380 := eq_true p380
     replace q380 := eq_true q380
     try go_wp2_with (first | (refine bx 9 #[.slice none 0 0, .int .i64 0] 33 rfl ?_; intro gb381 hg w25 hbox hb; have BK381 := am (hbox); have GW381 := am ((by rw [hg]; exact (below_size (ph HB.out)) : w.heap.size ≤ gb381)); have GE381 := GW381; replace HB := am (below_step (ph HB.out) hb); clear hb hbox hg; obtain ⟨hcz26_0, hcz26_1⟩ := b2 BK381.out; obtain ⟨hfz26_0, hfz26_1⟩ := f2 BK381.out))
     have n0_ : Aside0 (((w25.setCell ⟨gb381, 0, none⟩ (.slice A380_0 ((rd_T33 l0 x26_2).f0).length c380_0)).setCell ⟨gb381, 1, none⟩ (.int .i64 ((rd_T33 l0 x26_2).f1))).heap[gb381]? = some (.cells #[.slice A380_0 ((rd_T33 l0 x26_2).f0).length c380_0, .int .i64 ((rd_T33 l0 x26_2).f1)] 33 (0, 0))) := ⟨by (with_reducible repeat (first | refine blk_drewN ?_ _ | refine blk_drew ?_ | refine blk_alloc ?_ _)); refine blk_put (cs := #[.slice A380_0 ((rd_T33 l0 x26_2).f0).length c380_0, .int .i64 0]) ?_ 1 _ rfl; (with_reducible repeat (first | refine blk_drewN ?_ _ | refine blk_drew ?_ | refine blk_alloc ?_ _)); refine blk_put (cs := #[.slice none 0 0, .int .i64 0]) ?_ 0 _ rfl; (with_reducible repeat (first | refine blk_drewN ?_ _ | refine blk_drew ?_ | refine blk_alloc ?_ _)); exact BK381.out⟩
     have n1_ : Aside0 (Below w.heap.size w ((w25.setCell ⟨gb381, 0, none⟩ (.slice A380_0 ((rd_T33 l0 x26_2).f0).length c380_0)).setCell ⟨gb381, 1, none⟩ (.int .i64 ((rd_T33 l0 x26_2).f1)))) := ⟨bg1 HB.out GE381.out⟩
     (try clear BK381)
     (try clear HB)
     generalize ((w25.setCell ⟨gb381, 0, none⟩ (.slice A380_0 ((rd_T33 l0 x26_2).f0).length c380_0)).setCell ⟨gb381, 1, none⟩ (.int .i64 ((rd_T33 l0 x26_2).f1))) = w27 at n0_ n1_ ⊢
     have BK381 := n0_
     have HB := n1_
     clear n0_ n1_
     replace BK381 := am (blk_drew BK381.out)
     replace HB := am (below_drew1 HB.out)
     have p383 : 0 ≤ (x6_2 : Int) := ofb
     have q383 : x6_2 < (l0.length : Int) := ofb
     obtain ⟨ad383, A383_0, c383_0, e383, hx383_0, hx383_1, hl383_0, hi383_0⟩ := at_T33 HR0.out x6_2 p383 q383
     have hw383_1 := hx383_1
     have hw383_0 := hx383_0
     obtain rfl : ad380 = ad383 := (by injection e383)
     replace hx383_0 := up HB.out hx383_0
     replace hx383_1 := up HB.out hx383_1
     have HR383_0 := am hi383_0
     have HC383_0 := am hl383_0
     clear hi383_0 hl383_0
     replace p383 := eq_true p383
     replace q383 := eq_true q383
     refine start_ (n := 17) (S := fun w' => w'.cell? ⟨gb381, 0, none⟩ = some (.slice A380_0 ((rd_T33 l0 x26_2).f0).length c380_0) ∧ w'.cell? ⟨gb381, 1, none⟩ = some (.int .i64 ((rd_T33 l0 x26_2).f1)) ∧ w'.cell? (ad380.add ((x6_2).toNat * 2)) = some (.slice A383_0 ((rd_T33 l0 x6_2).f0).length c383_0) ∧ w'.cell? ⟨(ad380.add ((x6_2).toNat * 2)).block, (ad380.add ((x6_2).toNat * 2)).off + 1, none⟩ = some (.int .i64 ((rd_T33 l0 x6_2).f1))) (ds := []) #[false, false, false, false, false, false, false, false, false, false, false, false, false, false, false, false, false] (by kernel_rfl) rfl rfl ⟨(blk_cell BK381.out 0).trans rfl, (blk_cell BK381.out 1).trans rfl, ((HB.out.cell (World.block_lt_of_cell? w _ hw383_0)).trans hw383_0), ((HB.out.cell (World.block_lt_of_cell? w _ hw383_1)).trans hw383_1)⟩ (fun hHeld => ?_); refine with_tabW impl_FindOpen.tab13 impl_FindOpen.bits13 (fun HT_ HW_ => ?_)
     generalize w27.drew = w28 at BK381 HB HR383_0 hx383_0 hx383_1 hHeld ⊢
     refine pm_ 0 31 #[true, false, false, false, false, false, false, false, false, false, false, false, false, false, false, false, false] rfl rfl (take_ofW HT_.out HW_.out (by kernel_rfl)) (fun _ _ _ h => h) hHeld ?_
     refine one_ (i := 1) (N := some 32) #[true, true, false, false, false, false, false, false, false, false, false, false, false, false, false, false, false] rfl rfl (one_of HT_.out (by kernel_rfl)) (by decide) (fun K hK => ?_)
     refine goes_ Try.func18 (by kernel_rfl) rfl #[.agg #[.slice A380_0 ((rd_T33 l0 x26_2).f0).length c380_0, .int .i64 ((rd_T33 l0 x26_2).f1)]] (by rfl) rfl rfl (by (try simp only [List.map_toArray, List.map_cons, List.map_nil]); first | done | rfl | (simp only [List.length_drop, List.length_take]; rfl)) ?_
     with_reducible refine (impl_freePages.calls k2 _ _ ((rd_T33 l0 x26_2).f0) ((rd_T33 l0 x26_2).f1) t382 _ ?side1 ?side2 A19.out).mono ?_
     (case side1 => exact pc (Kd.C_below HR380_0.out HB.out))
     (case side2 => exact HC380_0.out)
     rintro e w29 ⟨rfl, hb⟩
     refine ⟨_, rfl, ?_⟩
     replace BK381 := am (blk_below (pb BK381.out) hb)
     replace HB := am (below_step (bg1 HB.out GE381.out) hb)
     (try clear hb)
     (try clear hb2)
     (try clear hk)
     (try clear hi)
     refine hK.out _ _ ⟨(blk_cell BK381.out 0).trans rfl, (blk_cell BK381.out 1).trans rfl, ((HB.out.cell (World.block_lt_of_cell? w _ hw383_0)).trans hw383_0), ((HB.out.cell (World.block_lt_of_cell? w _ hw383_1)).trans hw383_1)⟩ (fun hHeld => ?_)
     clear hK K
     refine norm_ (a' := ?_) ?_ ?_
     rotate_left
     · show Act.put _ (some 32) _ = _
       simp only [Act.put, List.setIfInBounds_toArray, List.set_cons_zero, List.set_cons_succ, i64_w, i32_w]
       rfl
     refine pj_ 2 33 #[true, true, true, false, false, false, false, false, false, false, false, false, false, false, false, false, false] rfl rfl (any_of HT_.out (by kernel_rfl)) (fun _ _ _ h => h) ?_
     refine pj_ 3 34 #[true, true, true, true, false, false, false, false, false, false, false, false, false, false, false, false, false] rfl rfl (any_of HT_.out (by kernel_rfl)) (fun _ _ _ h => h) ?_
     refine pj_ 4 35 #[true, true, true, true, true, false, false, false, false, false, false, false, false, false, false, false, false] rfl rfl (any_of HT_.out (by kernel_rfl)) (fun _ _ _ h => h) ?_
     refine pj_ 5 36 #[true, true, true, true, true, true, false, false, false, false, false, false, false, false, false, false, false] rfl rfl (any_of HT_.out (by kernel_rfl)) (fun _ _ _ h => h) ?_
     refine pj_ 6 37 #[true, true, true, true, true, true, true, false, false, false, false, false, false, false, false, false, false] rfl rfl (any_of HT_.out (by kernel_rfl)) (fun _ _ _ h => h) ?_
     refine pj_ 7 38 #[true, true, true, true, true, true, true, true, false, false, false, false, false, false, false, false, false] rfl rfl (any_of HT_.out (by kernel_rfl)) (fun _ _ _ h => h) ?_
     refine pj_ 9 40 #[true, true, true, true, true, true, true, true, false, true, false, false, false, false, false, false, false] rfl rfl (any_of HT_.out (by kernel_rfl)) (fun _ _ _ h => h) ?_
     refine pj_ 10 41 #[true, true, true, true, true, true, true, true, false, true, true, false, false, false, false, false, false] rfl rfl (any_of HT_.out (by kernel_rfl)) (fun _ _ _ h => h) ?_
     refine pj_ 11 42 #[true, true, true, true, true, true, true, true, false, true, true, true, false, false, false, false, false] rfl rfl (any_of HT_.out (by kernel_rfl)) (fun _ _ _ h => h) ?_
     refine pj_ 12 43 #[true, true, true, true, true, true, true, true, false, true, true, true, true, false, false, false, false] rfl rfl (any_of HT_.out (by kernel_rfl)) (fun _ _ _ h => h) ?_
     refine pm_ 8 39 #[true, true, true, true, true, true, true, true, true, true, true, true, true, false, false, false, false] rfl rfl (take_ofW HT_.out HW_.out (by kernel_rfl)) (fun _ _ _ h => h) hHeld ?_
     refine pm_ 13 44 #[true, true, true, true, true, true, true, true, true, true, true, true, true, true, false, false, false] rfl rfl (take_ofW HT_.out HW_.out (by kernel_rfl)) (fun _ _ _ h => h) hHeld ?_
     refine pj_ 14 45 #[true, true, true, true, true, true, true, true, true, true, true, true, true, true, true, false, false] rfl rfl (any_of HT_.out (by kernel_rfl)) (fun _ _ _ h => h) ?_
     refine pj_ 15 46 #[true, true, true, true, true, true, true, true, true, true, true, true, true, true, true, true, false] rfl rfl (any_of HT_.out (by kernel_rfl)) (fun _ _ _ h => h) ?_
     refine pj_ 16 47 #[true, true, true, true, true, true, true, true, true, true, true, true, true, true, true, true, true] rfl rfl (any_of HT_.out (by kernel_rfl)) (fun _ _ _ h => h) ?_
     refine done_ (done_of HT_.out (by kernel_rfl)) ?_
     try go_wp2
     go_roundg k2
     case measure => have := HK1.out; have := HK2.out; omega
     case rel => exact ⟨(x26_2), (true), (wrap64 (x26_2 + 1)), rf, rf, rf, H', ⟨by have := HK1.out; have := HK2.out; omega⟩, ⟨bg1 HB.out GE381.out⟩⟩
def impl_blockOk.f (a0 : Int) : Option (Bool) := if a0 ≥ 0 then (some (decide (a0 < 4))) else (some false)
set_option maxHeartbeats 8000000 in
set_option maxRecDepth 100000 in
theorem impl_blockOk.calls (a0 : Int) (r : Bool) (w : World) (h : impl_blockOk.f a0 = some r) :
 Calls Try.prog 19 #[.int .i64 a0] w fun e w' => e = .returned (.bool r) ∧ Drawn0 w w' := by
 have H : (if a0 ≥ 0 then (some (decide (a0 < 4))) else (some false)) = some r := h
 clear h
 by_cases c2 : a0 ≥ 0
 · rw [if_pos c2] at H
   have c2b0 := decide_eq_true c2
   clear c2
   obtain rfl := Option.some.inj H
   go_enter Try.func19, Try.ntmps19
   go_wp2
   go_ret
   exact ⟨by first | rfl | (simp; done) | (simp [*]; done), by repeat (first | exact Drawn0.refl _ | apply Drawn0.step)⟩
 rw [if_neg c2] at H
 have c2b0 := decide_eq_false c2
 clear c2
 obtain rfl := Option.some.inj H
 go_enter Try.func19, Try.ntmps19
 go_wp2
 go_ret
 exact ⟨by first | rfl | (simp; done) | (simp [*]; done), by repeat (first | exact Drawn0.refl _ | apply Drawn0.step)⟩
mutual
def impl_seqUsed.l0 : Nat → Int → List (S33) → Int → Int → Option (Bool)
 | 0, _, _, _, _ => none
 | k + 1, x1, x9, x10, x11 => if x11 < x10 then (if 0 ≤ x11 then (if x11 < (x9.length : Int) then (impl_seqUsed.l1 k x1 x9 x10 x11 ((rd_T33 x9 x11).f0) (((rd_T33 x9 x11).f0).length : Int) 0) else (none)) else (none)) else (some false)
def impl_seqUsed.l1 : Nat → Int → List (S33) → Int → Int → List (S30) → Int → Int → Option (Bool)
 | 0, _, _, _, _, _, _, _ => none
 | k + 1, x1, x9, x10, x11, x16, x17, x18 => if x18 < x17 then (if 0 ≤ x18 then (if x18 < (x16.length : Int) then (if ((rd_T30 x16 x18).f0) = 1 then (if ((rd_T30 x16 x18).f1.f1) = x1 then (some true) else (impl_seqUsed.l1 k x1 x9 x10 x11 x16 x17 (wrap64 (x18 + 1)))) else (impl_seqUsed.l1 k x1 x9 x10 x11 x16 x17 (wrap64 (x18 + 1)))) else (none)) else (none)) else (impl_seqUsed.l0 k x1 x9 x10 (wrap64 (x11 + 1)))
end
def impl_seqUsed.f (k : Nat) (l0 : List (S33)) (a1 : Int) : Option (Bool) := impl_seqUsed.l0 k a1 l0 (l0.length : Int) 0
theorem impl_seqUsed.mono_l : ∀ k, (∀ y0 y1 y2 y3, LeO (impl_seqUsed.l0 k y0 y1 y2 y3) (impl_seqUsed.l0 (k + 1) y0 y1 y2 y3)) ∧ (∀ y0 y1 y2 y3 y4 y5 y6, LeO (impl_seqUsed.l1 k y0 y1 y2 y3 y4 y5 y6) (impl_seqUsed.l1 (k + 1) y0 y1 y2 y3 y4 y5 y6))
 | 0 => ⟨fun _ _ _ _ r h => by simp [impl_seqUsed.l0] at h, fun _ _ _ _ _ _ _ r h => by simp [impl_seqUsed.l1] at h⟩
 | k + 1 => by
  obtain ⟨ih0, ih1⟩ := impl_seqUsed.mono_l k
  refine ⟨?_, ?_⟩
  · intro y0 y1 y2 y3
    unfold impl_seqUsed.l0
    repeat' first
    | (with_reducible exact ih0 _ _ _ _)
    | (with_reducible exact ih1 _ _ _ _ _ _ _)
    | (with_reducible exact LeO.refl _)
    | (with_reducible exact LeO.none _)
    | (with_reducible refine LeO.ite ?_ ?_)
    | (with_reducible refine LeO.bind ?_ (fun _ => ?_))
    | exact ih0 _ _ _ _
    | exact ih1 _ _ _ _ _ _ _
    | exact LeO.none _
    | refine LeO.ite ?_ ?_
    | refine LeO.bind ?_ (fun _ => ?_)
  · intro y0 y1 y2 y3 y4 y5 y6
    unfold impl_seqUsed.l1
    repeat' first
    | (with_reducible exact ih0 _ _ _ _)
    | (with_reducible exact ih1 _ _ _ _ _ _ _)
    | (with_reducible exact LeO.refl _)
    | (with_reducible exact LeO.none _)
    | (with_reducible refine LeO.ite ?_ ?_)
    | (with_reducible refine LeO.bind ?_ (fun _ => ?_))
    | exact ih0 _ _ _ _
    | exact ih1 _ _ _ _ _ _ _
    | exact LeO.none _
    | refine LeO.ite ?_ ?_
    | refine LeO.bind ?_ (fun _ => ?_)
theorem impl_seqUsed.mono : ∀ a0 a1 k, LeO (impl_seqUsed.f k a0 a1) (impl_seqUsed.f (k + 1) a0 a1) := by
 intro a0 a1 k
 obtain ⟨ih0, ih1⟩ := impl_seqUsed.mono_l k
 unfold impl_seqUsed.f
 repeat' first
  | (with_reducible exact ih0 _ _ _ _)
  | (with_reducible exact ih1 _ _ _ _ _ _ _)
  | (with_reducible exact LeO.refl _)
  | (with_reducible exact LeO.none _)
  | (with_reducible refine LeO.ite ?_ ?_)
  | (with_reducible refine LeO.bind ?_ (fun _ => ?_))
  | exact ih0 _ _ _ _
  | exact ih1 _ _ _ _ _ _ _
  | exact LeO.none _
  | refine LeO.ite ?_ ?_
  | refine LeO.bind ?_ (fun _ => ?_)
set_option maxHeartbeats 8000000 in
set_option maxRecDepth 100000 in
theorem impl_seqUsed.calls (k : Nat) (A0 : Option Addr) (c0 : Nat) (l0 : List (S33)) (a1 : Int) (r : Bool) (w : World) (hr0 : Kd.C k33 w A0 l0.length l0) (hc0 : l0.length ≤ c0) (h : impl_seqUsed.f k l0 a1 = some r) :
 Calls Try.prog 22 #[.slice A0 l0.length c0, .int .i64 a1] w fun e w' => e = .returned (.bool r) ∧ Below w.heap.size w w' := by
 have hu33 := Try.underlying33
 have hu30 := Try.underlying30
 have HR0 := am hr0
 have HC0 := am hc0
 clear hr0 hc0
 have HB := am (Below.refl w.heap.size w)
 have H : (impl_seqUsed.l0 k a1 l0 (l0.length : Int) 0) = some r := h
 clear h
 have H' := am H
 clear H
 go_enter Try.func22, Try.ntmps22
 go_wp2
 go_loopg [11] k (fun kq v11 w' => ∃ (x11_1 : Int), v11 = .int .i64 x11_1 ∧ Aside0 (impl_seqUsed.l0 kq a1 l0 (l0.length : Int) x11_1 = some r) ∧ Aside0 (kq ≤ k) ∧ Aside0 (Below w.heap.size w w'))
 case atStart => exact ⟨(0), rf, H', ⟨Nat.le_refl _⟩, ⟨ph HB.out⟩⟩
 case round =>
  clear H'
  obtain ⟨x11_1, rfl, HA, HK1, HB⟩ := hrel
  cases gk with
  | zero => exact absurd HA.out (by simp [impl_seqUsed.l0])
  | succ k1 =>
   have H := HA.out
   clear HA
   simp only [impl_seqUsed.l0] at H
   by_cases c3 : x11_1 < (l0.length : Int)
   rotate_left
   · rw [if_neg c3] at H
     have c3b0 := decide_eq_false c3
     clear c3
     obtain rfl := Option.some.inj H
     go_wp2
     go_ret
     exact (rq (ph HB.out))
   rw [if_pos c3] at H
   have c3b0 := decide_eq_true c3
   clear c3
   by_cases c4 : 0 ≤ x11_1
   rotate_left
   · rw [if_neg c4] at H
     exact absurd H (by simp)
   rw [if_pos c4] at H
   have c4b0 := decide_eq_true c4
   clear c4
   by_cases c5 : x11_1 < (l0.length : Int)
   rotate_left
   · rw [if_neg c5] at H
     exact absurd H (by simp)
   rw [if_pos c5] at H
   have c5b0 := decide_eq_true c5
   clear c5
   have H' := am H
   clear H
   have p389 : 0 ≤ (x11_1 : Int) := ofb
   have q389 : x11_1 < (l0.length : Int) := ofb
   obtain ⟨ad389, A389_0, c389_0, e389, hx389_0, hx389_1, hl389_0, hi389_0⟩ := at_T33 HR0.out x11_1 p389 q389
   cases e389
   replace hx389_0 := up HB.out hx389_0
   replace hx389_1 := up HB.out hx389_1
   have HR389_0 := am hi389_0
   have HC389_0 := am hl389_0
   clear hi389_0 hl389_0
   replace p389 := eq_true p389
   replace q389 := eq_true q389
   go_wp2_with (first | (refine bx 6 #[.slice none 0 0, .int .i64 0] 33 rfl ?_; intro gb390 hg w6 hbox hb; have BK390 := am (hbox); have GW390 := am ((by rw [hg]; exact (below_size (ph HB.out)) : w.heap.size ≤ gb390)); have GE390 := GW390; replace HB := am (below_step (ph HB.out) hb); clear hb hbox hg; obtain ⟨hcz7_0, hcz7_1⟩ := b2 BK390.out; obtain ⟨hfz7_0, hfz7_1⟩ := f2 BK390.out))
   go_loopg [18] k1 (fun kq v18 w' => ∃ (x18_2 : Int), v18 = .int .i64 x18_2 ∧ Aside0 (impl_seqUsed.l1 kq a1 l0 (l0.length : Int) x11_1 ((rd_T33 l0 x11_1).f0) (((rd_T33 l0 x11_1).f0).length : Int) x18_2 = some r) ∧ Aside0 (kq ≤ k1) ∧ Aside0 (w'.heap[gb390]? = some (.cells #[(.slice A389_0 ((rd_T33 l0 x11_1).f0).length c389_0), .int .i64 ((rd_T33 l0 x11_1).f1)] 33 (0, 0))) ∧ Aside0 (Below w.heap.size w w'))
   case atStart => exact ⟨(0), rf, H', ⟨Nat.le_refl _⟩, ⟨by (with_reducible repeat (first | refine blk_drewN ?_ _ | refine blk_drew ?_ | refine blk_alloc ?_ _)); refine blk_put (cs := #[.slice A389_0 ((rd_T33 l0 x11_1).f0).length c389_0, .int .i64 0]) ?_ 1 _ rfl; (with_reducible repeat (first | refine blk_drewN ?_ _ | refine blk_drew ?_ | refine blk_alloc ?_ _)); refine blk_put (cs := #[.slice none 0 0, .int .i64 0]) ?_ 0 _ rfl; (with_reducible repeat (first | refine blk_drewN ?_ _ | refine blk_drew ?_ | refine blk_alloc ?_ _)); exact BK390.out⟩, ⟨bg1 HB.out GE390.out⟩⟩
   case round =>
    clear H'
    obtain ⟨x18_2, rfl, HA, HK2, BK390, HB⟩ := hrel
    cases gk with
    | zero => exact absurd HA.out (by simp [impl_seqUsed.l1])
    | succ k2 =>
     have H := HA.out
     clear HA
     simp only [impl_seqUsed.l1] at H
     by_cases c8 : x18_2 < (((rd_T33 l0 x11_1).f0).length : Int)
     rotate_left
     · rw [if_neg c8] at H
       have c8b0 := decide_eq_false c8
       clear c8
       have H' := am H
       clear H
       go_wp2
       go_roundg k2
       case measure => have := HK1.out; have := HK2.out; omega
       case rel => exact ⟨(wrap64 (x11_1 + 1)), rf, H', ⟨by have := HK1.out; have := HK2.out; omega⟩, ⟨bg1 HB.out GE390.out⟩⟩
     rw [if_pos c8] at H
     have c8b0 := decide_eq_true c8
     clear c8
     by_cases c9 : 0 ≤ x18_2
     rotate_left
     · rw [if_neg c9] at H
       exact absurd H (by simp)
     rw [if_pos c9] at H
     have c9b0 := decide_eq_true c9
     clear c9
     by_cases c10 : x18_2 < (((rd_T33 l0 x11_1).f0).length : Int)
     rotate_left
     · rw [if_neg c10] at H
       exact absurd H (by simp)
     rw [if_pos c10] at H
     have c10b0 := decide_eq_true c10
     clear c10
     by_cases c11 : ((rd_T30 ((rd_T33 l0 x11_1).f0) x18_2).f0) = 1
     rotate_left
     · rw [if_neg c11] at H
       have c11b0 : (((rd_T30 ((rd_T33 l0 x11_1).f0) x18_2).f0) == 1) = false := beq_eq_false_iff_ne.mpr c11
       have c11b1 : (((rd_T30 ((rd_T33 l0 x11_1).f0) x18_2).f0) != 1) = true := bne_iff_ne.mpr c11
       have H' := am H
       clear H
       have p391 : 0 ≤ (x18_2 : Int) := ofb
       have q391 : x18_2 < (((rd_T33 l0 x11_1).f0).length : Int) := ofb
       obtain ⟨ad391, e391, hx391_0, hx391_1, hx391_2, hx391_3, hx391_4⟩ := at_T30 HR389_0.out x18_2 p391 q391
       cases e391
       replace hx391_0 := up HB.out hx391_0
       replace hx391_1 := up HB.out hx391_1
       replace hx391_2 := up HB.out hx391_2
       replace hx391_3 := up HB.out hx391_3
       replace hx391_4 := up HB.out hx391_4
       replace p391 := eq_true p391
       replace q391 := eq_true q391
       go_wp2_with (first | (refine bx 8 #[.int .i64 0, .int .i64 0, .int .i64 0, .int .i64 0, .int .i64 0] 30 rfl ?_; intro gb392 hg w19 hbox hb; have BK392 := am (hbox); have GW392 := am ((by rw [hg]; exact (below_size (bg1 HB.out GE390.out)) : w.heap.size ≤ gb392)); have GE392 := GW392; replace HB := am (below_step (bg1 HB.out GE390.out) hb); have NB390_392 := am ((by rw [hg]; exact Nat.ne_of_lt (blk_lt (pb BK390.out)) : gb390 ≠ gb392)); have NB392_390 := am (Ne.symm NB390_392.out); replace BK390 := am (blk_below (pb BK390.out) hb); clear hb hbox hg; have hnb20 := NB392_390.out; have hnc20 := NB390_392.out; obtain ⟨hcz21_0, hcz21_1, hcz21_2, hcz21_3, hcz21_4⟩ := b5 BK392.out; obtain ⟨hfz21_0, hfz21_1, hfz21_2, hfz21_3, hfz21_4⟩ := f5 BK392.out))
       go_roundg k2
       case measure => have := HK1.out; have := HK2.out; omega
       case rel => exact ⟨(wrap64 (x18_2 + 1)), rf, H', ⟨by have := HK1.out; have := HK2.out; omega⟩, ⟨by (with_reducible repeat (first | refine blk_drewN ?_ _ | refine blk_drew ?_ | refine blk_alloc ?_ _)); refine blk_far ?_ NB390_392.out _; (with_reducible repeat (first | refine blk_drewN ?_ _ | refine blk_drew ?_ | refine blk_alloc ?_ _)); refine blk_far ?_ NB390_392.out _; (with_reducible repeat (first | refine blk_drewN ?_ _ | refine blk_drew ?_ | refine blk_alloc ?_ _)); refine blk_far ?_ NB390_392.out _; (with_reducible repeat (first | refine blk_drewN ?_ _ | refine blk_drew ?_ | refine blk_alloc ?_ _)); refine blk_far ?_ NB390_392.out _; (with_reducible repeat (first | refine blk_drewN ?_ _ | refine blk_drew ?_ | refine blk_alloc ?_ _)); refine blk_far ?_ NB390_392.out _; (with_reducible repeat (first | refine blk_drewN ?_ _ | refine blk_drew ?_ | refine blk_alloc ?_ _)); exact BK390.out⟩, ⟨bg2 HB.out GE390.out GE392.out⟩⟩
     rw [if_pos c11] at H
     have c11b0 : (((rd_T30 ((rd_T33 l0 x11_1).f0) x18_2).f0) == 1) = true := beq_iff_eq.mpr c11
     have c11b1 : (((rd_T30 ((rd_T33 l0 x11_1).f0) x18_2).f0) != 1) = false := bne_eq_false_iff_eq.mpr c11
     clear c11
     by_cases c12 : ((rd_T30 ((rd_T33 l0 x11_1).f0) x18_2).f1.f1) = a1
     · rw [if_pos c12] at H
       have c12b0 : (((rd_T30 ((rd_T33 l0 x11_1).f0) x18_2).f1.f1) == a1) = true := beq_iff_eq.mpr c12
       have c12b1 : (((rd_T30 ((rd_T33 l0 x11_1).f0) x18_2).f1.f1) != a1) = false := bne_eq_false_iff_eq.mpr c12
       clear c12
       obtain rfl := Option.some.inj H
       have p391 : 0 ≤ (x18_2 : Int) := ofb
       have q391 : x18_2 < (((rd_T33 l0 x11_1).f0).length : Int) := ofb
       obtain ⟨ad391, e391, hx391_0, hx391_1, hx391_2, hx391_3, hx391_4⟩ := at_T30 HR389_0.out x18_2 p391 q391
       cases e391
       replace hx391_0 := up HB.out hx391_0
       replace hx391_1 := up HB.out hx391_1
       replace hx391_2 := up HB.out hx391_2
       replace hx391_3 := up HB.out hx391_3
       replace hx391_4 := up HB.out hx391_4
       replace p391 := eq_true p391
       replace q391 := eq_true q391
       go_wp2_with (first | (refine bx 8 #[.int .i64 0, .int .i64 0, .int .i64 0, .int .i64 0, .int .i64 0] 30 rfl ?_; intro gb392 hg w13 hbox hb; have BK392 := am (hbox); have GW392 := am ((by rw [hg]; exact (below_size (bg1 HB.out GE390.out)) : w.heap.size ≤ gb392)); have GE392 := GW392; replace HB := am (below_step (bg1 HB.out GE390.out) hb); have NB390_392 := am ((by rw [hg]; exact Nat.ne_of_lt (blk_lt (pb BK390.out)) : gb390 ≠ gb392)); have NB392_390 := am (Ne.symm NB390_392.out); replace BK390 := am (blk_below (pb BK390.out) hb); clear hb hbox hg; have hnb14 := NB392_390.out; have hnc14 := NB390_392.out; obtain ⟨hcz15_0, hcz15_1, hcz15_2, hcz15_3, hcz15_4⟩ := b5 BK392.out; obtain ⟨hfz15_0, hfz15_1, hfz15_2, hfz15_3, hfz15_4⟩ := f5 BK392.out))
       go_ret
       exact (rq (bg2 HB.out GE390.out GE392.out))
     rw [if_neg c12] at H
     have c12b0 : (((rd_T30 ((rd_T33 l0 x11_1).f0) x18_2).f1.f1) == a1) = false := beq_eq_false_iff_ne.mpr c12
     have c12b1 : (((rd_T30 ((rd_T33 l0 x11_1).f0) x18_2).f1.f1) != a1) = true := bne_iff_ne.mpr c12
     have H' := am H
     clear H
     have p391 : 0 ≤ (x18_2 : Int) := ofb
     have q391 : x18_2 < (((rd_T33 l0 x11_1).f0).length : Int) := ofb
     obtain ⟨ad391, e391, hx391_0, hx391_1, hx391_2, hx391_3, hx391_4⟩ := at_T30 HR389_0.out x18_2 p391 q391
     cases e391
     replace hx391_0 := up HB.out hx391_0
     replace hx391_1 := up HB.out hx391_1
     replace hx391_2 := up HB.out hx391_2
     replace hx391_3 := up HB.out hx391_3
     replace hx391_4 := up HB.out hx391_4
     replace p391 := eq_true p391
     replace q391 := eq_true q391
     go_wp2_with (first | (refine bx 8 #[.int .i64 0, .int .i64 0, .int .i64 0, .int .i64 0, .int .i64 0] 30 rfl ?_; intro gb392 hg w16 hbox hb; have BK392 := am (hbox); have GW392 := am ((by rw [hg]; exact (below_size (bg1 HB.out GE390.out)) : w.heap.size ≤ gb392)); have GE392 := GW392; replace HB := am (below_step (bg1 HB.out GE390.out) hb); have NB390_392 := am ((by rw [hg]; exact Nat.ne_of_lt (blk_lt (pb BK390.out)) : gb390 ≠ gb392)); have NB392_390 := am (Ne.symm NB390_392.out); replace BK390 := am (blk_below (pb BK390.out) hb); clear hb hbox hg; have hnb17 := NB392_390.out; have hnc17 := NB390_392.out; obtain ⟨hcz18_0, hcz18_1, hcz18_2, hcz18_3, hcz18_4⟩ := b5 BK392.out; obtain ⟨hfz18_0, hfz18_1, hfz18_2, hfz18_3, hfz18_4⟩ := f5 BK392.out))
     go_roundg k2
     case measure => have := HK1.out; have := HK2.out; omega
     case rel => exact ⟨(wrap64 (x18_2 + 1)), rf, H', ⟨by have := HK1.out; have := HK2.out; omega⟩, ⟨by (with_reducible repeat (first | refine blk_drewN ?_ _ | refine blk_drew ?_ | refine blk_alloc ?_ _)); refine blk_far ?_ NB390_392.out _; (with_reducible repeat (first | refine blk_drewN ?_ _ | refine blk_drew ?_ | refine blk_alloc ?_ _)); refine blk_far ?_ NB390_392.out _; (with_reducible repeat (first | refine blk_drewN ?_ _ | refine blk_drew ?_ | refine blk_alloc ?_ _)); refine blk_far ?_ NB390_392.out _; (with_reducible repeat (first | refine blk_drewN ?_ _ | refine blk_drew ?_ | refine blk_alloc ?_ _)); refine blk_far ?_ NB390_392.out _; (with_reducible repeat (first | refine blk_drewN ?_ _ | refine blk_drew ?_ | refine blk_alloc ?_ _)); refine blk_far ?_ NB390_392.out _; (with_reducible repeat (first | refine blk_drewN ?_ _ | refine blk_drew ?_ | refine blk_alloc ?_ _)); exact BK390.out⟩, ⟨bg2 HB.out GE390.out GE392.out⟩⟩
def kb_ : Kd S33 := Kd.iso (Kd.pair (Kd.slice 82 k30) (Kd.int .i64)) (fun x : S33 => (x.f0, x.f1))
theorem kb__openM {w : World} {base : Nat} {ok : Nat → Prop} {x : S33} {cs : List Value} (h : kb_.M w base ok x cs) : ∃ v0, cs = [v0, .int .i64 x.f1] ∧ k30.R 82 w base ok v0 x.f0 := by
 obtain ⟨_, _, rfl, ⟨v0, rfl, g0⟩, rfl⟩ := h
 exact ⟨v0, rfl, g0⟩
theorem kb__mkM (w : World) (base : Nat) (ok : Nat → Prop) (x : S33) {v0 : Value} (g0 : k30.R 82 w base ok v0 x.f0) : kb_.M w base ok x [v0, .int .i64 x.f1] := ⟨[v0], [.int .i64 x.f1], rfl, ⟨v0, rfl, g0⟩, rfl⟩
theorem kb_C {w : World} {A : Option Addr} {n : Nat} {xs : List S33} (h : Kd.C kb_ w A n xs) : Kd.C k33 w A n xs := h
theorem run_copy_sz {P : Program} (w : World) (dT sT ty elem : TypeId) (g dLen dCap : Nat) (a : Addr) (sLen sCap sz : Nat) (cur : Array Value) (t : TypeId) (cs : List Value)
 (hu : P.underlying dT = some (.slice elem)) (hs : (P.info? elem).map (·.size) = some sz) (hg : w.heap[g]? = some (.cells cur t (0, 0))) (hn : cs.length = Nat.min sLen dLen * sz)
 (hsrc : ∀ j v, cs[j]? = some v → w.cell? (a.add j) = some v) (hfit : cs.length ≤ cur.size) (h1 : ∀ v ∈ cs, v.oneCell' = true) :
 (Builtin.copy_ #[dT, sT] ty #[.slice (some ⟨g, 0, none⟩) dLen dCap, .slice (some a) sLen sCap]).run P w = .ok (goInt (Nat.min sLen dLen : Nat)) (w.setRow g (cs ++ cur.toList.drop cs.length).toArray) := by
 have hl := run_loadCells_list (P := P) w a cs hsrc
 have hst := run_storeCells_at P g 0 t cs 0 cur w hg (by simpa using hfit) h1
 simp only [Nat.add_zero, List.take_zero, List.nil_append, Nat.zero_add] at hst
 cases hq : P.info? elem with
 | none => simp [hq] at hs
 | some i =>
  have hi : i.size = sz := by simpa [hq] using hs
  rw [hn] at hl
  simp [Builtin.copy_, run_underlying hu, Builtin.lenOf, Builtin.firstCells, sizeOf, typeInfo, hq, hi, hl, hst]
abbrev zeros20 : Array Value := #[.int .i64 0, .int .i64 0, .int .i64 0, .int .i64 0, .int .i64 0, .int .i64 0, .int .i64 0, .int .i64 0, .int .i64 0, .int .i64 0, .int .i64 0, .int .i64 0, .int .i64 0, .int .i64 0, .int .i64 0, .int .i64 0, .int .i64 0, .int .i64 0, .int .i64 0, .int .i64 0]
theorem k30_of {w w' : World} {base : Nat} {ok : Nat → Prop} {x : S30} {cs : List Value} (h : k30.K w x cs) : k30.M w' base ok x cs := by
 obtain rfl := k30_open h
 exact k30_mkM _ _ _ _
set_option maxHeartbeats 2000000 in
set_option maxRecDepth 100000 in
theorem impl_pagesCopy.calls (A0 : Option Addr) (c0 : Nat) (l0 : List S30) (w : World) (hr0 : Kd.C k30 w A0 l0.length l0) (hl : l0.length = 4) :
 Calls Try.prog 34 #[.slice A0 l0.length c0] w fun e w' => ∃ v, e = .returned v ∧ k30.R 82 w' w.heap.size (fun k => w.heap.size ≤ k) v l0 ∧ Below w.heap.size w w' := by
 obtain ⟨ad, hA, -⟩ := hr0.2.2 (by omega)
 subst hA
 obtain ⟨news, hnr, hnc⟩ := ReadsRow.inner_ hr0
 have esz : (k30).sz = 5 := rfl
 have hnl : news.length = 20 := by rw [hnr.1, hl, esz]
 have hone : ∀ u ∈ news, u.oneCell' = true := by
  intro u hu
  obtain ⟨q, hq, rfl⟩ := List.mem_iff_getElem.1 hu
  have hql : q / 5 < l0.length := by omega
  have hc := hnr.2 (q / 5) _ (List.getElem?_eq_getElem hql)
  refine k30.K_one hc _ ?_
  rw [List.mem_iff_getElem?]
  refine ⟨q % 5, ?_⟩
  rw [esz, List.getElem?_take, if_pos (Nat.mod_lt _ (by decide)), List.getElem?_drop, Nat.mul_comm, Nat.div_add_mod, List.getElem?_eq_getElem hq]
 have hu1 := Try.underlying31
 have hu2 := Try.underlying82
 have hu3 := Try.underlying80
 have hb := below_alloc (Below.refl _ w) (.cells zeros20 82)
 have hcp := run_copy_sz (P := Try.prog) (w.alloc (.cells zeros20 82)) 31 31 3 30 w.heap.size 4 4 ad 4 c0 5 zeros20 82 news hu1 (by kernel_rfl) (blk_new w _) (by rw [hnl]; rfl) (fun j v hj => up hb (hnc j v hj)) (by rw [hnl]; exact Nat.le_refl 20) hone
 rw [World.setRow_alloc_new, show (news ++ zeros20.toList.drop news.length) = news by rw [hnl]; exact List.append_nil news, show Nat.min 4 4 = 4 from rfl] at hcp
 have HN := am (And.intro hnl hnr)
 rw [hl]
 clear hr0 hone hnc hnl hnr hb
 go_enter Try.func34, Try.ntmps34
 go_wp2
 go_ret
 obtain ⟨hnl, hnr⟩ := HN.out
 refine ⟨_, rfl, ⟨fun k hk => ?_, news, ?_, hnr.imp_ (fun p c hp => ?_)⟩, below_alloc (Below.refl _ w) _⟩
 · have : w.heap.size = k := by simpa [Value.ownBlock] using hk
   omega
 · rw [esz, hl]
   have h := World.ownsRow_lit (base := w.heap.size) (e := 82) (size := 5) w news.toArray 4 (Nat.le_refl _) (by decide) (by rw [List.size_toArray, hnl])
   exact h
 · exact k30_of hp
theorem impl_pagesCopy.calls4 (A0 : Option Addr) (c0 : Nat) (l0 : List S30) (w : World) (hr0 : Kd.C k30 w A0 l0.length l0) (hl : l0.length = 4) :
 Calls Try.prog 34 #[.slice A0 4 c0] w fun e w' => ∃ A c, e = .returned (.slice A 4 c) ∧ k30.R 82 w' w.heap.size (fun k => w.heap.size ≤ k) (.slice A 4 c) l0 ∧ Below w.heap.size w w' := by
 have h := impl_pagesCopy.calls A0 c0 l0 w hr0 hl
 rw [hl] at h
 refine h.mono ?_
 rintro e w' ⟨v, rfl, hR, hb⟩
 obtain ⟨A, c, rfl⟩ := Kd.R_slice hR
 rw [hl] at hR ⊢
 exact ⟨A, c, rfl, hR, hb⟩
theorem S_store {w1 : World} {base N g n cap : Nat} {v0 : Value} {t : List S30} {xs : List S33} (HS : Kd.S kb_ 33 w1 base (fun k => base ≤ k ∧ k < N) (.slice (some ⟨g, 0, none⟩) n cap) xs) (hb : base ≤ N) (hg : g < N)
 (hR : k30.R 82 w1 N (fun k => N ≤ k) v0 t) (i : Int) (h0 : 0 ≤ i) (h1 : i < n) (b : Int) :
 Kd.S kb_ 33 ((w1.setCell ⟨g, i.toNat * 2, none⟩ v0).setCell ⟨g, i.toNat * 2 + 1, none⟩ (.int .i64 b)) base (fun k => base ≤ k) (.slice (some ⟨g, 0, none⟩) n cap) (xs.set i.toNat ⟨t, b⟩) := by
 obtain ⟨oki, c, hcl, hM, hcc, hfr, hoki, hH⟩ := Kd.S_elem HS z33 i h0 h1
 have hl : c.length = 2 := hcl
 have h := Kd.S_seg (okp := fun k => N ≤ k) (okg := fun k => N ≤ k) (ok := fun k => base ≤ k) (Kd.H_mono hH (fun k hk => ⟨hk.1, by omega⟩)) h0 h1 (seg := [v0, .int .i64 b]) (j := 0) (show 0 + 2 ≤ 2 from Nat.le_refl 2) (x' := (⟨t, b⟩ : S33))
  (by
   rw [List.take_zero, List.nil_append, List.drop_of_length_le (by rw [hl]; exact Nat.le_refl 2), List.append_nil]
   exact kb__mkM w1 base _ ⟨t, b⟩ (Kd.R_lower hR hb)) (fun k hk => .inr hk) (fun k hk => ⟨Nat.le_trans hb hk, by omega⟩)
 exact h.1
theorem copy_step {l0 : List S33} {j : Nat} {y : S33} (hy : l0[j]? = some y) (z : S33) : (l0.take j ++ List.replicate (l0.length - j) z).set j y = l0.take (j + 1) ++ List.replicate (l0.length - (j + 1)) z := by
 have h : j < l0.length := (List.getElem?_eq_some_iff.1 hy).1
 have e : l0.length - j = (l0.length - (j + 1)) + 1 := by omega
 rw [e, List.replicate_succ, List.set_append_right _ _ (by rw [List.length_take]; omega), List.length_take, Nat.min_eq_left (by omega), Nat.sub_self, List.set_cons_zero, List.take_add_one, hy, Option.toList_some, List.append_assoc, List.cons_append, List.nil_append]
theorem keep3w {a b : Addr} {va vb : Value} {B : Nat} {w W W' : World} (h : W.cell? a = some va ∧ W.cell? b = some vb ∧ Below B w W) (hB : B ≤ W.heap.size) (hb : Below W.heap.size W W') : W'.cell? a = some va ∧ W'.cell? b = some vb ∧ Below B w W' :=
 ⟨up hb h.1, up hb h.2.1, below_then h.2.2 hB hb⟩
theorem keepSet {a b : Addr} {va vb u u' : Value} {B g i i' : Nat} {w W : World} (h : W.cell? a = some va ∧ W.cell? b = some vb ∧ Below B w W) (ha : a.block ≠ g) (hb : b.block ≠ g) (hg : B ≤ g) :
 ((W.setCell ⟨g, i, none⟩ u).setCell ⟨g, i', none⟩ u').cell? a = some va ∧ ((W.setCell ⟨g, i, none⟩ u).setCell ⟨g, i', none⟩ u').cell? b = some vb ∧ Below B w ((W.setCell ⟨g, i, none⟩ u).setCell ⟨g, i', none⟩ u') := by
 have e : ∀ (c : Addr) (k : Nat), c.block ≠ g → (⟨g, k, none⟩ : Addr) ≠ c := fun c k hc he => hc (by rw [← he])
 refine ⟨?_, ?_, (h.2.2.setCell (p := ⟨g, i, none⟩) hg _).setCell (p := ⟨g, i', none⟩) hg _⟩
 · rw [World.cell?_setCell_other _ _ _ _ (e a i' ha), World.cell?_setCell_other _ _ _ _ (e a i ha)]
   exact h.1
 · rw [World.cell?_setCell_other _ _ _ _ (e b i' hb), World.cell?_setCell_other _ _ _ _ (e b i hb)]
   exact h.2.1
set_option maxHeartbeats 2000000 in
set_option maxRecDepth 100000 in
theorem impl_flashCopy.calls (A0 : Option Addr) (c0 : Nat) (l0 : List S33) (w : World) (hr0 : Kd.C k33 w A0 l0.length l0) (hn : 1 ≤ l0.length) (hn2 : l0.length ≤ 1000) (hl : ∀ x ∈ l0, x.f0.length = 4) :
 Calls Try.prog 21 #[.slice A0 l0.length c0] w fun e w' => ∃ v, e = .returned v ∧ Kd.S kb_ 33 w' w.heap.size (fun k => w.heap.size ≤ k) v l0 ∧ Below w.heap.size w w' := by
 have hu := Try.underlying33
 have HR0 := am hr0
 have HL := am hl
 clear hr0 hl
 go_enter Try.func21, Try.ntmps21
 go_wp2_with (first | ((with_reducible refine gate_dst (N := 8) rfl ?_); refine Kd.S_make kb_ (w0 := w) w.heap.size 33 rfl (N := 8) rfl 23 _ _ rfl (l0.length : Int) rfl rfl Try.underlying23 (.agg #[(.slice none 0 0), (.int .i64 0)]) 32 info33 rfl (by decide) (by omega) z33 (ok := fun k => w.heap.size ≤ k) (okp := fun k => w.heap.size ≤ k) (kb__mkM _ _ _ z33 (Kd.R_nil _ _ _ _ _)) (fun _ hk => hk) (Nat.le_refl _) (by omega) (by omega) (Below.refl _ _) (Nat.le_refl _) ?_; intro v1 w4 ho5 hb4 hg4 hnew4))
 rw [Int.toNat_natCast] at ho5
 obtain ⟨g, cap, rfl, hgb, hgl, -⟩ := Kd.S_form ho5 (by rw [List.length_replicate]; omega)
 rw [List.length_replicate] at *
 clear hg4 hnew4
 have HO := am ho5
 have HB := am hb4
 clear ho5 hb4
 go_loopw [11] (fun v W => ∃ (j : Nat), j ≤ l0.length ∧ v = .int .i64 j ∧ Aside0 (Kd.S kb_ 33 W w.heap.size (fun k => w.heap.size ≤ k) (.slice (some ⟨g, 0, none⟩) l0.length cap) (l0.take j ++ List.replicate (l0.length - j) z33)) ∧ Aside0 (Below w.heap.size w W)) (fun v _ => l0.length - (intOf v).toNat)
 case atStart => exact ⟨0, Nat.zero_le _, rfl, ⟨by simpa using HO.out⟩, HB⟩
 case round =>
  obtain ⟨j, hj, rfl, HOr, HBr⟩ := hrel
  by_cases hlt : j < l0.length
  rotate_left
  · go_wp2
    go_ret
    refine ⟨_, rfl, ?_, HBr.out⟩
    have e : j = l0.length := by omega
    have h := HOr.out
    rw [e, List.take_length, Nat.sub_self, List.replicate_zero, List.append_nil] at h
    exact h
  obtain ⟨ad, Aj, cj, hA, hx0, hx1, hlj, hCj⟩ := at_T33 HR0.out (j : Int) (by omega) (by omega)
  cases hA
  obtain ⟨y, hy⟩ : ∃ y, l0[j]? = some y := ⟨l0[j], List.getElem?_eq_getElem hlt⟩
  have ej : rd_T33 l0 (j : Int) = y := by
   unfold rd_T33
   rw [Int.toNat_natCast, List.getD_eq_getElem?_getD, hy]
   rfl
  have h4 := HL.out y (List.mem_of_getElem? hy)
  rw [ej] at hx0 hx1 hlj hCj
  have HY := am hy
  rw [h4, Int.toNat_natCast] at hx0
  rw [Int.toNat_natCast] at hx1
  replace hx0 := up HBr.out hx0
  replace hx1 := up HBr.out hx1
  have HC := am hCj
  have H4 := am h4
  clear hlj hCj ej hy h4
  obtain ⟨oki, c, hcl, hM, hcc, hfr, hoki, hH⟩ := Kd.S_elem HOr.out z33 (j : Int) (by omega) (by omega)
  obtain ⟨vo, rfl, -⟩ := kb__openM hM
  have ho0 := hcc 0 _ rfl
  have ho1 := hcc 1 _ rfl
  have esz : (kb_).sz = 2 := rfl
  rw [Int.toNat_natCast, esz, Nat.add_zero] at ho0
  rw [Int.toNat_natCast, esz] at ho1
  generalize (List.getD _ _ _ : S33).f1 = wo at ho1
  obtain ⟨g', cap', hv', hgb', hgl', cellsr, hcellsr⟩ := Kd.S_form HOr.out (by rw [List.length_append, List.length_take, List.length_replicate]; omega)
  injection hv' with hv1 hv2 hv3
  injection hv1 with hv1
  injection hv1 with hv1 hv4
  clear hv2 hv3 hv4
  subst hv1
  have HG := am hcellsr
  have hjl := decide_eq_true (show (j : Int) < (l0.length : Int) by omega)
  have hjq : ((j : Int) < (l0.length : Int)) = True := eq_true (by omega)
  have HLT := am hlt
  clear hlt
  clear hcl hM hcc hfr hoki hH hcellsr esz
  go_wp2_with fail
  have hbx := blk_new wr (.cells #[.slice Aj 4 cj, .int .i64 y.f1] 33)
  have hB5 := below_alloc HBr.out (.cells #[.slice Aj 4 cj, .int .i64 y.f1] 33)
  have HO5 := Kd.S_alloc HOr.out (.cells #[.slice Aj 4 cj, .int .i64 y.f1] 33)
  have HG5 := blk_alloc HG.out (.cells #[.slice Aj 4 cj, .int .i64 y.f1] 33)
  have o0 := up (below_alloc (Below.refl _ wr) (.cells #[.slice Aj 4 cj, .int .i64 y.f1] 33)) ho0
  have o1 := up (below_alloc (Below.refl _ wr) (.cells #[.slice Aj 4 cj, .int .i64 y.f1] 33)) ho1
  have HCw := am (fun W (hW : Below w.heap.size w W) => Kd.C_below HC.out hW)
  clear hx0 hx1 ho0 ho1
  generalize wr.alloc (.cells #[.slice Aj 4 cj, .int .i64 y.f1] 33) = w5 at hbx hB5 HO5 HG5 o0 o1 ⊢
  have b0 : w5.cell? ⟨wr.heap.size, 0, none⟩ = some (.slice Aj 4 cj) := (blk_cell hbx 0).trans rfl
  have b1 : w5.cell? ⟨wr.heap.size, 1, none⟩ = some (.int .i64 y.f1) := (blk_cell hbx 1).trans rfl
  have hgne : wr.heap.size ≠ g := by omega
  generalize wr.heap.size = gx at b0 b1 hbx hgne ⊢
  have hgx : gx ≠ g := hgne
  have hSS := (⟨b0, b1, hB5⟩ : _ ∧ _ ∧ Below w.heap.size w w5)
  have HS5 := am HO5
  have HG := am HG5
  have HO01 := am (And.intro o0 o1)
  have HZ := hB5.size
  have hd1 : ∀ (W : World) (n : Nat) (a : Addr), (W.drewN n).cell? a = W.cell? a := fun _ _ _ => rfl
  have hd3 : ∀ (W : World) (n : Nat) (a : Addr), (W.drewN n).frozen? a = W.frozen? a := fun _ _ _ => rfl
  clear hbx HO5 hB5 HG5 b0 b1 o0 o1
  go_region_held3 (fun W => W.cell? ⟨gx, 0, none⟩ = some (.slice Aj 4 cj) ∧ W.cell? ⟨gx, 1, none⟩ = some (.int .i64 y.f1) ∧ Below w.heap.size w W)
   (first | (with_reducible assumption) | (with_reducible exact keep3w hSS HZ (below_drew (Below.refl _ w5))) | (with_reducible exact keep3w hSS HZ (pw_below_drewN (Below.refl _ w5) _)) | exact keep3w hSS HZ hbb | (with_reducible exact keepSet (by assumption) hgx hgx hgb'))
   (first
    | (go_at_call 34; refine (impl_pagesCopy.calls4 Aj cj y.f0 _ (HCw.out _ (by assumption : _ ∧ _ ∧ Below w.heap.size w _).2.2) H4.out).mono ?_; rintro e w11 ⟨A1, c1, rfl, hR, hb⟩; have hbb := below_then (pw_below_drewN (Below.refl _ w5) _) (Nat.le_refl _) hb; have ho0 := up hbb HO01.out.1; have ho1 := up hbb HO01.out.2; have hfz0 : w11.frozen? ⟨g, j * 2, none⟩ = false := blk_frozen (blk_below HG.out hbb) _; have hfz1 : w11.frozen? ⟨g, j * 2 + 1, none⟩ = false := blk_frozen (blk_below HG.out hbb) _)
    | fail)
  have hst := S_store (N := w5.heap.size) (base := w.heap.size) (Kd.S_old HS5.out hbb) HZ (blk_lt HG.out) (show k30.R 82 w11 w5.heap.size (fun k => w5.heap.size ≤ k) (.slice A1 4 c1) y.f0 from hR) (j : Int) (by omega) (by have := HLT.out; omega) y.f1
  rw [Int.toNat_natCast, show (⟨y.f0, y.f1⟩ : S33) = y from rfl, copy_step HY.out] at hst
  have hbl := (by assumption : _ ∧ _ ∧ Below w.heap.size w ((w11.setCell ⟨g, j * 2, none⟩ (.slice A1 4 c1)).setCell ⟨g, j * 2 + 1, none⟩ (.int .i64 y.f1))).2.2
  clear hSS hd1 hd3 ho0 ho1 hfz0 hfz1 hjl hjq
  go_wp2
  exact ⟨⟨j + 1, by have := HLT.out; omega, by go_num, ⟨hst⟩, ⟨hbl⟩⟩, by have := HLT.out; simp [intOf]; omega⟩
theorem blockOk_eq (b : Int) : impl_blockOk.f b = some (decide (0 ≤ b ∧ b < 4)) := by
 unfold impl_blockOk.f
 by_cases h : b ≥ 0
 rotate_left
 · rw [if_neg h]
   exact congrArg some (decide_eq_false (fun h2 => h h2.1)).symm
 rw [if_pos h]
 exact congrArg some (decide_eq_decide.2 ⟨fun h2 => ⟨h, h2⟩, fun h2 => h2.2⟩)
def pageFW (r0 r1 r2 r3 : Int) (tn : Bool) : S30 := if tn then ⟨2, ⟨0, 0, 0, 0⟩⟩ else ⟨1, ⟨r0, r1, r2, r3⟩⟩
def listFW (l0 : List S33) (b : Int) (n : Int) (p : S30) : List S33 := l0.set b.toNat ⟨(rd_T33 l0 b).f0.set (4 - n).toNat p, (rd_T33 l0 b).f1⟩
def outFW (l0 : List S33) (b : Int) (n : Int) (u : Bool) (p : S30) : List S33 := if n ≠ 0 ∧ u = false then listFW l0 b n p else l0
def okFW (n : Int) (u : Bool) : Bool := decide (n ≠ 0) && !u
theorem outFW_no {l0 : List S33} {b n : Int} {u : Bool} {p : S30} (h : n = 0 ∨ u = true) : outFW l0 b n u p = l0 ∧ okFW n u = false := by
 unfold outFW okFW
 rcases h with rfl | rfl
 · exact ⟨if_neg (fun h => h.1 rfl), rfl⟩
 · exact ⟨if_neg (fun h => Bool.noConfusion h.2), by rw [Bool.not_true, Bool.and_false]⟩
theorem outFW_yes {l0 : List S33} {b n : Int} {p : S30} (h : n ≠ 0) : outFW l0 b n false p = listFW l0 b n p ∧ okFW n false = true := by
 unfold outFW okFW
 exact ⟨if_pos ⟨h, rfl⟩, by rw [decide_eq_true h]; rfl⟩
set_option maxHeartbeats 4000000 in
set_option maxRecDepth 100000 in
theorem impl_FlashWrite.bad (A0 : Option Addr) (c0 : Nat) (l0 : List S33) (b r0 r1 r2 r3 : Int) (tn : Bool) (w : World) (hr0 : Kd.C k33 w A0 l0.length l0) (hc0 : l0.length ≤ c0) (hg : ¬ (flashOkB l0 = true ∧ (0 ≤ b ∧ b < 4) ∧ recOkB r0 r1 r2 r3 = true)) :
 Calls Try.prog 9 #[.slice A0 l0.length c0, .int .i64 b, .agg #[.int .i64 r0, .int .i64 r1, .int .i64 r2, .int .i64 r3], .bool tn] w fun e w' => e = .returned (.tuple #[.slice none 0 0, .bool false]) ∧ Below w.heap.size w w' := by
 have hu := Try.underlying28
 have HC := am (And.intro hr0 hc0)
 clear hr0 hc0
 have hbx := blk_new w (.cells #[.int .i64 r0, .int .i64 r1, .int .i64 r2, .int .i64 r3] 28)
 have hB1 := below_alloc (Below.refl _ w) (.cells #[.int .i64 r0, .int .i64 r1, .int .i64 r2, .int .i64 r3] 28)
 go_enter Try.func9, Try.ntmps9
 go_wp2_with fail
 refine (impl_FlashOk.calls A0 c0 l0 (flashOkB l0) _ (Kd.C_below HC.out.1 hB1) HC.out.2 rfl).mono ?_
 rintro e w2 ⟨rfl, hb⟩
 have hB2 := below_then hB1 hB1.size hb
 have hbx2 := blk_below hbx hb
 clear hB1 hbx hb
 cases hf : flashOkB l0 with
 | false =>
  clear hf hg
  go_wp2
  refine bodyPost_ret (results_tmp2 rfl _ _ _) rfl ?_
  exact ⟨rfl, hB2⟩
 | true =>
  go_wp2_with fail
  refine (impl_blockOk.calls b _ _ (blockOk_eq b)).mono ?_
  rintro e w3 ⟨rfl, hd⟩
  have hB3 := below_then hB2 hB2.size hd.below
  have hbx3 := blk_below hbx2 hd.below
  clear hB2 hbx2 hd
  by_cases hb : 0 ≤ b ∧ b < 4
  rotate_left
  · rw [decide_eq_false hb]
    clear hf hg hb
    go_wp2
    refine bodyPost_ret (results_tmp2 rfl _ _ _) rfl ?_
    exact ⟨rfl, hB3⟩
  rw [decide_eq_true hb]
  have q0 : w3.cell? ⟨w.heap.size, 0, none⟩ = some (.int .i64 r0) := (blk_cell hbx3 0).trans rfl
  have q1 : w3.cell? ⟨w.heap.size, 1, none⟩ = some (.int .i64 r1) := (blk_cell hbx3 1).trans rfl
  have q2 : w3.cell? ⟨w.heap.size, 2, none⟩ = some (.int .i64 r2) := (blk_cell hbx3 2).trans rfl
  have q3 : w3.cell? ⟨w.heap.size, 3, none⟩ = some (.int .i64 r3) := (blk_cell hbx3 3).trans rfl
  have hrec : recOkB r0 r1 r2 r3 = false := by
   cases h : recOkB r0 r1 r2 r3 with
   | false => rfl
   | true => exact absurd ⟨hf, hb, h⟩ hg
  clear hf hg hb
  go_wp2_with fail
  refine (impl_RecOk.calls r0 r1 r2 r3 (recOkB r0 r1 r2 r3) _ rfl).mono ?_
  rintro e w4 ⟨rfl, hb⟩
  rw [hrec]
  have hB4 := below_then hB3 hB3.size hb
  clear hB3 hb hbx3 q0 q1 q2 q3 hrec
  go_wp2
  refine bodyPost_ret (results_tmp2 rfl _ _ _) rfl ?_
  exact ⟨rfl, hB4⟩
theorem S_page {w1 : World} {base g n cap gi ni ci : Nat} {xs : List S33} (HS : Kd.S kb_ 33 w1 base (fun k => base ≤ k) (.slice (some ⟨g, 0, none⟩) n cap) xs) (b : Int) (h0 : 0 ≤ b) (h1 : b < n)
 (hc : w1.cell? ⟨g, b.toNat * 2, none⟩ = some (.slice (some ⟨gi, 0, none⟩) ni ci)) (j : Int) (hj0 : 0 ≤ j) (hj1 : j < ni) (p : S30) :
 Kd.S kb_ 33 (w1.setCells gi (j.toNat * 5) [.int .i64 p.f0, .int .i64 p.f1.f0, .int .i64 p.f1.f1, .int .i64 p.f1.f2, .int .i64 p.f1.f3]) base (fun k => base ≤ k) (.slice (some ⟨g, 0, none⟩) n cap) (xs.set b.toNat ⟨(rd_T33 xs b).f0.set j.toNat p, (rd_T33 xs b).f1⟩) := by
 obtain ⟨oki, c, hcl, hM, hcc, hfr, hoki, hH⟩ := Kd.S_elem HS z33 b h0 h1
 obtain ⟨v0, rfl, hR⟩ := kb__openM hM
 have hc0 := hcc 0 _ rfl
 have esz : (kb_).sz = 2 := rfl
 rw [esz, Nat.add_zero, hc] at hc0
 obtain rfl := Option.some.inj hc0
 obtain ⟨ce, hce, hMe, hcce, hfre⟩ := Kd.R_elem hR z30 j hj0 hj1
 obtain ⟨hR2, hg2⟩ := Kd.R_seg hR j hj0 hj1 (seg := [.int .i64 p.f0, .int .i64 p.f1.f0, .int .i64 p.f1.f1, .int .i64 p.f1.f2, .int .i64 p.f1.f3]) (j := 0) (okp := fun _ => False) hce hcce (show 0 + 5 ≤ 5 from Nat.le_refl 5) (x' := p)
  (by
   rw [List.take_zero, List.nil_append, List.drop_of_length_le (by rw [hce]; exact Nat.le_refl 5), List.append_nil]
   exact k30_mkM _ _ _ p) (fun _ h => h.elim)
 have hgi : oki gi := hR.1 gi rfl
 have hk : Kept w1 (w1.setCells gi (j.toNat * 5) [.int .i64 p.f0, .int .i64 p.f1.f0, .int .i64 p.f1.f1, .int .i64 p.f1.f2, .int .i64 p.f1.f3]) (fun k => k = gi) := Kept.of_grown hg2 (Kept.refl w1 _) (fun k hk => Or.inl (Option.some.inj hk).symm)
 exact Kd.H_back (Kd.H_kept hH hk (fun k _ hn hk2 => hn (by rw [hk2]; exact hgi))) (kb__mkM _ base oki ⟨(rd_T33 xs b).f0.set j.toNat p, (rd_T33 xs b).f1⟩ hR2) (fun k hk => hk)
end Go.Proofs.Ytjfbiobjegnibaa.Rq
