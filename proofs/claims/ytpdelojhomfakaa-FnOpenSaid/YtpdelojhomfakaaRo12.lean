-- printed by wip/pp/pp.py
import Derived.Test.YtpdelojhomfakaaRo0
import Derived.Test.YtpdelojhomfakaaRo11
namespace Go.Proofs.Ytpdelojhomfakaa.Ro
open Go.RowKit Go.Proofs.YtpdelojhomfakaaW.PrintWords Go.Proofs.YtpdelojhomfakaaW.PrintLast Go.Proofs.YtpdelojhomfakaaW.PrintMore
attribute [local go_sem] max2_int min2_int max_two min_two max_three min_three max_four min_four
set_option linter.unusedVariables false
set_option linter.unusedSimpArgs false
mutual
def impl_FindOpen.l0 : Nat → List (S31) → List (S31) → Int → Int → Option (Int × Bool)
 | 0, _, _, _, _ => none
 | k + 1, x0, x13, x14, x15 => if x15 < x14 then (if 0 ≤ x15 then (if x15 < (x13.length : Int) then ((impl_partlyUsed.f k ((rd_T31 x13 x15).f0) ((rd_T31 x13 x15).f1)).bind fun t408 => (if t408 = true then (some (x15, true)) else (impl_FindOpen.l0 k x0 x13 x14 (wrap64 (x15 + 1))))) else (none)) else (none)) else (impl_FindOpen.l1 k x0 0 false x0 (x0.length : Int) 0)
def impl_FindOpen.l1 : Nat → List (S31) → Int → Bool → List (S31) → Int → Int → Option (Int × Bool)
 | 0, _, _, _, _, _, _ => none
 | k + 1, x0, x6, x7, x24, x25, x26 => if x26 < x25 then (if 0 ≤ x26 then (if x26 < (x24.length : Int) then ((impl_freePages.f k ((rd_T31 x24 x26).f0) ((rd_T31 x24 x26).f1)).bind fun t411 => (if t411 = 4 then (if x7 = true then (if 0 ≤ x6 then (if x6 < (x0.length : Int) then (if ((rd_T31 x24 x26).f1) < ((rd_T31 x0 x6).f1) then (impl_FindOpen.l1 k x0 x26 true x24 x25 (wrap64 (x26 + 1))) else (impl_FindOpen.l1 k x0 x6 x7 x24 x25 (wrap64 (x26 + 1)))) else (none)) else (none)) else (impl_FindOpen.l1 k x0 x26 true x24 x25 (wrap64 (x26 + 1)))) else (impl_FindOpen.l1 k x0 x6 x7 x24 x25 (wrap64 (x26 + 1))))) else (none)) else (none)) else (some (x6, x7))
end
def impl_FindOpen.f (k : Nat) (l0 : List (S31)) : Option (Int × Bool) := (impl_FlashOk.f l0).bind fun t405 => (if t405 = true then (impl_FindOpen.l0 k l0 l0 (l0.length : Int) 0) else (some (0, false)))
theorem impl_FindOpen.mono_l : ∀ k, (∀ y0 y1 y2 y3, LeO (impl_FindOpen.l0 k y0 y1 y2 y3) (impl_FindOpen.l0 (k + 1) y0 y1 y2 y3)) ∧ (∀ y0 y1 y2 y3 y4 y5, LeO (impl_FindOpen.l1 k y0 y1 y2 y3 y4 y5) (impl_FindOpen.l1 (k + 1) y0 y1 y2 y3 y4 y5))
 | 0 => ⟨fun _ _ _ _ r h => by simp [impl_FindOpen.l0] at h, fun _ _ _ _ _ _ r h => by simp [impl_FindOpen.l1] at h⟩
 | k + 1 => by
  obtain ⟨ih0, ih1⟩ := impl_FindOpen.mono_l k
  refine ⟨?_, ?_⟩
  · intro y0 y1 y2 y3
    unfold impl_FindOpen.l0
    repeat' first
    | (with_reducible exact ih0 _ _ _ _)
    | (with_reducible exact ih1 _ _ _ _ _ _)
    | (with_reducible exact impl_freePages.mono _ _ _)
    | (with_reducible exact impl_partlyUsed.mono _ _ _)
    | (with_reducible exact LeO.refl _)
    | (with_reducible exact LeO.none _)
    | (with_reducible refine LeO.ite ?_ ?_)
    | (with_reducible refine LeO.bind ?_ (fun _ => ?_))
    | exact ih0 _ _ _ _
    | exact ih1 _ _ _ _ _ _
    | exact impl_freePages.mono _ _ _
    | exact impl_partlyUsed.mono _ _ _
    | exact LeO.none _
    | refine LeO.ite ?_ ?_
    | refine LeO.bind ?_ (fun _ => ?_)
  · intro y0 y1 y2 y3 y4 y5
    unfold impl_FindOpen.l1
    repeat' first
    | (with_reducible exact ih0 _ _ _ _)
    | (with_reducible exact ih1 _ _ _ _ _ _)
    | (with_reducible exact impl_freePages.mono _ _ _)
    | (with_reducible exact impl_partlyUsed.mono _ _ _)
    | (with_reducible exact LeO.refl _)
    | (with_reducible exact LeO.none _)
    | (with_reducible refine LeO.ite ?_ ?_)
    | (with_reducible refine LeO.bind ?_ (fun _ => ?_))
    | exact ih0 _ _ _ _
    | exact ih1 _ _ _ _ _ _
    | exact impl_freePages.mono _ _ _
    | exact impl_partlyUsed.mono _ _ _
    | exact LeO.none _
    | refine LeO.ite ?_ ?_
    | refine LeO.bind ?_ (fun _ => ?_)
theorem impl_FindOpen.mono : ∀ a0 k, LeO (impl_FindOpen.f k a0) (impl_FindOpen.f (k + 1) a0) := by
 intro a0 k
 obtain ⟨ih0, ih1⟩ := impl_FindOpen.mono_l k
 unfold impl_FindOpen.f
 repeat' first
  | (with_reducible exact ih0 _ _ _ _)
  | (with_reducible exact ih1 _ _ _ _ _ _)
  | (with_reducible exact impl_freePages.mono _ _ _)
  | (with_reducible exact impl_partlyUsed.mono _ _ _)
  | (with_reducible exact LeO.refl _)
  | (with_reducible exact LeO.none _)
  | (with_reducible refine LeO.ite ?_ ?_)
  | (with_reducible refine LeO.bind ?_ (fun _ => ?_))
  | exact ih0 _ _ _ _
  | exact ih1 _ _ _ _ _ _
  | exact impl_freePages.mono _ _ _
  | exact impl_partlyUsed.mono _ _ _
  | exact LeO.none _
  | refine LeO.ite ?_ ?_
  | refine LeO.bind ?_ (fun _ => ?_)
def impl_FindOpen.T13 : Bool × List (List Nat × List Nat) := (true, [([], []), ([0], [0]), ([1], [1]), ([2, 1], [2]), ([3], [3]), ([4, 3], [3, 4]), ([5, 3, 3], [3, 5]), ([6], [6]), ([7, 6], [6, 7]), ([6], [6]), ([6], [6]), ([9, 10, 6], [6, 9, 10]), ([11, 6], [6, 11]), ([12, 6], [6, 12]), ([8, 13, 6], [6, 8, 13]), ([6, 14, 3], [3, 6, 14]), ([3, 15], [3, 15])])
def impl_FindOpen.B13 : List Nat := [0, 1, 3, 7, 15, 31, 63, 127, 255, 127, 127, 1663, 3711, 7807, 16383, 32767, 65535]
theorem impl_FindOpen.tab13 : rtab .any (opsOf Try.f6 13) = impl_FindOpen.T13 := by kernel_rfl
theorem impl_FindOpen.bits13 : waitsOk impl_FindOpen.T13.2 impl_FindOpen.B13 = true := by kernel_rfl
set_option maxHeartbeats 8000000 in
set_option maxRecDepth 100000 in
theorem impl_FindOpen.calls (k : Nat) (A0 : Option Addr) (c0 : Nat) (l0 : List (S31)) (r1 : Int) (r2 : Bool) (w : World) (hr0 : Kd.C k31 w A0 l0.length l0) (hc0 : l0.length ≤ c0) (h : impl_FindOpen.f k l0 = some (r1, r2)) :
 Calls Try.prog 6 #[.slice A0 l0.length c0] w fun e w' => e = .returned (.tuple #[.int .i64 r1, .bool r2]) ∧ Below w.heap.size w w' := by
 have hu31 := Try.underlying31
 have HR0 := am hr0
 have HC0 := am hc0
 clear hr0 hc0
 have HB := am (Below.refl w.heap.size w)
 have H : ((impl_FlashOk.f l0).bind fun t405 => (if t405 = true then (impl_FindOpen.l0 k l0 l0 (l0.length : Int) 0) else (some (0, false)))) = some (r1, r2) := h
 clear h
 replace H := Option.bind_eq_some_iff.mp H
 obtain ⟨t405, A20, H⟩ := H
 replace H : (if t405 = true then (impl_FindOpen.l0 k l0 l0 (l0.length : Int) 0) else (some (0, false))) = some (r1, r2) := H
 have A2 := am A20
 clear A20
 by_cases c3 : t405 = true
 rotate_left
 · replace c3 := Bool.eq_false_iff.mpr c3
   subst c3
   have H1 : (some (0, false)) = some (r1, r2) := by rw [if_neg (show ¬ (false = true) by decide)] at H; exact H
   clear H
   have H := H1
   clear H1
   simp only [Option.some.injEq, Prod.mk.injEq] at H
   obtain ⟨rfl, rfl⟩ := H
   go_enter Try.func6, Try.ntmps6
   go_wp2_with (first | (refine gl 11 Try.func12 #[.slice A0 l0.length c0] rfl ?_; (with_reducible refine (impl_FlashOk.calls _ _ l0 false _ ?side1 ?side2 A2.out).mono ?_); (case side1 => repeat (first | exact HR0.out | (with_reducible refine Kd.C_alloc ?_ _) | (with_reducible refine Kd.C_drewN ?_ _) | (with_reducible refine Kd.C_drew ?_))); (case side2 => exact HC0.out); rintro e w45 ⟨rfl, hb⟩; refine ⟨_, rfl, ?_⟩; replace HB := am (below_step (ph HB.out) hb); (try clear hb); (try clear hb2); (try clear hk); (try clear hi)))
   go_ret2
   exact (rq (ph HB.out))
 subst c3
 have H1 : (impl_FindOpen.l0 k l0 l0 (l0.length : Int) 0) = some (r1, r2) := by rw [if_pos rfl] at H; exact H
 clear H
 have H := H1
 clear H1
 have H' := am H
 clear H
 go_enter Try.func6, Try.ntmps6
 go_wp2_with (first | (refine gl 11 Try.func12 #[.slice A0 l0.length c0] rfl ?_; (with_reducible refine (impl_FlashOk.calls _ _ l0 true _ ?side1 ?side2 A2.out).mono ?_); (case side1 => repeat (first | exact HR0.out | (with_reducible refine Kd.C_alloc ?_ _) | (with_reducible refine Kd.C_drewN ?_ _) | (with_reducible refine Kd.C_drew ?_))); (case side2 => exact HC0.out); rintro e w4 ⟨rfl, hb⟩; refine ⟨_, rfl, ?_⟩; replace HB := am (below_step (ph HB.out) hb); (try clear hb); (try clear hb2); (try clear hk); (try clear hi)))
 go_loopg [15] k (fun kq v15 w' => ∃ (x15_1 : Int), v15 = .int .i64 x15_1 ∧ Aside0 (impl_FindOpen.l0 kq l0 l0 (l0.length : Int) x15_1 = some (r1, r2)) ∧ Aside0 (kq ≤ k) ∧ Aside0 (Below w.heap.size w w'))
 case atStart => exact ⟨(0), rf, H', ⟨Nat.le_refl _⟩, ⟨ph HB.out⟩⟩
 case round =>
  clear H'
  obtain ⟨x15_1, rfl, HA, HK1, HB⟩ := hrel
  cases gk with
  | zero => exact absurd HA.out (by simp [impl_FindOpen.l0])
  | succ k1 =>
   have H := HA.out
   clear HA
   simp only [impl_FindOpen.l0] at H
   by_cases c5 : x15_1 < (l0.length : Int)
   · rw [if_pos c5] at H
     have c5b0 := decide_eq_true c5
     clear c5
     by_cases c6 : 0 ≤ x15_1
     rotate_left
     · rw [if_neg c6] at H
       exact absurd H (by simp)
     rw [if_pos c6] at H
     have c6b0 := decide_eq_true c6
     clear c6
     by_cases c7 : x15_1 < (l0.length : Int)
     rotate_left
     · rw [if_neg c7] at H
       exact absurd H (by simp)
     rw [if_pos c7] at H
     have c7b0 := decide_eq_true c7
     clear c7
     replace H := Option.bind_eq_some_iff.mp H
     obtain ⟨t408, A80, H⟩ := H
     replace H : (if t408 = true then (some (x15_1, true)) else (impl_FindOpen.l0 k1 l0 l0 (l0.length : Int) (wrap64 (x15_1 + 1)))) = some (r1, r2) := H
     have A8 := am A80
     clear A80
     by_cases c9 : t408 = true
     · subst c9
       have H1 : (some (x15_1, true)) = some (r1, r2) := by rw [if_pos rfl] at H; exact H
       clear H
       have H := H1
       clear H1
       simp only [Option.some.injEq, Prod.mk.injEq] at H
       obtain ⟨rfl, rfl⟩ := H
       have p406 : 0 ≤ (x15_1 : Int) := ofb
       have q406 : x15_1 < (l0.length : Int) := ofb
       obtain ⟨ad406, A406_0, c406_0, e406, hx406_0, hx406_1, hl406_0, hi406_0⟩ := at_T31 HR0.out x15_1 p406 q406
       cases e406
       replace hx406_0 := up HB.out hx406_0
       replace hx406_1 := up HB.out hx406_1
       have HR406_0 := am hi406_0
       have HC406_0 := am hl406_0
       clear hi406_0 hl406_0
       replace p406 := eq_true p406
       replace q406 := eq_true q406
       go_wp2_with (first | (refine bx 5 #[.slice none 0 0, .int .i64 0] 31 rfl ?_; intro gb407 hg w10 hbox hb; have BK407 := am (hbox); have GW407 := am ((by rw [hg]; exact (below_size (ph HB.out)) : w.heap.size ≤ gb407)); have GE407 := GW407; replace HB := am (below_step (ph HB.out) hb); clear hb hbox hg; obtain ⟨hcz11_0, hcz11_1⟩ := b2 BK407.out; obtain ⟨hfz11_0, hfz11_1⟩ := f2 BK407.out) | (refine gl 21 Try.func13 #[.agg #[.slice A406_0 ((rd_T31 l0 x15_1).f0).length c406_0, .int .i64 ((rd_T31 l0 x15_1).f1)]] rfl ?_; (with_reducible refine (impl_partlyUsed.calls k1 _ _ ((rd_T31 l0 x15_1).f0) ((rd_T31 l0 x15_1).f1) true _ ?side1 ?side2 A8.out).mono ?_); (case side1 => exact Kd.C_below HR406_0.out (bg1 HB.out GE407.out)); (case side2 => exact HC406_0.out); rintro e w12 ⟨rfl, hb⟩; refine ⟨_, rfl, ?_⟩; replace BK407 := am (blk_below (g := gb407) (o := .cells #[.slice A406_0 ((rd_T31 l0 x15_1).f0).length c406_0, .int .i64 ((rd_T31 l0 x15_1).f1)] 31 (0, 0)) (by (with_reducible repeat (first | refine blk_drewN ?_ _ | refine blk_drew ?_ | refine blk_alloc ?_ _)); refine blk_put (cs := #[.slice A406_0 ((rd_T31 l0 x15_1).f0).length c406_0, .int .i64 0]) ?_ 1 _ rfl; (with_reducible repeat (first | refine blk_drewN ?_ _ | refine blk_drew ?_ | refine blk_alloc ?_ _)); refine blk_put (cs := #[.slice none 0 0, .int .i64 0]) ?_ 0 _ rfl; (with_reducible repeat (first | refine blk_drewN ?_ _ | refine blk_drew ?_ | refine blk_alloc ?_ _)); exact BK407.out) hb); replace HB := am (below_step (bg1 HB.out GE407.out) hb); (try clear hb); (try clear hb2); (try clear hk); (try clear hi)))
       go_ret2
       exact (rq (bg1 HB.out GE407.out))
     replace c9 := Bool.eq_false_iff.mpr c9
     subst c9
     have H1 : (impl_FindOpen.l0 k1 l0 l0 (l0.length : Int) (wrap64 (x15_1 + 1))) = some (r1, r2) := by rw [if_neg (show ¬ (false = true) by decide)] at H; exact H
     clear H
     have H := H1
     clear H1
     have H' := am H
     clear H
     have p406 : 0 ≤ (x15_1 : Int) := ofb
     have q406 : x15_1 < (l0.length : Int) := ofb
     obtain ⟨ad406, A406_0, c406_0, e406, hx406_0, hx406_1, hl406_0, hi406_0⟩ := at_T31 HR0.out x15_1 p406 q406
     cases e406
     replace hx406_0 := up HB.out hx406_0
     replace hx406_1 := up HB.out hx406_1
     have HR406_0 := am hi406_0
     have HC406_0 := am hl406_0
     clear hi406_0 hl406_0
     replace p406 := eq_true p406
     replace q406 := eq_true q406
     go_wp2_with (first | (refine bx 5 #[.slice none 0 0, .int .i64 0] 31 rfl ?_; intro gb407 hg w13 hbox hb; have BK407 := am (hbox); have GW407 := am ((by rw [hg]; exact (below_size (ph HB.out)) : w.heap.size ≤ gb407)); have GE407 := GW407; replace HB := am (below_step (ph HB.out) hb); clear hb hbox hg; obtain ⟨hcz14_0, hcz14_1⟩ := b2 BK407.out; obtain ⟨hfz14_0, hfz14_1⟩ := f2 BK407.out) | (refine gl 21 Try.func13 #[.agg #[.slice A406_0 ((rd_T31 l0 x15_1).f0).length c406_0, .int .i64 ((rd_T31 l0 x15_1).f1)]] rfl ?_; (with_reducible refine (impl_partlyUsed.calls k1 _ _ ((rd_T31 l0 x15_1).f0) ((rd_T31 l0 x15_1).f1) false _ ?side1 ?side2 A8.out).mono ?_); (case side1 => exact Kd.C_below HR406_0.out (bg1 HB.out GE407.out)); (case side2 => exact HC406_0.out); rintro e w15 ⟨rfl, hb⟩; refine ⟨_, rfl, ?_⟩; replace BK407 := am (blk_below (g := gb407) (o := .cells #[.slice A406_0 ((rd_T31 l0 x15_1).f0).length c406_0, .int .i64 ((rd_T31 l0 x15_1).f1)] 31 (0, 0)) (by (with_reducible repeat (first | refine blk_drewN ?_ _ | refine blk_drew ?_ | refine blk_alloc ?_ _)); refine blk_put (cs := #[.slice A406_0 ((rd_T31 l0 x15_1).f0).length c406_0, .int .i64 0]) ?_ 1 _ rfl; (with_reducible repeat (first | refine blk_drewN ?_ _ | refine blk_drew ?_ | refine blk_alloc ?_ _)); refine blk_put (cs := #[.slice none 0 0, .int .i64 0]) ?_ 0 _ rfl; (with_reducible repeat (first | refine blk_drewN ?_ _ | refine blk_drew ?_ | refine blk_alloc ?_ _)); exact BK407.out) hb); replace HB := am (below_step (bg1 HB.out GE407.out) hb); (try clear hb); (try clear hb2); (try clear hk); (try clear hi)))
     go_roundg k1
     case measure => have := HK1.out; omega
     case rel => exact ⟨(wrap64 (x15_1 + 1)), rf, H', ⟨by have := HK1.out; omega⟩, ⟨bg1 HB.out GE407.out⟩⟩
   rw [if_neg c5] at H
   have c5b0 := decide_eq_false c5
   clear c5
   have H' := am H
   clear H
   go_wp2
   go_loopg [6, 7, 26] k1 (fun kq v6 v7 v26 w' => ∃ (x6_2 : Int) (x7_2 : Bool) (x26_2 : Int), v6 = .int .i64 x6_2 ∧ v7 = .bool x7_2 ∧ v26 = .int .i64 x26_2 ∧ Aside0 (impl_FindOpen.l1 kq l0 x6_2 x7_2 l0 (l0.length : Int) x26_2 = some (r1, r2)) ∧ Aside0 (kq ≤ k1) ∧ Aside0 (Below w.heap.size w w'))
   case atStart => exact ⟨(0), (false), (0), rf, rf, rf, H', ⟨Nat.le_refl _⟩, ⟨ph HB.out⟩⟩
   case round =>
    clear H'
    obtain ⟨x6_2, x7_2, x26_2, rfl, rfl, rfl, HA, HK2, HB⟩ := hrel
    cases gk with
    | zero => exact absurd HA.out (by simp [impl_FindOpen.l1])
    | succ k2 =>
     have H := HA.out
     clear HA
     simp only [impl_FindOpen.l1] at H
     by_cases c16 : x26_2 < (l0.length : Int)
     rotate_left
     · rw [if_neg c16] at H
       have c16b0 := decide_eq_false c16
       clear c16
       simp only [Option.some.injEq, Prod.mk.injEq] at H
       obtain ⟨rfl, rfl⟩ := H
       go_wp2
       go_ret2
       exact (rq (ph HB.out))
     rw [if_pos c16] at H
     have c16b0 := decide_eq_true c16
     clear c16
     by_cases c17 : 0 ≤ x26_2
     rotate_left
     · rw [if_neg c17] at H
       exact absurd H (by simp)
     rw [if_pos c17] at H
     have c17b0 := decide_eq_true c17
     clear c17
     by_cases c18 : x26_2 < (l0.length : Int)
     rotate_left
     · rw [if_neg c18] at H
       exact absurd H (by simp)
     rw [if_pos c18] at H
     have c18b0 := decide_eq_true c18
     clear c18
     replace H := Option.bind_eq_some_iff.mp H
     obtain ⟨t411, A190, H⟩ := H
     replace H : (if t411 = 4 then (if x7_2 = true then (if 0 ≤ x6_2 then (if x6_2 < (l0.length : Int) then (if ((rd_T31 l0 x26_2).f1) < ((rd_T31 l0 x6_2).f1) then (impl_FindOpen.l1 k2 l0 x26_2 true l0 (l0.length : Int) (wrap64 (x26_2 + 1))) else (impl_FindOpen.l1 k2 l0 x6_2 x7_2 l0 (l0.length : Int) (wrap64 (x26_2 + 1)))) else (none)) else (none)) else (impl_FindOpen.l1 k2 l0 x26_2 true l0 (l0.length : Int) (wrap64 (x26_2 + 1)))) else (impl_FindOpen.l1 k2 l0 x6_2 x7_2 l0 (l0.length : Int) (wrap64 (x26_2 + 1)))) = some (r1, r2) := H
     have A19 := am A190
     clear A190
     by_cases c20 : t411 = 4
     rotate_left
     · rw [if_neg c20] at H
       have c20b0 : (t411 == 4) = false := beq_eq_false_iff_ne.mpr c20
       have c20b1 : (t411 != 4) = true := bne_iff_ne.mpr c20
       have H' := am H
       clear H
       have p409 : 0 ≤ (x26_2 : Int) := ofb
       have q409 : x26_2 < (l0.length : Int) := ofb
       obtain ⟨ad409, A409_0, c409_0, e409, hx409_0, hx409_1, hl409_0, hi409_0⟩ := at_T31 HR0.out x26_2 p409 q409
       cases e409
       replace hx409_0 := up HB.out hx409_0
       replace hx409_1 := up HB.out hx409_1
       have HR409_0 := am hi409_0
       have HC409_0 := am hl409_0
       clear hi409_0 hl409_0
       replace p409 := eq_true p409
       replace q409 := eq_true q409
       try go_wp2_with (first | (refine bx 9 #[.slice none 0 0, .int .i64 0] 31 rfl ?_; intro gb410 hg w40 hbox hb; have BK410 := am (hbox); have GW410 := am ((by rw [hg]; exact (below_size (ph HB.out)) : w.heap.size ≤ gb410)); have GE410 := GW410; replace HB := am (below_step (ph HB.out) hb); clear hb hbox hg; obtain ⟨hcz41_0, hcz41_1⟩ := b2 BK410.out; obtain ⟨hfz41_0, hfz41_1⟩ := f2 BK410.out))
       have n0_ : Aside0 (((w40.setCell ⟨gb410, 0, none⟩ (.slice A409_0 ((rd_T31 l0 x26_2).f0).length c409_0)).setCell ⟨gb410, 1, none⟩ (.int .i64 ((rd_T31 l0 x26_2).f1))).heap[gb410]? = some (.cells #[.slice A409_0 ((rd_T31 l0 x26_2).f0).length c409_0, .int .i64 ((rd_T31 l0 x26_2).f1)] 31 (0, 0))) := ⟨by (with_reducible repeat (first | refine blk_drewN ?_ _ | refine blk_drew ?_ | refine blk_alloc ?_ _)); refine blk_put (cs := #[.slice A409_0 ((rd_T31 l0 x26_2).f0).length c409_0, .int .i64 0]) ?_ 1 _ rfl; (with_reducible repeat (first | refine blk_drewN ?_ _ | refine blk_drew ?_ | refine blk_alloc ?_ _)); refine blk_put (cs := #[.slice none 0 0, .int .i64 0]) ?_ 0 _ rfl; (with_reducible repeat (first | refine blk_drewN ?_ _ | refine blk_drew ?_ | refine blk_alloc ?_ _)); exact BK410.out⟩
       have n1_ : Aside0 (Below w.heap.size w ((w40.setCell ⟨gb410, 0, none⟩ (.slice A409_0 ((rd_T31 l0 x26_2).f0).length c409_0)).setCell ⟨gb410, 1, none⟩ (.int .i64 ((rd_T31 l0 x26_2).f1)))) := ⟨bg1 HB.out GE410.out⟩
       (try clear BK410)
       (try clear HB)
       generalize ((w40.setCell ⟨gb410, 0, none⟩ (.slice A409_0 ((rd_T31 l0 x26_2).f0).length c409_0)).setCell ⟨gb410, 1, none⟩ (.int .i64 ((rd_T31 l0 x26_2).f1))) = w42 at n0_ n1_ ⊢
       have BK410 := n0_
       have HB := n1_
       clear n0_ n1_
       replace BK410 := am (blk_drew BK410.out)
       replace HB := am (below_drew1 HB.out)
       refine start_ (n := 17) (S := fun w' => w'.cell? ⟨gb410, 0, none⟩ = some (.slice A409_0 ((rd_T31 l0 x26_2).f0).length c409_0) ∧ w'.cell? ⟨gb410, 1, none⟩ = some (.int .i64 ((rd_T31 l0 x26_2).f1))) (ds := []) #[false, false, false, false, false, false, false, false, false, false, false, false, false, false, false, false, false] (by kernel_rfl) rfl rfl ⟨(blk_cell BK410.out 0).trans rfl, (blk_cell BK410.out 1).trans rfl⟩ (fun hHeld => ?_); refine with_tabW impl_FindOpen.tab13 impl_FindOpen.bits13 (fun HT_ HW_ => ?_)
       generalize w42.drew = w43 at BK410 HB hHeld ⊢
       refine pm_ 0 31 #[true, false, false, false, false, false, false, false, false, false, false, false, false, false, false, false, false] rfl rfl (take_ofW HT_.out HW_.out (by kernel_rfl)) (fun _ _ _ h => h) hHeld ?_
       refine one_ (i := 1) (N := some 32) #[true, true, false, false, false, false, false, false, false, false, false, false, false, false, false, false, false] rfl rfl (one_of HT_.out (by kernel_rfl)) (by decide) (fun K hK => ?_)
       refine goes_ Try.func14 (by kernel_rfl) rfl #[.agg #[.slice A409_0 ((rd_T31 l0 x26_2).f0).length c409_0, .int .i64 ((rd_T31 l0 x26_2).f1)]] (by rfl) rfl rfl (by (try simp only [List.map_toArray, List.map_cons, List.map_nil]); first | done | rfl | (simp only [List.length_drop, List.length_take]; rfl)) ?_
       with_reducible refine (impl_freePages.calls k2 _ _ ((rd_T31 l0 x26_2).f0) ((rd_T31 l0 x26_2).f1) t411 _ ?side1 ?side2 A19.out).mono ?_
       (case side1 => exact pc (Kd.C_below HR409_0.out HB.out))
       (case side2 => exact HC409_0.out)
       rintro e w44 ⟨rfl, hb⟩
       refine ⟨_, rfl, ?_⟩
       replace BK410 := am (blk_below (pb BK410.out) hb)
       replace HB := am (below_step (bg1 HB.out GE410.out) hb)
       (try clear hb)
       (try clear hb2)
       (try clear hk)
       (try clear hi)
       refine hK.out _ _ ⟨(blk_cell BK410.out 0).trans rfl, (blk_cell BK410.out 1).trans rfl⟩ (fun hHeld => ?_)
       clear hK K
       refine norm_ (a' := ?_) ?_ ?_
       rotate_left
       · show Act.put _ (some 32) _ = _
         simp only [Act.put, List.setIfInBounds_toArray, List.set_cons_zero, List.set_cons_succ, i64_w, i32_w]
         rfl
       refine pj_ 2 33 #[true, true, true, false, false, false, false, false, false, false, false, false, false, false, false, false, false] rfl rfl (any_of HT_.out (by kernel_rfl)) (fun _ _ _ h => h) ?_
       refine pj_ 3 34 #[true, true, true, true, false, false, false, false, false, false, false, false, false, false, false, false, false] rfl rfl (any_of HT_.out (by kernel_rfl)) (fun _ _ _ h => h) ?_
       refine pure_ (i := 4) (N := some 35) (v := undef) (a' := ?_) #[true, true, true, true, true, false, false, false, false, false, false, false, false, false, false, false, false] rfl rfl (any_of HT_.out (by kernel_rfl)) (fun _ _ _ h => h) (Or.inr ⟨by rfl, rfl⟩) ?_ ?_
       rotate_left
       · simp only [Act.put, List.setIfInBounds_toArray, List.set_cons_zero, List.set_cons_succ, i64_w, i32_w]
         rfl
       refine pure_ (i := 5) (N := some 36) (v := undef) (a' := ?_) #[true, true, true, true, true, true, false, false, false, false, false, false, false, false, false, false, false] rfl rfl (any_of HT_.out (by kernel_rfl)) (fun _ _ _ h => h) (Or.inr ⟨by rfl, rfl⟩) ?_ ?_
       rotate_left
       · simp only [Act.put, List.setIfInBounds_toArray, List.set_cons_zero, List.set_cons_succ, i64_w, i32_w]
         rfl
       refine pure_ (i := 6) (N := some 37) (v := undef) (a' := ?_) #[true, true, true, true, true, true, true, false, false, false, false, false, false, false, false, false, false] rfl rfl (any_of HT_.out (by kernel_rfl)) (fun _ _ _ h => h) (Or.inr ⟨by rfl, rfl⟩) ?_ ?_
       rotate_left
       · simp only [Act.put, List.setIfInBounds_toArray, List.set_cons_zero, List.set_cons_succ, i64_w, i32_w]
         rfl
       refine pure_ (i := 7) (N := some 38) (v := undef) (a' := ?_) #[true, true, true, true, true, true, true, true, false, false, false, false, false, false, false, false, false] rfl rfl (any_of HT_.out (by kernel_rfl)) (fun _ _ _ h => h) (Or.inr ⟨by rfl, rfl⟩) ?_ ?_
       rotate_left
       · simp only [Act.put, List.setIfInBounds_toArray, List.set_cons_zero, List.set_cons_succ, i64_w, i32_w]
         rfl
       refine pure_ (i := 8) (N := some 39) (v := undef) (a' := ?_) #[true, true, true, true, true, true, true, true, true, false, false, false, false, false, false, false, false] rfl rfl (any_of HT_.out (by kernel_rfl)) (fun _ _ _ h => h) (Or.inr ⟨by rfl, rfl⟩) ?_ ?_
       rotate_left
       · simp only [Act.put, List.setIfInBounds_toArray, List.set_cons_zero, List.set_cons_succ, i64_w, i32_w]
         rfl
       refine pure_ (i := 9) (N := some 40) (v := undef) (a' := ?_) #[true, true, true, true, true, true, true, true, true, true, false, false, false, false, false, false, false] rfl rfl (any_of HT_.out (by kernel_rfl)) (fun _ _ _ h => h) (Or.inr ⟨by rfl, rfl⟩) ?_ ?_
       rotate_left
       · simp only [Act.put, List.setIfInBounds_toArray, List.set_cons_zero, List.set_cons_succ, i64_w, i32_w]
         rfl
       refine pure_ (i := 10) (N := some 41) (v := undef) (a' := ?_) #[true, true, true, true, true, true, true, true, true, true, true, false, false, false, false, false, false] rfl rfl (any_of HT_.out (by kernel_rfl)) (fun _ _ _ h => h) (Or.inr ⟨by rfl, rfl⟩) ?_ ?_
       rotate_left
       · simp only [Act.put, List.setIfInBounds_toArray, List.set_cons_zero, List.set_cons_succ, i64_w, i32_w]
         rfl
       refine pure_ (i := 11) (N := some 42) (v := undef) (a' := ?_) #[true, true, true, true, true, true, true, true, true, true, true, true, false, false, false, false, false] rfl rfl (any_of HT_.out (by kernel_rfl)) (fun _ _ _ h => h) (Or.inr ⟨by rfl, rfl⟩) ?_ ?_
       rotate_left
       · simp only [Act.put, List.setIfInBounds_toArray, List.set_cons_zero, List.set_cons_succ, i64_w, i32_w]
         rfl
       refine pure_ (i := 12) (N := some 43) (v := undef) (a' := ?_) #[true, true, true, true, true, true, true, true, true, true, true, true, true, false, false, false, false] rfl rfl (any_of HT_.out (by kernel_rfl)) (fun _ _ _ h => h) (Or.inr ⟨by rfl, rfl⟩) ?_ ?_
       rotate_left
       · simp only [Act.put, List.setIfInBounds_toArray, List.set_cons_zero, List.set_cons_succ, i64_w, i32_w]
         rfl
       refine pure_ (i := 13) (N := some 44) (v := undef) (a' := ?_) #[true, true, true, true, true, true, true, true, true, true, true, true, true, true, false, false, false] rfl rfl (any_of HT_.out (by kernel_rfl)) (fun _ _ _ h => h) (Or.inr ⟨by rfl, rfl⟩) ?_ ?_
       rotate_left
       · simp only [Act.put, List.setIfInBounds_toArray, List.set_cons_zero, List.set_cons_succ, i64_w, i32_w]
         rfl
       refine pure_ (i := 14) (N := some 45) (v := undef) (a' := ?_) #[true, true, true, true, true, true, true, true, true, true, true, true, true, true, true, false, false] rfl rfl (any_of HT_.out (by kernel_rfl)) (fun _ _ _ h => h) (Or.inr ⟨by rfl, rfl⟩) ?_ ?_
       rotate_left
       · simp only [Act.put, List.setIfInBounds_toArray, List.set_cons_zero, List.set_cons_succ, i64_w, i32_w]
         rfl
       refine pure_ (i := 15) (N := some 46) (v := undef) (a' := ?_) #[true, true, true, true, true, true, true, true, true, true, true, true, true, true, true, true, false] rfl rfl (any_of HT_.out (by kernel_rfl)) (fun _ _ _ h => h) (Or.inr ⟨by rfl, rfl⟩) ?_ ?_
       rotate_left
       · simp only [Act.put, List.setIfInBounds_toArray, List.set_cons_zero, List.set_cons_succ, i64_w, i32_w]
         rfl
       refine pj_ 16 47 #[true, true, true, true, true, true, true, true, true, true, true, true, true, true, true, true, true] rfl rfl (any_of HT_.out (by kernel_rfl)) (fun _ _ _ h => h) ?_
       refine done_ (done_of HT_.out (by kernel_rfl)) ?_
       try go_wp2
       go_roundg k2
       case measure => have := HK1.out; have := HK2.out; omega
       case rel => exact ⟨(x6_2), (x7_2), (wrap64 (x26_2 + 1)), rf, rf, rf, H', ⟨by have := HK1.out; have := HK2.out; omega⟩, ⟨bg1 HB.out GE410.out⟩⟩
     rw [if_pos c20] at H
     have c20b0 : (t411 == 4) = true := beq_iff_eq.mpr c20
     have c20b1 : (t411 != 4) = false := bne_eq_false_iff_eq.mpr c20
     clear c20
     by_cases c21 : x7_2 = true
     rotate_left
     · replace c21 := Bool.eq_false_iff.mpr c21
       subst c21
       have H1 : (impl_FindOpen.l1 k2 l0 x26_2 true l0 (l0.length : Int) (wrap64 (x26_2 + 1))) = some (r1, r2) := by rw [if_neg (show ¬ (false = true) by decide)] at H; exact H
       clear H
       have H := H1
       clear H1
       have H' := am H
       clear H
       have p409 : 0 ≤ (x26_2 : Int) := ofb
       have q409 : x26_2 < (l0.length : Int) := ofb
       obtain ⟨ad409, A409_0, c409_0, e409, hx409_0, hx409_1, hl409_0, hi409_0⟩ := at_T31 HR0.out x26_2 p409 q409
       cases e409
       replace hx409_0 := up HB.out hx409_0
       replace hx409_1 := up HB.out hx409_1
       have HR409_0 := am hi409_0
       have HC409_0 := am hl409_0
       clear hi409_0 hl409_0
       replace p409 := eq_true p409
       replace q409 := eq_true q409
       try go_wp2_with (first | (refine bx 9 #[.slice none 0 0, .int .i64 0] 31 rfl ?_; intro gb410 hg w35 hbox hb; have BK410 := am (hbox); have GW410 := am ((by rw [hg]; exact (below_size (ph HB.out)) : w.heap.size ≤ gb410)); have GE410 := GW410; replace HB := am (below_step (ph HB.out) hb); clear hb hbox hg; obtain ⟨hcz36_0, hcz36_1⟩ := b2 BK410.out; obtain ⟨hfz36_0, hfz36_1⟩ := f2 BK410.out))
       have n0_ : Aside0 (((w35.setCell ⟨gb410, 0, none⟩ (.slice A409_0 ((rd_T31 l0 x26_2).f0).length c409_0)).setCell ⟨gb410, 1, none⟩ (.int .i64 ((rd_T31 l0 x26_2).f1))).heap[gb410]? = some (.cells #[.slice A409_0 ((rd_T31 l0 x26_2).f0).length c409_0, .int .i64 ((rd_T31 l0 x26_2).f1)] 31 (0, 0))) := ⟨by (with_reducible repeat (first | refine blk_drewN ?_ _ | refine blk_drew ?_ | refine blk_alloc ?_ _)); refine blk_put (cs := #[.slice A409_0 ((rd_T31 l0 x26_2).f0).length c409_0, .int .i64 0]) ?_ 1 _ rfl; (with_reducible repeat (first | refine blk_drewN ?_ _ | refine blk_drew ?_ | refine blk_alloc ?_ _)); refine blk_put (cs := #[.slice none 0 0, .int .i64 0]) ?_ 0 _ rfl; (with_reducible repeat (first | refine blk_drewN ?_ _ | refine blk_drew ?_ | refine blk_alloc ?_ _)); exact BK410.out⟩
       have n1_ : Aside0 (Below w.heap.size w ((w35.setCell ⟨gb410, 0, none⟩ (.slice A409_0 ((rd_T31 l0 x26_2).f0).length c409_0)).setCell ⟨gb410, 1, none⟩ (.int .i64 ((rd_T31 l0 x26_2).f1)))) := ⟨bg1 HB.out GE410.out⟩
       (try clear BK410)
       (try clear HB)
       generalize ((w35.setCell ⟨gb410, 0, none⟩ (.slice A409_0 ((rd_T31 l0 x26_2).f0).length c409_0)).setCell ⟨gb410, 1, none⟩ (.int .i64 ((rd_T31 l0 x26_2).f1))) = w37 at n0_ n1_ ⊢
       have BK410 := n0_
       have HB := n1_
       clear n0_ n1_
       replace BK410 := am (blk_drew BK410.out)
       replace HB := am (below_drew1 HB.out)
       refine start_ (n := 17) (S := fun w' => w'.cell? ⟨gb410, 0, none⟩ = some (.slice A409_0 ((rd_T31 l0 x26_2).f0).length c409_0) ∧ w'.cell? ⟨gb410, 1, none⟩ = some (.int .i64 ((rd_T31 l0 x26_2).f1))) (ds := []) #[false, false, false, false, false, false, false, false, false, false, false, false, false, false, false, false, false] (by kernel_rfl) rfl rfl ⟨(blk_cell BK410.out 0).trans rfl, (blk_cell BK410.out 1).trans rfl⟩ (fun hHeld => ?_); refine with_tabW impl_FindOpen.tab13 impl_FindOpen.bits13 (fun HT_ HW_ => ?_)
       generalize w37.drew = w38 at BK410 HB hHeld ⊢
       refine pm_ 0 31 #[true, false, false, false, false, false, false, false, false, false, false, false, false, false, false, false, false] rfl rfl (take_ofW HT_.out HW_.out (by kernel_rfl)) (fun _ _ _ h => h) hHeld ?_
       refine one_ (i := 1) (N := some 32) #[true, true, false, false, false, false, false, false, false, false, false, false, false, false, false, false, false] rfl rfl (one_of HT_.out (by kernel_rfl)) (by decide) (fun K hK => ?_)
       refine goes_ Try.func14 (by kernel_rfl) rfl #[.agg #[.slice A409_0 ((rd_T31 l0 x26_2).f0).length c409_0, .int .i64 ((rd_T31 l0 x26_2).f1)]] (by rfl) rfl rfl (by (try simp only [List.map_toArray, List.map_cons, List.map_nil]); first | done | rfl | (simp only [List.length_drop, List.length_take]; rfl)) ?_
       with_reducible refine (impl_freePages.calls k2 _ _ ((rd_T31 l0 x26_2).f0) ((rd_T31 l0 x26_2).f1) t411 _ ?side1 ?side2 A19.out).mono ?_
       (case side1 => exact pc (Kd.C_below HR409_0.out HB.out))
       (case side2 => exact HC409_0.out)
       rintro e w39 ⟨rfl, hb⟩
       refine ⟨_, rfl, ?_⟩
       replace BK410 := am (blk_below (pb BK410.out) hb)
       replace HB := am (below_step (bg1 HB.out GE410.out) hb)
       (try clear hb)
       (try clear hb2)
       (try clear hk)
       (try clear hi)
       refine hK.out _ _ ⟨(blk_cell BK410.out 0).trans rfl, (blk_cell BK410.out 1).trans rfl⟩ (fun hHeld => ?_)
       clear hK K
       refine norm_ (a' := ?_) ?_ ?_
       rotate_left
       · show Act.put _ (some 32) _ = _
         simp only [Act.put, List.setIfInBounds_toArray, List.set_cons_zero, List.set_cons_succ, i64_w, i32_w]
         rfl
       refine pj_ 2 33 #[true, true, true, false, false, false, false, false, false, false, false, false, false, false, false, false, false] rfl rfl (any_of HT_.out (by kernel_rfl)) (fun _ _ _ h => h) ?_
       refine pj_ 3 34 #[true, true, true, true, false, false, false, false, false, false, false, false, false, false, false, false, false] rfl rfl (any_of HT_.out (by kernel_rfl)) (fun _ _ _ h => h) ?_
       refine pj_ 4 35 #[true, true, true, true, true, false, false, false, false, false, false, false, false, false, false, false, false] rfl rfl (any_of HT_.out (by kernel_rfl)) (fun _ _ _ h => h) ?_
       refine pj_ 5 36 #[true, true, true, true, true, true, false, false, false, false, false, false, false, false, false, false, false] rfl rfl (any_of HT_.out (by kernel_rfl)) (fun _ _ _ h => h) ?_
       refine pj_ 6 37 #[true, true, true, true, true, true, true, false, false, false, false, false, false, false, false, false, false] rfl rfl (any_of HT_.out (by kernel_rfl)) (fun _ _ _ h => h) ?_
       refine pure_ (i := 7) (N := some 38) (v := undef) (a' := ?_) #[true, true, true, true, true, true, true, true, false, false, false, false, false, false, false, false, false] rfl rfl (any_of HT_.out (by kernel_rfl)) (fun _ _ _ h => h) (Or.inr ⟨by rfl, rfl⟩) ?_ ?_
       rotate_left
       · simp only [Act.put, List.setIfInBounds_toArray, List.set_cons_zero, List.set_cons_succ, i64_w, i32_w]
         rfl
       refine pure_ (i := 8) (N := some 39) (v := undef) (a' := ?_) #[true, true, true, true, true, true, true, true, true, false, false, false, false, false, false, false, false] rfl rfl (any_of HT_.out (by kernel_rfl)) (fun _ _ _ h => h) (Or.inr ⟨by rfl, rfl⟩) ?_ ?_
       rotate_left
       · simp only [Act.put, List.setIfInBounds_toArray, List.set_cons_zero, List.set_cons_succ, i64_w, i32_w]
         rfl
       refine pure_ (i := 9) (N := some 40) (v := undef) (a' := ?_) #[true, true, true, true, true, true, true, true, true, true, false, false, false, false, false, false, false] rfl rfl (any_of HT_.out (by kernel_rfl)) (fun _ _ _ h => h) (Or.inr ⟨by rfl, rfl⟩) ?_ ?_
       rotate_left
       · simp only [Act.put, List.setIfInBounds_toArray, List.set_cons_zero, List.set_cons_succ, i64_w, i32_w]
         rfl
       refine pure_ (i := 10) (N := some 41) (v := undef) (a' := ?_) #[true, true, true, true, true, true, true, true, true, true, true, false, false, false, false, false, false] rfl rfl (any_of HT_.out (by kernel_rfl)) (fun _ _ _ h => h) (Or.inr ⟨by rfl, rfl⟩) ?_ ?_
       rotate_left
       · simp only [Act.put, List.setIfInBounds_toArray, List.set_cons_zero, List.set_cons_succ, i64_w, i32_w]
         rfl
       refine pure_ (i := 11) (N := some 42) (v := undef) (a' := ?_) #[true, true, true, true, true, true, true, true, true, true, true, true, false, false, false, false, false] rfl rfl (any_of HT_.out (by kernel_rfl)) (fun _ _ _ h => h) (Or.inr ⟨by rfl, rfl⟩) ?_ ?_
       rotate_left
       · simp only [Act.put, List.setIfInBounds_toArray, List.set_cons_zero, List.set_cons_succ, i64_w, i32_w]
         rfl
       refine pure_ (i := 12) (N := some 43) (v := undef) (a' := ?_) #[true, true, true, true, true, true, true, true, true, true, true, true, true, false, false, false, false] rfl rfl (any_of HT_.out (by kernel_rfl)) (fun _ _ _ h => h) (Or.inr ⟨by rfl, rfl⟩) ?_ ?_
       rotate_left
       · simp only [Act.put, List.setIfInBounds_toArray, List.set_cons_zero, List.set_cons_succ, i64_w, i32_w]
         rfl
       refine pure_ (i := 13) (N := some 44) (v := undef) (a' := ?_) #[true, true, true, true, true, true, true, true, true, true, true, true, true, true, false, false, false] rfl rfl (any_of HT_.out (by kernel_rfl)) (fun _ _ _ h => h) (Or.inr ⟨by rfl, rfl⟩) ?_ ?_
       rotate_left
       · simp only [Act.put, List.setIfInBounds_toArray, List.set_cons_zero, List.set_cons_succ, i64_w, i32_w]
         rfl
       refine pure_ (i := 14) (N := some 45) (v := undef) (a' := ?_) #[true, true, true, true, true, true, true, true, true, true, true, true, true, true, true, false, false] rfl rfl (any_of HT_.out (by kernel_rfl)) (fun _ _ _ h => h) (Or.inr ⟨by rfl, rfl⟩) ?_ ?_
       rotate_left
       · simp only [Act.put, List.setIfInBounds_toArray, List.set_cons_zero, List.set_cons_succ, i64_w, i32_w]
         rfl
       refine pj_ 15 46 #[true, true, true, true, true, true, true, true, true, true, true, true, true, true, true, true, false] rfl rfl (any_of HT_.out (by kernel_rfl)) (fun _ _ _ h => h) ?_
       refine pj_ 16 47 #[true, true, true, true, true, true, true, true, true, true, true, true, true, true, true, true, true] rfl rfl (any_of HT_.out (by kernel_rfl)) (fun _ _ _ h => h) ?_
       refine done_ (done_of HT_.out (by kernel_rfl)) ?_
       try go_wp2
       go_roundg k2
       case measure => have := HK1.out; have := HK2.out; omega
       case rel => exact ⟨(x26_2), (true), (wrap64 (x26_2 + 1)), rf, rf, rf, H', ⟨by have := HK1.out; have := HK2.out; omega⟩, ⟨bg1 HB.out GE410.out⟩⟩
     subst c21
     have H1 : (if 0 ≤ x6_2 then (if x6_2 < (l0.length : Int) then (if ((rd_T31 l0 x26_2).f1) < ((rd_T31 l0 x6_2).f1) then (impl_FindOpen.l1 k2 l0 x26_2 true l0 (l0.length : Int) (wrap64 (x26_2 + 1))) else (impl_FindOpen.l1 k2 l0 x6_2 true l0 (l0.length : Int) (wrap64 (x26_2 + 1)))) else (none)) else (none)) = some (r1, r2) := by rw [if_pos rfl] at H; exact H
     clear H
     have H := H1
     clear H1
     by_cases c22 : 0 ≤ x6_2
     rotate_left
     · rw [if_neg c22] at H
       exact absurd H (by simp)
     rw [if_pos c22] at H
     have c22b0 := decide_eq_true c22
     clear c22
     by_cases c23 : x6_2 < (l0.length : Int)
     rotate_left
     · rw [if_neg c23] at H
       exact absurd H (by simp)
     rw [if_pos c23] at H
     have c23b0 := decide_eq_true c23
     clear c23
     by_cases c24 : ((rd_T31 l0 x26_2).f1) < ((rd_T31 l0 x6_2).f1)
     rotate_left
     · rw [if_neg c24] at H
       have c24b0 := decide_eq_false c24
       clear c24
       have H' := am H
       clear H
       have p409 : 0 ≤ (x26_2 : Int) := ofb
       have q409 : x26_2 < (l0.length : Int) := ofb
       obtain ⟨ad409, A409_0, c409_0, e409, hx409_0, hx409_1, hl409_0, hi409_0⟩ := at_T31 HR0.out x26_2 p409 q409
       cases e409
       replace hx409_0 := up HB.out hx409_0
       replace hx409_1 := up HB.out hx409_1
       have HR409_0 := am hi409_0
       have HC409_0 := am hl409_0
       clear hi409_0 hl409_0
       replace p409 := eq_true p409
       replace q409 := eq_true q409
       try go_wp2_with (first | (refine bx 9 #[.slice none 0 0, .int .i64 0] 31 rfl ?_; intro gb410 hg w30 hbox hb; have BK410 := am (hbox); have GW410 := am ((by rw [hg]; exact (below_size (ph HB.out)) : w.heap.size ≤ gb410)); have GE410 := GW410; replace HB := am (below_step (ph HB.out) hb); clear hb hbox hg; obtain ⟨hcz31_0, hcz31_1⟩ := b2 BK410.out; obtain ⟨hfz31_0, hfz31_1⟩ := f2 BK410.out))
       have n0_ : Aside0 (((w30.setCell ⟨gb410, 0, none⟩ (.slice A409_0 ((rd_T31 l0 x26_2).f0).length c409_0)).setCell ⟨gb410, 1, none⟩ (.int .i64 ((rd_T31 l0 x26_2).f1))).heap[gb410]? = some (.cells #[.slice A409_0 ((rd_T31 l0 x26_2).f0).length c409_0, .int .i64 ((rd_T31 l0 x26_2).f1)] 31 (0, 0))) := ⟨by (with_reducible repeat (first | refine blk_drewN ?_ _ | refine blk_drew ?_ | refine blk_alloc ?_ _)); refine blk_put (cs := #[.slice A409_0 ((rd_T31 l0 x26_2).f0).length c409_0, .int .i64 0]) ?_ 1 _ rfl; (with_reducible repeat (first | refine blk_drewN ?_ _ | refine blk_drew ?_ | refine blk_alloc ?_ _)); refine blk_put (cs := #[.slice none 0 0, .int .i64 0]) ?_ 0 _ rfl; (with_reducible repeat (first | refine blk_drewN ?_ _ | refine blk_drew ?_ | refine blk_alloc ?_ _)); exact BK410.out⟩
       have n1_ : Aside0 (Below w.heap.size w ((w30.setCell ⟨gb410, 0, none⟩ (.slice A409_0 ((rd_T31 l0 x26_2).f0).length c409_0)).setCell ⟨gb410, 1, none⟩ (.int .i64 ((rd_T31 l0 x26_2).f1)))) := ⟨bg1 HB.out GE410.out⟩
       (try clear BK410)
       (try clear HB)
       generalize ((w30.setCell ⟨gb410, 0, none⟩ (.slice A409_0 ((rd_T31 l0 x26_2).f0).length c409_0)).setCell ⟨gb410, 1, none⟩ (.int .i64 ((rd_T31 l0 x26_2).f1))) = w32 at n0_ n1_ ⊢
       have BK410 := n0_
       have HB := n1_
       clear n0_ n1_
       replace BK410 := am (blk_drew BK410.out)
       replace HB := am (below_drew1 HB.out)
       have p412 : 0 ≤ (x6_2 : Int) := ofb
       have q412 : x6_2 < (l0.length : Int) := ofb
       obtain ⟨ad412, A412_0, c412_0, e412, hx412_0, hx412_1, hl412_0, hi412_0⟩ := at_T31 HR0.out x6_2 p412 q412
       have hw412_1 := hx412_1
       have hw412_0 := hx412_0
       obtain rfl : ad409 = ad412 := (by injection e412)
       replace hx412_0 := up HB.out hx412_0
       replace hx412_1 := up HB.out hx412_1
       have HR412_0 := am hi412_0
       have HC412_0 := am hl412_0
       clear hi412_0 hl412_0
       replace p412 := eq_true p412
       replace q412 := eq_true q412
       refine start_ (n := 17) (S := fun w' => w'.cell? ⟨gb410, 0, none⟩ = some (.slice A409_0 ((rd_T31 l0 x26_2).f0).length c409_0) ∧ w'.cell? ⟨gb410, 1, none⟩ = some (.int .i64 ((rd_T31 l0 x26_2).f1)) ∧ w'.cell? (ad409.add ((x6_2).toNat * 2)) = some (.slice A412_0 ((rd_T31 l0 x6_2).f0).length c412_0) ∧ w'.cell? ⟨(ad409.add ((x6_2).toNat * 2)).block, (ad409.add ((x6_2).toNat * 2)).off + 1, none⟩ = some (.int .i64 ((rd_T31 l0 x6_2).f1))) (ds := []) #[false, false, false, false, false, false, false, false, false, false, false, false, false, false, false, false, false] (by kernel_rfl) rfl rfl ⟨(blk_cell BK410.out 0).trans rfl, (blk_cell BK410.out 1).trans rfl, ((HB.out.cell (World.block_lt_of_cell? w _ hw412_0)).trans hw412_0), ((HB.out.cell (World.block_lt_of_cell? w _ hw412_1)).trans hw412_1)⟩ (fun hHeld => ?_); refine with_tabW impl_FindOpen.tab13 impl_FindOpen.bits13 (fun HT_ HW_ => ?_)
       generalize w32.drew = w33 at BK410 HB HR412_0 hx412_0 hx412_1 hHeld ⊢
       refine pm_ 0 31 #[true, false, false, false, false, false, false, false, false, false, false, false, false, false, false, false, false] rfl rfl (take_ofW HT_.out HW_.out (by kernel_rfl)) (fun _ _ _ h => h) hHeld ?_
       refine one_ (i := 1) (N := some 32) #[true, true, false, false, false, false, false, false, false, false, false, false, false, false, false, false, false] rfl rfl (one_of HT_.out (by kernel_rfl)) (by decide) (fun K hK => ?_)
       refine goes_ Try.func14 (by kernel_rfl) rfl #[.agg #[.slice A409_0 ((rd_T31 l0 x26_2).f0).length c409_0, .int .i64 ((rd_T31 l0 x26_2).f1)]] (by rfl) rfl rfl (by (try simp only [List.map_toArray, List.map_cons, List.map_nil]); first | done | rfl | (simp only [List.length_drop, List.length_take]; rfl)) ?_
       with_reducible refine (impl_freePages.calls k2 _ _ ((rd_T31 l0 x26_2).f0) ((rd_T31 l0 x26_2).f1) t411 _ ?side1 ?side2 A19.out).mono ?_
       (case side1 => exact pc (Kd.C_below HR409_0.out HB.out))
       (case side2 => exact HC409_0.out)
       rintro e w34 ⟨rfl, hb⟩
       refine ⟨_, rfl, ?_⟩
       replace BK410 := am (blk_below (pb BK410.out) hb)
       replace HB := am (below_step (bg1 HB.out GE410.out) hb)
       (try clear hb)
       (try clear hb2)
       (try clear hk)
       (try clear hi)
       refine hK.out _ _ ⟨(blk_cell BK410.out 0).trans rfl, (blk_cell BK410.out 1).trans rfl, ((HB.out.cell (World.block_lt_of_cell? w _ hw412_0)).trans hw412_0), ((HB.out.cell (World.block_lt_of_cell? w _ hw412_1)).trans hw412_1)⟩ (fun hHeld => ?_)
       clear hK K
       refine norm_ (a' := ?_) ?_ ?_
       rotate_left
       · show Act.put _ (some 32) _ = _
         simp only [Act.put, List.setIfInBounds_toArray, List.set_cons_zero, List.set_cons_succ, i64_w, i32_w]
         rfl
       refine pj_ 2 33 #[true, true, true, false, false, false, false, false, false, false, false, false, false, false, false, false, false] rfl rfl (any_of HT_.out (by kernel_rfl)) (fun _ _ _ h => h) ?_
       refine pj_ 3 34 #[true, true, true, true, false, false, false, false, false, false, false, false, false, false, false, false, false] rfl rfl (any_of HT_.out (by kernel_rfl)) (fun _ _ _ h => h) ?_
       refine pj_ 4 35 #[true, true, true, true, true, false, false, false, false, false, false, false, false, false, false, false, false] rfl rfl (any_of HT_.out (by kernel_rfl)) (fun _ _ _ h => h) ?_
       refine pj_ 5 36 #[true, true, true, true, true, true, false, false, false, false, false, false, false, false, false, false, false] rfl rfl (any_of HT_.out (by kernel_rfl)) (fun _ _ _ h => h) ?_
       refine pj_ 6 37 #[true, true, true, true, true, true, true, false, false, false, false, false, false, false, false, false, false] rfl rfl (any_of HT_.out (by kernel_rfl)) (fun _ _ _ h => h) ?_
       refine pj_ 7 38 #[true, true, true, true, true, true, true, true, false, false, false, false, false, false, false, false, false] rfl rfl (any_of HT_.out (by kernel_rfl)) (fun _ _ _ h => h) ?_
       refine pj_ 9 40 #[true, true, true, true, true, true, true, true, false, true, false, false, false, false, false, false, false] rfl rfl (any_of HT_.out (by kernel_rfl)) (fun _ _ _ h => h) ?_
       refine pj_ 10 41 #[true, true, true, true, true, true, true, true, false, true, true, false, false, false, false, false, false] rfl rfl (any_of HT_.out (by kernel_rfl)) (fun _ _ _ h => h) ?_
       refine pj_ 11 42 #[true, true, true, true, true, true, true, true, false, true, true, true, false, false, false, false, false] rfl rfl (any_of HT_.out (by kernel_rfl)) (fun _ _ _ h => h) ?_
       refine pj_ 12 43 #[true, true, true, true, true, true, true, true, false, true, true, true, true, false, false, false, false] rfl rfl (any_of HT_.out (by kernel_rfl)) (fun _ _ _ h => h) ?_
       refine pm_ 8 39 #[true, true, true, true, true, true, true, true, true, true, true, true, true, false, false, false, false] rfl rfl (take_ofW HT_.out HW_.out (by kernel_rfl)) (fun _ _ _ h => h) hHeld ?_
       refine pm_ 13 44 #[true, true, true, true, true, true, true, true, true, true, true, true, true, true, false, false, false] rfl rfl (take_ofW HT_.out HW_.out (by kernel_rfl)) (fun _ _ _ h => h) hHeld ?_
       refine pj_ 14 45 #[true, true, true, true, true, true, true, true, true, true, true, true, true, true, true, false, false] rfl rfl (any_of HT_.out (by kernel_rfl)) (fun _ _ _ h => h) ?_
       refine pj_ 15 46 #[true, true, true, true, true, true, true, true, true, true, true, true, true, true, true, true, false] rfl rfl (any_of HT_.out (by kernel_rfl)) (fun _ _ _ h => h) ?_
       refine pj_ 16 47 #[true, true, true, true, true, true, true, true, true, true, true, true, true, true, true, true, true] rfl rfl (any_of HT_.out (by kernel_rfl)) (fun _ _ _ h => h) ?_
       refine done_ (done_of HT_.out (by kernel_rfl)) ?_
       try go_wp2
       go_roundg k2
       case measure => have := HK1.out; have := HK2.out; omega
       case rel => exact ⟨(x6_2), (true), (wrap64 (x26_2 + 1)), rf, rf, rf, H', ⟨by have := HK1.out; have := HK2.out; omega⟩, ⟨bg1 HB.out GE410.out⟩⟩
     rw [if_pos c24] at H
     have c24b0 := decide_eq_true c24
     clear c24
     have H' := am H
     clear H
     have p409 : 0 ≤ (x26_2 : Int) := ofb
     have q409 : x26_2 < (l0.length : Int) := ofb
     obtain ⟨ad409, A409_0, c409_0, e409, hx409_0, hx409_1, hl409_0, hi409_0⟩ := at_T31 HR0.out x26_2 p409 q409
     cases e409
     replace hx409_0 := up HB.out hx409_0
     replace hx409_1 := up HB.out hx409_1
     have HR409_0 := am hi409_0
     have HC409_0 := am hl409_0
     clear hi409_0 hl409_0
     replace p409 := eq_true p409
     replace q409 := eq_true q409
     try go_wp2_with (first | (refine bx 9 #[.slice none 0 0, .int .i64 0] 31 rfl ?_; intro gb410 hg w25 hbox hb; have BK410 := am (hbox); have GW410 := am ((by rw [hg]; exact (below_size (ph HB.out)) : w.heap.size ≤ gb410)); have GE410 := GW410; replace HB := am (below_step (ph HB.out) hb); clear hb hbox hg; obtain ⟨hcz26_0, hcz26_1⟩ := b2 BK410.out; obtain ⟨hfz26_0, hfz26_1⟩ := f2 BK410.out))
     have n0_ : Aside0 (((w25.setCell ⟨gb410, 0, none⟩ (.slice A409_0 ((rd_T31 l0 x26_2).f0).length c409_0)).setCell ⟨gb410, 1, none⟩ (.int .i64 ((rd_T31 l0 x26_2).f1))).heap[gb410]? = some (.cells #[.slice A409_0 ((rd_T31 l0 x26_2).f0).length c409_0, .int .i64 ((rd_T31 l0 x26_2).f1)] 31 (0, 0))) := ⟨by (with_reducible repeat (first | refine blk_drewN ?_ _ | refine blk_drew ?_ | refine blk_alloc ?_ _)); refine blk_put (cs := #[.slice A409_0 ((rd_T31 l0 x26_2).f0).length c409_0, .int .i64 0]) ?_ 1 _ rfl; (with_reducible repeat (first | refine blk_drewN ?_ _ | refine blk_drew ?_ | refine blk_alloc ?_ _)); refine blk_put (cs := #[.slice none 0 0, .int .i64 0]) ?_ 0 _ rfl; (with_reducible repeat (first | refine blk_drewN ?_ _ | refine blk_drew ?_ | refine blk_alloc ?_ _)); exact BK410.out⟩
     have n1_ : Aside0 (Below w.heap.size w ((w25.setCell ⟨gb410, 0, none⟩ (.slice A409_0 ((rd_T31 l0 x26_2).f0).length c409_0)).setCell ⟨gb410, 1, none⟩ (.int .i64 ((rd_T31 l0 x26_2).f1)))) := ⟨bg1 HB.out GE410.out⟩
     (try clear BK410)
     (try clear HB)
     generalize ((w25.setCell ⟨gb410, 0, none⟩ (.slice A409_0 ((rd_T31 l0 x26_2).f0).length c409_0)).setCell ⟨gb410, 1, none⟩ (.int .i64 ((rd_T31 l0 x26_2).f1))) = w27 at n0_ n1_ ⊢
     have BK410 := n0_
     have HB := n1_
     clear n0_ n1_
     replace BK410 := am (blk_drew BK410.out)
     replace HB := am (below_drew1 HB.out)
     have p412 : 0 ≤ (x6_2 : Int) := ofb
     have q412 : x6_2 < (l0.length : Int) := ofb
     obtain ⟨ad412, A412_0, c412_0, e412, hx412_0, hx412_1, hl412_0, hi412_0⟩ := at_T31 HR0.out x6_2 p412 q412
     have hw412_1 := hx412_1
     have hw412_0 := hx412_0
     obtain rfl : ad409 = ad412 := (by injection e412)
     replace hx412_0 := up HB.out hx412_0
     replace hx412_1 := up HB.out hx412_1
     have HR412_0 := am hi412_0
     have HC412_0 := am hl412_0
     clear hi412_0 hl412_0
     replace p412 := eq_true p412
     replace q412 := eq_true q412
     refine start_ (n := 17) (S := fun w' => w'.cell? ⟨gb410, 0, none⟩ = some (.slice A409_0 ((rd_T31 l0 x26_2).f0).length c409_0) ∧ w'.cell? ⟨gb410, 1, none⟩ = some (.int .i64 ((rd_T31 l0 x26_2).f1)) ∧ w'.cell? (ad409.add ((x6_2).toNat * 2)) = some (.slice A412_0 ((rd_T31 l0 x6_2).f0).length c412_0) ∧ w'.cell? ⟨(ad409.add ((x6_2).toNat * 2)).block, (ad409.add ((x6_2).toNat * 2)).off + 1, none⟩ = some (.int .i64 ((rd_T31 l0 x6_2).f1))) (ds := []) #[false, false, false, false, false, false, false, false, false, false, false, false, false, false, false, false, false] (by kernel_rfl) rfl rfl ⟨(blk_cell BK410.out 0).trans rfl, (blk_cell BK410.out 1).trans rfl, ((HB.out.cell (World.block_lt_of_cell? w _ hw412_0)).trans hw412_0), ((HB.out.cell (World.block_lt_of_cell? w _ hw412_1)).trans hw412_1)⟩ (fun hHeld => ?_); refine with_tabW impl_FindOpen.tab13 impl_FindOpen.bits13 (fun HT_ HW_ => ?_)
     generalize w27.drew = w28 at BK410 HB HR412_0 hx412_0 hx412_1 hHeld ⊢
     refine pm_ 0 31 #[true, false, false, false, false, false, false, false, false, false, false, false, false, false, false, false, false] rfl rfl (take_ofW HT_.out HW_.out (by kernel_rfl)) (fun _ _ _ h => h) hHeld ?_
     refine one_ (i := 1) (N := some 32) #[true, true, false, false, false, false, false, false, false, false, false, false, false, false, false, false, false] rfl rfl (one_of HT_.out (by kernel_rfl)) (by decide) (fun K hK => ?_)
     refine goes_ Try.func14 (by kernel_rfl) rfl #[.agg #[.slice A409_0 ((rd_T31 l0 x26_2).f0).length c409_0, .int .i64 ((rd_T31 l0 x26_2).f1)]] (by rfl) rfl rfl (by (try simp only [List.map_toArray, List.map_cons, List.map_nil]); first | done | rfl | (simp only [List.length_drop, List.length_take]; rfl)) ?_
     with_reducible refine (impl_freePages.calls k2 _ _ ((rd_T31 l0 x26_2).f0) ((rd_T31 l0 x26_2).f1) t411 _ ?side1 ?side2 A19.out).mono ?_
     (case side1 => exact pc (Kd.C_below HR409_0.out HB.out))
     (case side2 => exact HC409_0.out)
     rintro e w29 ⟨rfl, hb⟩
     refine ⟨_, rfl, ?_⟩
     replace BK410 := am (blk_below (pb BK410.out) hb)
     replace HB := am (below_step (bg1 HB.out GE410.out) hb)
     (try clear hb)
     (try clear hb2)
     (try clear hk)
     (try clear hi)
     refine hK.out _ _ ⟨(blk_cell BK410.out 0).trans rfl, (blk_cell BK410.out 1).trans rfl, ((HB.out.cell (World.block_lt_of_cell? w _ hw412_0)).trans hw412_0), ((HB.out.cell (World.block_lt_of_cell? w _ hw412_1)).trans hw412_1)⟩ (fun hHeld => ?_)
     clear hK K
     refine norm_ (a' := ?_) ?_ ?_
     rotate_left
     · show Act.put _ (some 32) _ = _
       simp only [Act.put, List.setIfInBounds_toArray, List.set_cons_zero, List.set_cons_succ, i64_w, i32_w]
       rfl
     refine pj_ 2 33 #[true, true, true, false, false, false, false, false, false, false, false, false, false, false, false, false, false] rfl rfl (any_of HT_.out (by kernel_rfl)) (fun _ _ _ h => h) ?_
     refine pj_ 3 34 #[true, true, true, true, false, false, false, false, false, false, false, false, false, false, false, false, false] rfl rfl (any_of HT_.out (by kernel_rfl)) (fun _ _ _ h => h) ?_
     refine pj_ 4 35 #[true, true, true, true, true, false, false, false, false, false, false, false, false, false, false, false, false] rfl rfl (any_of HT_.out (by kernel_rfl)) (fun _ _ _ h => h) ?_
     refine pj_ 5 36 #[true, true, true, true, true, true, false, false, false, false, false, false, false, false, false, false, false] rfl rfl (any_of HT_.out (by kernel_rfl)) (fun _ _ _ h => h) ?_
     refine pj_ 6 37 #[true, true, true, true, true, true, true, false, false, false, false, false, false, false, false, false, false] rfl rfl (any_of HT_.out (by kernel_rfl)) (fun _ _ _ h => h) ?_
     refine pj_ 7 38 #[true, true, true, true, true, true, true, true, false, false, false, false, false, false, false, false, false] rfl rfl (any_of HT_.out (by kernel_rfl)) (fun _ _ _ h => h) ?_
     refine pj_ 9 40 #[true, true, true, true, true, true, true, true, false, true, false, false, false, false, false, false, false] rfl rfl (any_of HT_.out (by kernel_rfl)) (fun _ _ _ h => h) ?_
     refine pj_ 10 41 #[true, true, true, true, true, true, true, true, false, true, true, false, false, false, false, false, false] rfl rfl (any_of HT_.out (by kernel_rfl)) (fun _ _ _ h => h) ?_
     refine pj_ 11 42 #[true, true, true, true, true, true, true, true, false, true, true, true, false, false, false, false, false] rfl rfl (any_of HT_.out (by kernel_rfl)) (fun _ _ _ h => h) ?_
     refine pj_ 12 43 #[true, true, true, true, true, true, true, true, false, true, true, true, true, false, false, false, false] rfl rfl (any_of HT_.out (by kernel_rfl)) (fun _ _ _ h => h) ?_
     refine pm_ 8 39 #[true, true, true, true, true, true, true, true, true, true, true, true, true, false, false, false, false] rfl rfl (take_ofW HT_.out HW_.out (by kernel_rfl)) (fun _ _ _ h => h) hHeld ?_
     refine pm_ 13 44 #[true, true, true, true, true, true, true, true, true, true, true, true, true, true, false, false, false] rfl rfl (take_ofW HT_.out HW_.out (by kernel_rfl)) (fun _ _ _ h => h) hHeld ?_
     refine pj_ 14 45 #[true, true, true, true, true, true, true, true, true, true, true, true, true, true, true, false, false] rfl rfl (any_of HT_.out (by kernel_rfl)) (fun _ _ _ h => h) ?_
     refine pj_ 15 46 #[true, true, true, true, true, true, true, true, true, true, true, true, true, true, true, true, false] rfl rfl (any_of HT_.out (by kernel_rfl)) (fun _ _ _ h => h) ?_
     refine pj_ 16 47 #[true, true, true, true, true, true, true, true, true, true, true, true, true, true, true, true, true] rfl rfl (any_of HT_.out (by kernel_rfl)) (fun _ _ _ h => h) ?_
     refine done_ (done_of HT_.out (by kernel_rfl)) ?_
     try go_wp2
     go_roundg k2
     case measure => have := HK1.out; have := HK2.out; omega
     case rel => exact ⟨(x26_2), (true), (wrap64 (x26_2 + 1)), rf, rf, rf, H', ⟨by have := HK1.out; have := HK2.out; omega⟩, ⟨bg1 HB.out GE410.out⟩⟩
def impl_blockOk.f (a0 : Int) : Option (Bool) := if a0 ≥ 0 then (some (decide (a0 < 4))) else (some false)
set_option maxHeartbeats 8000000 in
set_option maxRecDepth 100000 in
theorem impl_blockOk.calls (a0 : Int) (r : Bool) (w : World) (h : impl_blockOk.f a0 = some r) :
 Calls Try.prog 17 #[.int .i64 a0] w fun e w' => e = .returned (.bool r) ∧ Drawn0 w w' := by
 have H : (if a0 ≥ 0 then (some (decide (a0 < 4))) else (some false)) = some r := h
 clear h
 by_cases c2 : a0 ≥ 0
 · rw [if_pos c2] at H
   have c2b0 := decide_eq_true c2
   clear c2
   obtain rfl := Option.some.inj H
   go_enter Try.func17, Try.ntmps17
   go_wp2
   go_ret
   exact ⟨by first | rfl | (simp; done) | (simp [*]; done), by repeat (first | exact Drawn0.refl _ | apply Drawn0.step)⟩
 rw [if_neg c2] at H
 have c2b0 := decide_eq_false c2
 clear c2
 obtain rfl := Option.some.inj H
 go_enter Try.func17, Try.ntmps17
 go_wp2
 go_ret
 exact ⟨by first | rfl | (simp; done) | (simp [*]; done), by repeat (first | exact Drawn0.refl _ | apply Drawn0.step)⟩
def impl_FlashClean.f (k : Nat) (l0 : List (S31)) (a1 : Int) : Option (Int) := (impl_FlashOk.f l0).bind fun t413 => (if t413 = true then ((impl_blockOk.f a1).bind fun t414 => (if t414 = true then (if 0 ≤ a1 then (if a1 < (l0.length : Int) then ((impl_freePages.f k ((rd_T31 l0 a1).f0) ((rd_T31 l0 a1).f1)).bind fun t416 => (some t416)) else (none)) else (none)) else (some (-1)))) else (some (-1)))
theorem impl_FlashClean.mono : ∀ a0 a1 k, LeO (impl_FlashClean.f k a0 a1) (impl_FlashClean.f (k + 1) a0 a1) := by
 intro a0 a1 k
 unfold impl_FlashClean.f
 repeat' first
  | (with_reducible exact impl_freePages.mono _ _ _)
  | (with_reducible exact LeO.refl _)
  | (with_reducible exact LeO.none _)
  | (with_reducible refine LeO.ite ?_ ?_)
  | (with_reducible refine LeO.bind ?_ (fun _ => ?_))
  | exact impl_freePages.mono _ _ _
  | exact LeO.none _
  | refine LeO.ite ?_ ?_
  | refine LeO.bind ?_ (fun _ => ?_)
set_option maxHeartbeats 8000000 in
set_option maxRecDepth 100000 in
theorem impl_FlashClean.calls (k : Nat) (A0 : Option Addr) (c0 : Nat) (l0 : List (S31)) (a1 : Int) (r : Int) (w : World) (hr0 : Kd.C k31 w A0 l0.length l0) (hc0 : l0.length ≤ c0) (h : impl_FlashClean.f k l0 a1 = some r) :
 Calls Try.prog 8 #[.slice A0 l0.length c0, .int .i64 a1] w fun e w' => e = .returned (.int .i64 r) ∧ Below w.heap.size w w' := by
 have hu31 := Try.underlying31
 have HR0 := am hr0
 have HC0 := am hc0
 clear hr0 hc0
 have HB := am (Below.refl w.heap.size w)
 have H : ((impl_FlashOk.f l0).bind fun t413 => (if t413 = true then ((impl_blockOk.f a1).bind fun t414 => (if t414 = true then (if 0 ≤ a1 then (if a1 < (l0.length : Int) then ((impl_freePages.f k ((rd_T31 l0 a1).f0) ((rd_T31 l0 a1).f1)).bind fun t416 => (some t416)) else (none)) else (none)) else (some (-1)))) else (some (-1)))) = some r := h
 clear h
 replace H := Option.bind_eq_some_iff.mp H
 obtain ⟨t413, A30, H⟩ := H
 replace H : (if t413 = true then ((impl_blockOk.f a1).bind fun t414 => (if t414 = true then (if 0 ≤ a1 then (if a1 < (l0.length : Int) then ((impl_freePages.f k ((rd_T31 l0 a1).f0) ((rd_T31 l0 a1).f1)).bind fun t416 => (some t416)) else (none)) else (none)) else (some (-1)))) else (some (-1))) = some r := H
 have A3 := am A30
 clear A30
 by_cases c4 : t413 = true
 rotate_left
 · replace c4 := Bool.eq_false_iff.mpr c4
   subst c4
   have H1 : (some (-1)) = some r := by rw [if_neg (show ¬ (false = true) by decide)] at H; exact H
   clear H
   have H := H1
   clear H1
   obtain rfl := Option.some.inj H
   go_enter Try.func8, Try.ntmps8
   go_wp2_with (first | (refine gl 6 Try.func12 #[.slice A0 l0.length c0] rfl ?_; (with_reducible refine (impl_FlashOk.calls _ _ l0 false _ ?side1 ?side2 A3.out).mono ?_); (case side1 => repeat (first | exact HR0.out | (with_reducible refine Kd.C_alloc ?_ _) | (with_reducible refine Kd.C_drewN ?_ _) | (with_reducible refine Kd.C_drew ?_))); (case side2 => exact HC0.out); rintro e w13 ⟨rfl, hb⟩; refine ⟨_, rfl, ?_⟩; replace HB := am (below_step (ph HB.out) hb); (try clear hb); (try clear hb2); (try clear hk); (try clear hi)))
   go_ret
   exact (rq (ph HB.out))
 subst c4
 have H1 : ((impl_blockOk.f a1).bind fun t414 => (if t414 = true then (if 0 ≤ a1 then (if a1 < (l0.length : Int) then ((impl_freePages.f k ((rd_T31 l0 a1).f0) ((rd_T31 l0 a1).f1)).bind fun t416 => (some t416)) else (none)) else (none)) else (some (-1)))) = some r := by rw [if_pos rfl] at H; exact H
 clear H
 have H := H1
 clear H1
 replace H := Option.bind_eq_some_iff.mp H
 obtain ⟨t414, A50, H⟩ := H
 replace H : (if t414 = true then (if 0 ≤ a1 then (if a1 < (l0.length : Int) then ((impl_freePages.f k ((rd_T31 l0 a1).f0) ((rd_T31 l0 a1).f1)).bind fun t416 => (some t416)) else (none)) else (none)) else (some (-1))) = some r := H
 have A5 := am A50
 clear A50
 by_cases c6 : t414 = true
 rotate_left
 · replace c6 := Bool.eq_false_iff.mpr c6
   subst c6
   have H1 : (some (-1)) = some r := by rw [if_neg (show ¬ (false = true) by decide)] at H; exact H
   clear H
   have H := H1
   clear H1
   obtain rfl := Option.some.inj H
   go_enter Try.func8, Try.ntmps8
   go_wp2_with (first | (refine gl 6 Try.func12 #[.slice A0 l0.length c0] rfl ?_; (with_reducible refine (impl_FlashOk.calls _ _ l0 true _ ?side1 ?side2 A3.out).mono ?_); (case side1 => repeat (first | exact HR0.out | (with_reducible refine Kd.C_alloc ?_ _) | (with_reducible refine Kd.C_drewN ?_ _) | (with_reducible refine Kd.C_drew ?_))); (case side2 => exact HC0.out); rintro e w12 ⟨rfl, hb⟩; refine ⟨_, rfl, ?_⟩; replace HB := am (below_step (ph HB.out) hb); (try clear hb); (try clear hb2); (try clear hk); (try clear hi)) | (go_at_call 17; (with_reducible refine (impl_blockOk.calls a1 false _ A5.out).mono ?_); rintro e w' ⟨rfl, ⟨nd, rfl⟩⟩))
   go_ret
   exact (rq (ph HB.out))
 subst c6
 have H1 : (if 0 ≤ a1 then (if a1 < (l0.length : Int) then ((impl_freePages.f k ((rd_T31 l0 a1).f0) ((rd_T31 l0 a1).f1)).bind fun t416 => (some t416)) else (none)) else (none)) = some r := by rw [if_pos rfl] at H; exact H
 clear H
 have H := H1
 clear H1
 by_cases c7 : 0 ≤ a1
 rotate_left
 · rw [if_neg c7] at H
   exact absurd H (by simp)
 rw [if_pos c7] at H
 have c7b0 := decide_eq_true c7
 clear c7
 by_cases c8 : a1 < (l0.length : Int)
 rotate_left
 · rw [if_neg c8] at H
   exact absurd H (by simp)
 rw [if_pos c8] at H
 have c8b0 := decide_eq_true c8
 clear c8
 replace H := Option.bind_eq_some_iff.mp H
 obtain ⟨t416, A90, H⟩ := H
 replace H : (some t416) = some r := H
 have A9 := am A90
 clear A90
 obtain rfl := Option.some.inj H
 go_enter Try.func8, Try.ntmps8
 go_wp2_with (first | (refine gl 6 Try.func12 #[.slice A0 l0.length c0] rfl ?_; (with_reducible refine (impl_FlashOk.calls _ _ l0 true _ ?side1 ?side2 A3.out).mono ?_); (case side1 => repeat (first | exact HR0.out | (with_reducible refine Kd.C_alloc ?_ _) | (with_reducible refine Kd.C_drewN ?_ _) | (with_reducible refine Kd.C_drew ?_))); (case side2 => exact HC0.out); rintro e w10 ⟨rfl, hb⟩; refine ⟨_, rfl, ?_⟩; replace HB := am (below_step (ph HB.out) hb); (try clear hb); (try clear hb2); (try clear hk); (try clear hi)) | (go_at_call 17; (with_reducible refine (impl_blockOk.calls a1 true _ A5.out).mono ?_); rintro e w' ⟨rfl, ⟨nd, rfl⟩⟩; have p415 : 0 ≤ (a1 : Int) := ofb; have q415 : a1 < (l0.length : Int) := ofb; obtain ⟨ad415, A415_0, c415_0, e415, hx415_0, hx415_1, hl415_0, hi415_0⟩ := at_T31 HR0.out a1 p415 q415; cases e415; replace hx415_0 := up HB.out hx415_0; replace hx415_1 := up HB.out hx415_1; have HR415_0 := am hi415_0; have HC415_0 := am hl415_0; clear hi415_0 hl415_0; replace p415 := eq_true p415; replace q415 := eq_true q415) | (refine gl 17 Try.func14 #[.agg #[.slice A415_0 ((rd_T31 l0 a1).f0).length c415_0, .int .i64 ((rd_T31 l0 a1).f1)]] rfl ?_; (with_reducible refine (impl_freePages.calls k _ _ ((rd_T31 l0 a1).f0) ((rd_T31 l0 a1).f1) t416 _ ?side1 ?side2 A9.out).mono ?_); (case side1 => repeat (first | exact (Kd.C_below HR415_0.out (ph HB.out)) | (with_reducible refine Kd.C_alloc ?_ _) | (with_reducible refine Kd.C_drewN ?_ _) | (with_reducible refine Kd.C_drew ?_))); (case side2 => exact HC415_0.out); rintro e w11 ⟨rfl, hb⟩; refine ⟨_, rfl, ?_⟩; replace HB := am (below_step (ph HB.out) hb); (try clear hb); (try clear hb2); (try clear hk); (try clear hi)))
 go_ret
 exact (rq (ph HB.out))
end Go.Proofs.Ytpdelojhomfakaa.Ro
