-- printed by wip/pp/pp.py
import Derived.Test.YtghmnlcmhpdcaaaR50
import Derived.Test.YtghmnlcmhpdcaaaR510
import Derived.RangeFuncNested
import Derived.RangeFuncBound
import Derived.RangeFuncCalls
import Derived.RangeFuncLeaves
import Derived.Shelf.Abstract
import Derived.WalkKit
import Derived.OwnWalkIn
import Derived.TacticsInMore
import Derived.LoopNIn
import Derived.LoopIn
import Derived.IntWalk
import Derived.Laws.CopyRow
import Derived.Deep.WholeRow
import Derived.Deep.RegionHeld3
import Derived.RegionTactic
namespace Go.Proofs.Ytghmnlcmhpdcaaa.R5
open Go.RowKit Go.Proofs.YtghmnlcmhpdcaaaW.PrintWords Go.Proofs.YtghmnlcmhpdcaaaW.PrintLast Go.Proofs.YtghmnlcmhpdcaaaW.PrintMore
attribute [local go_sem] max2_int min2_int max_two min_two max_three min_three max_four min_four
set_option linter.unusedVariables false
set_option linter.unusedSimpArgs false
mutual
def impl_FindOpen.l0 : Nat → List (S54) → List (S54) → Int → Int → Option (Int × Bool)
 | 0, _, _, _, _ => none
 | k + 1, x0, x13, x14, x15 => if x15 < x14 then (if 0 ≤ x15 then (if x15 < (x13.length : Int) then ((impl_partlyUsed.f k ((rd_T54 x13 x15).f0) ((rd_T54 x13 x15).f1)).bind fun t391 => (if t391 = true then (some (x15, true)) else (impl_FindOpen.l0 k x0 x13 x14 (wrap64 (x15 + 1))))) else (none)) else (none)) else (impl_FindOpen.l1 k x0 0 false x0 (x0.length : Int) 0)
def impl_FindOpen.l1 : Nat → List (S54) → Int → Bool → List (S54) → Int → Int → Option (Int × Bool)
 | 0, _, _, _, _, _, _ => none
 | k + 1, x0, x6, x7, x24, x25, x26 => if x26 < x25 then (if 0 ≤ x26 then (if x26 < (x24.length : Int) then ((impl_freePages.f k ((rd_T54 x24 x26).f0) ((rd_T54 x24 x26).f1)).bind fun t394 => (if t394 = 4 then (if x7 = true then (if 0 ≤ x6 then (if x6 < (x0.length : Int) then (if ((rd_T54 x24 x26).f1) < ((rd_T54 x0 x6).f1) then (impl_FindOpen.l1 k x0 x26 true x24 x25 (wrap64 (x26 + 1))) else (impl_FindOpen.l1 k x0 x6 x7 x24 x25 (wrap64 (x26 + 1)))) else (none)) else (none)) else (impl_FindOpen.l1 k x0 x26 true x24 x25 (wrap64 (x26 + 1)))) else (impl_FindOpen.l1 k x0 x6 x7 x24 x25 (wrap64 (x26 + 1))))) else (none)) else (none)) else (some (x6, x7))
end
def impl_FindOpen.f (k : Nat) (l0 : List (S54)) : Option (Int × Bool) := (impl_FlashOk.f l0).bind fun t388 => (if t388 = true then (impl_FindOpen.l0 k l0 l0 (l0.length : Int) 0) else (some (0, false)))
def impl_FindOpen.T13 : Bool × List (List Nat × List Nat) := (true, [([], []), ([0], [0]), ([1], [1]), ([2, 1], [2]), ([3], [3]), ([4, 3], [3, 4]), ([5, 3, 3], [3, 5]), ([6], [6]), ([7, 6], [6, 7]), ([6], [6]), ([6], [6]), ([9, 10, 6], [6, 9, 10]), ([11, 6], [6, 11]), ([12, 6], [6, 12]), ([8, 13, 6], [6, 8, 13]), ([6, 14, 3], [3, 6, 14]), ([3, 15], [3, 15])])
def impl_FindOpen.B13 : List Nat := [0, 1, 3, 7, 15, 31, 63, 127, 255, 127, 127, 1663, 3711, 7807, 16383, 32767, 65535]
theorem impl_FindOpen.tab13 : rtab .any (opsOf Try.f8 13) = impl_FindOpen.T13 := by kernel_rfl
theorem impl_FindOpen.bits13 : waitsOk impl_FindOpen.T13.2 impl_FindOpen.B13 = true := by kernel_rfl
set_option maxHeartbeats 8000000 in
set_option maxRecDepth 100000 in
theorem impl_FindOpen.calls (k : Nat) (A0 : Option Addr) (c0 : Nat) (l0 : List (S54)) (r1 : Int) (r2 : Bool) (w : World) (hr0 : Kd.C k54 w A0 l0.length l0) (hc0 : l0.length ≤ c0) (h : impl_FindOpen.f k l0 = some (r1, r2)) :
 Calls Try.prog 8 #[.slice A0 l0.length c0] w fun e w' => e = .returned (.tuple #[.int .i64 r1, .bool r2]) ∧ Below w.heap.size w w' := by
 have hu54 := Try.underlying54
 have HR0 := am hr0
 have HC0 := am hc0
 clear hr0 hc0
 have HB := am (Below.refl w.heap.size w)
 have H : ((impl_FlashOk.f l0).bind fun t388 => (if t388 = true then (impl_FindOpen.l0 k l0 l0 (l0.length : Int) 0) else (some (0, false)))) = some (r1, r2) := h
 clear h
 replace H := Option.bind_eq_some_iff.mp H
 obtain ⟨t388, A20, H⟩ := H
 have A2 := am A20
 clear A20
 by_cases c3 : t388 = true
 rotate_left
 · replace c3 := Bool.eq_false_iff.mpr c3
   subst c3
   rw [if_neg (show ¬ (false = true) by decide)] at H
   simp only [Option.some.injEq, Prod.mk.injEq] at H
   obtain ⟨rfl, rfl⟩ := H
   go_enter Try.func8, Try.ntmps8
   go_wp2_with (first | (refine gl 11 Try.func23 #[.slice A0 l0.length c0] rfl ?_; (with_reducible refine (impl_FlashOk.calls _ _ l0 false _ ?side1 ?side2 A2.out).mono ?_); (case side1 => exact pc HR0.out); (case side2 => exact HC0.out); rintro e w45 ⟨rfl, hb⟩; refine ⟨_, rfl, ?_⟩; replace HB := am (below_step (ph HB.out) hb); clear hb))
   go_ret2
   exact (rq (ph HB.out))
 subst c3
 rw [if_pos rfl] at H
 have H' := am H
 clear H
 go_enter Try.func8, Try.ntmps8
 go_wp2_with (first | (refine gl 11 Try.func23 #[.slice A0 l0.length c0] rfl ?_; (with_reducible refine (impl_FlashOk.calls _ _ l0 true _ ?side1 ?side2 A2.out).mono ?_); (case side1 => exact pc HR0.out); (case side2 => exact HC0.out); rintro e w4 ⟨rfl, hb⟩; refine ⟨_, rfl, ?_⟩; replace HB := am (below_step (ph HB.out) hb); clear hb))
 go_loopg [15] k (fun kq v15 w' => ∃ (x15_1 : Int), v15 = .int .i64 x15_1 ∧ Aside0 (impl_FindOpen.l0 kq l0 l0 (l0.length : Int) x15_1 = some (r1, r2)) ∧ Aside0 (kq ≤ k) ∧ Aside0 (Below w.heap.size w w'))
 case atStart => exact ⟨(0), rf, H', ⟨Nat.le_refl _⟩, ⟨ph HB.out⟩⟩
 case round =>
  clear H'
  obtain ⟨x15_1, rfl, HA, HK1, HB⟩ := hrel
  cases gk with
  | zero => exact absurd HA.out (by simp [impl_FindOpen.l0])
  | succ k1 =>
   have H := HA.out
   clear HA
   simp only [impl_FindOpen.l0] at H
   by_cases c5 : x15_1 < (l0.length : Int)
   · rw [if_pos c5] at H
     have c5b0 := decide_eq_true c5
     clear c5
     obtain ⟨c6b0, H⟩ := ifd H
     obtain ⟨c7b0, H⟩ := ifd H
     replace H := Option.bind_eq_some_iff.mp H
     obtain ⟨t391, A80, H⟩ := H
     have A8 := am A80
     clear A80
     by_cases c9 : t391 = true
     · subst c9
       rw [if_pos rfl] at H
       simp only [Option.some.injEq, Prod.mk.injEq] at H
       obtain ⟨rfl, rfl⟩ := H
       have p389 : 0 ≤ (x15_1 : Int) := ofb
       have q389 : x15_1 < (l0.length : Int) := ofb
       obtain ⟨ad389, A389_0, c389_0, e389, hx389_0, hx389_1, hl389_0, hi389_0⟩ := at_T54 HR0.out x15_1 p389 q389
       cases e389
       replace hx389_0 := up HB.out hx389_0
       replace hx389_1 := up HB.out hx389_1
       have HR389_0 := am hi389_0
       have HC389_0 := am hl389_0
       clear hi389_0 hl389_0
       replace p389 := eq_true p389
       replace q389 := eq_true q389
       go_wp2_with (first | (refine bx 5 #[.slice none 0 0, .int .i64 0] 54 rfl ?_; intro gb390 hg w10 hbox hb; have BK390 := am (hbox); have GW390 := am (ge hg (ph HB.out)); have GE390 := GW390; replace HB := am (below_step (ph HB.out) hb); clear hb hbox hg; obtain ⟨hcz11_0, hcz11_1⟩ := b2 BK390.out; obtain ⟨hfz11_0, hfz11_1⟩ := f2 BK390.out) | (refine gl 21 Try.func24 #[.agg #[.slice A389_0 ((rd_T54 l0 x15_1).f0).length c389_0, .int .i64 ((rd_T54 l0 x15_1).f1)]] rfl ?_; (with_reducible refine (impl_partlyUsed.calls k1 _ _ ((rd_T54 l0 x15_1).f0) ((rd_T54 l0 x15_1).f1) true _ ?side1 ?side2 A8.out).mono ?_); (case side1 => exact Kd.C_below HR389_0.out (bg1 HB.out GE390.out)); (case side2 => exact HC389_0.out); rintro e w12 ⟨rfl, hb⟩; refine ⟨_, rfl, ?_⟩; replace BK390 := am (blk_below (bp2 (pb BK390.out)) hb); replace HB := am (below_step (bg1 HB.out GE390.out) hb); clear hb))
       go_ret2
       exact (rq (bg1 HB.out GE390.out))
     replace c9 := Bool.eq_false_iff.mpr c9
     subst c9
     rw [if_neg (show ¬ (false = true) by decide)] at H
     have H' := am H
     clear H
     have p389 : 0 ≤ (x15_1 : Int) := ofb
     have q389 : x15_1 < (l0.length : Int) := ofb
     obtain ⟨ad389, A389_0, c389_0, e389, hx389_0, hx389_1, hl389_0, hi389_0⟩ := at_T54 HR0.out x15_1 p389 q389
     cases e389
     replace hx389_0 := up HB.out hx389_0
     replace hx389_1 := up HB.out hx389_1
     have HR389_0 := am hi389_0
     have HC389_0 := am hl389_0
     clear hi389_0 hl389_0
     replace p389 := eq_true p389
     replace q389 := eq_true q389
     go_wp2_with (first | (refine bx 5 #[.slice none 0 0, .int .i64 0] 54 rfl ?_; intro gb390 hg w13 hbox hb; have BK390 := am (hbox); have GW390 := am (ge hg (ph HB.out)); have GE390 := GW390; replace HB := am (below_step (ph HB.out) hb); clear hb hbox hg; obtain ⟨hcz14_0, hcz14_1⟩ := b2 BK390.out; obtain ⟨hfz14_0, hfz14_1⟩ := f2 BK390.out) | (refine gl 21 Try.func24 #[.agg #[.slice A389_0 ((rd_T54 l0 x15_1).f0).length c389_0, .int .i64 ((rd_T54 l0 x15_1).f1)]] rfl ?_; (with_reducible refine (impl_partlyUsed.calls k1 _ _ ((rd_T54 l0 x15_1).f0) ((rd_T54 l0 x15_1).f1) false _ ?side1 ?side2 A8.out).mono ?_); (case side1 => exact Kd.C_below HR389_0.out (bg1 HB.out GE390.out)); (case side2 => exact HC389_0.out); rintro e w15 ⟨rfl, hb⟩; refine ⟨_, rfl, ?_⟩; replace BK390 := am (blk_below (bp2 (pb BK390.out)) hb); replace HB := am (below_step (bg1 HB.out GE390.out) hb); clear hb))
     go_roundg k1
     case measure => have := HK1.out; omega
     case rel => exact ⟨(wrap64 (x15_1 + 1)), rf, H', ⟨by have := HK1.out; omega⟩, ⟨bg1 HB.out GE390.out⟩⟩
   rw [if_neg c5] at H
   have c5b0 := decide_eq_false c5
   clear c5
   have H' := am H
   clear H
   go_wp2
   go_loopg [6, 7, 26] k1 (fun kq v6 v7 v26 w' => ∃ (x6_2 : Int) (x7_2 : Bool) (x26_2 : Int), v6 = .int .i64 x6_2 ∧ v7 = .bool x7_2 ∧ v26 = .int .i64 x26_2 ∧ Aside0 (impl_FindOpen.l1 kq l0 x6_2 x7_2 l0 (l0.length : Int) x26_2 = some (r1, r2)) ∧ Aside0 (kq ≤ k1) ∧ Aside0 (Below w.heap.size w w'))
   case atStart => exact ⟨(0), (false), (0), rf, rf, rf, H', ⟨Nat.le_refl _⟩, ⟨ph HB.out⟩⟩
   case round =>
    clear H'
    obtain ⟨x6_2, x7_2, x26_2, rfl, rfl, rfl, HA, HK2, HB⟩ := hrel
    cases gk with
    | zero => exact absurd HA.out (by simp [impl_FindOpen.l1])
    | succ k2 =>
     have H := HA.out
     clear HA
     simp only [impl_FindOpen.l1] at H
     by_cases c16 : x26_2 < (l0.length : Int)
     rotate_left
     · rw [if_neg c16] at H
       have c16b0 := decide_eq_false c16
       clear c16
       simp only [Option.some.injEq, Prod.mk.injEq] at H
       obtain ⟨rfl, rfl⟩ := H
       go_wp2
       go_ret2
       exact (rq (ph HB.out))
     rw [if_pos c16] at H
     have c16b0 := decide_eq_true c16
     clear c16
     obtain ⟨c17b0, H⟩ := ifd H
     obtain ⟨c18b0, H⟩ := ifd H
     replace H := Option.bind_eq_some_iff.mp H
     obtain ⟨t394, A190, H⟩ := H
     have A19 := am A190
     clear A190
     by_cases c20 : t394 = 4
     rotate_left
     · rw [if_neg c20] at H
       have c20b0 : (t394 == 4) = false := beq_eq_false_iff_ne.mpr c20
       have c20b1 : (t394 != 4) = true := bne_iff_ne.mpr c20
       have H' := am H
       clear H
       have p392 : 0 ≤ (x26_2 : Int) := ofb
       have q392 : x26_2 < (l0.length : Int) := ofb
       obtain ⟨ad392, A392_0, c392_0, e392, hx392_0, hx392_1, hl392_0, hi392_0⟩ := at_T54 HR0.out x26_2 p392 q392
       cases e392
       replace hx392_0 := up HB.out hx392_0
       replace hx392_1 := up HB.out hx392_1
       have HR392_0 := am hi392_0
       have HC392_0 := am hl392_0
       clear hi392_0 hl392_0
       replace p392 := eq_true p392
       replace q392 := eq_true q392
       try go_wp2_with (first | (refine bx 9 #[.slice none 0 0, .int .i64 0] 54 rfl ?_; intro gb393 hg w40 hbox hb; have BK393 := am (hbox); have GW393 := am (ge hg (ph HB.out)); have GE393 := GW393; replace HB := am (below_step (ph HB.out) hb); clear hb hbox hg; obtain ⟨hcz41_0, hcz41_1⟩ := b2 BK393.out; obtain ⟨hfz41_0, hfz41_1⟩ := f2 BK393.out))
       have n0_ : Aside0 (((w40.setCell ⟨gb393, 0, none⟩ (.slice A392_0 ((rd_T54 l0 x26_2).f0).length c392_0)).setCell ⟨gb393, 1, none⟩ (.int .i64 ((rd_T54 l0 x26_2).f1))).heap[gb393]? = some (.cells #[.slice A392_0 ((rd_T54 l0 x26_2).f0).length c392_0, .int .i64 ((rd_T54 l0 x26_2).f1)] 54 (0, 0))) := ⟨bp2 (pb BK393.out)⟩
       have n1_ : Aside0 (Below w.heap.size w ((w40.setCell ⟨gb393, 0, none⟩ (.slice A392_0 ((rd_T54 l0 x26_2).f0).length c392_0)).setCell ⟨gb393, 1, none⟩ (.int .i64 ((rd_T54 l0 x26_2).f1)))) := ⟨bg1 HB.out GE393.out⟩
       (try clear BK393)
       (try clear HB)
       generalize ((w40.setCell ⟨gb393, 0, none⟩ (.slice A392_0 ((rd_T54 l0 x26_2).f0).length c392_0)).setCell ⟨gb393, 1, none⟩ (.int .i64 ((rd_T54 l0 x26_2).f1))) = w42 at n0_ n1_ ⊢
       have BK393 := n0_
       have HB := n1_
       clear n0_ n1_
       replace BK393 := am (blk_drew BK393.out)
       replace HB := am (below_drew1 HB.out)
       refine start_ (n := 17) (S := fun w' => w'.cell? ⟨gb393, 0, none⟩ = some (.slice A392_0 ((rd_T54 l0 x26_2).f0).length c392_0) ∧ w'.cell? ⟨gb393, 1, none⟩ = some (.int .i64 ((rd_T54 l0 x26_2).f1))) (ds := []) (bt 17 0) (by kernel_rfl) rfl rfl ⟨(blk_cell BK393.out 0).trans rfl, (blk_cell BK393.out 1).trans rfl⟩ (fun hHeld => ?_); refine with_tabW impl_FindOpen.tab13 impl_FindOpen.bits13 (fun HT_ HW_ => ?_)
       generalize w42.drew = w43 at BK393 HB hHeld ⊢
       refine qm 0 31 (bt 17 1) rfl rfl HT_.out HW_.out hHeld ?_
       refine qo 1 (some 32) (bt 17 3) rfl rfl HT_.out fun K hK => ?_
       refine qg Try.func25 #[.agg #[.slice A392_0 ((rd_T54 l0 x26_2).f0).length c392_0, .int .i64 ((rd_T54 l0 x26_2).f1)]] rfl rfl ?_
       with_reducible refine (impl_freePages.calls k2 _ _ ((rd_T54 l0 x26_2).f0) ((rd_T54 l0 x26_2).f1) t394 _ ?side1 ?side2 A19.out).mono ?_
       (case side1 => exact pc (Kd.C_below HR392_0.out HB.out))
       (case side2 => exact HC392_0.out)
       rintro e w44 ⟨rfl, hb⟩
       refine ⟨_, rfl, ?_⟩
       replace BK393 := am (blk_below (pb BK393.out) hb)
       replace HB := am (below_step (bg1 HB.out GE393.out) hb)
       clear hb
       refine hK.out _ _ ⟨(blk_cell BK393.out 0).trans rfl, (blk_cell BK393.out 1).trans rfl⟩ (fun hHeld => ?_)
       clear hK K
       refine qn (some 32) ?_
       refine qj 2 33 (bt 17 7) rfl rfl HT_.out ?_
       refine qj 3 34 (bt 17 15) rfl rfl HT_.out ?_
       refine qv 4 35 (bt 17 31) rfl rfl HT_.out ?_
       refine qv 5 36 (bt 17 63) rfl rfl HT_.out ?_
       refine qv 6 37 (bt 17 127) rfl rfl HT_.out ?_
       refine qv 7 38 (bt 17 255) rfl rfl HT_.out ?_
       refine qv 8 39 (bt 17 511) rfl rfl HT_.out ?_
       refine qv 9 40 (bt 17 1023) rfl rfl HT_.out ?_
       refine qv 10 41 (bt 17 2047) rfl rfl HT_.out ?_
       refine qv 11 42 (bt 17 4095) rfl rfl HT_.out ?_
       refine qv 12 43 (bt 17 8191) rfl rfl HT_.out ?_
       refine qv 13 44 (bt 17 16383) rfl rfl HT_.out ?_
       refine qv 14 45 (bt 17 32767) rfl rfl HT_.out ?_
       refine qv 15 46 (bt 17 65535) rfl rfl HT_.out ?_
       refine qj 16 47 (bt 17 131071) rfl rfl HT_.out ?_
       refine done_ (done_of HT_.out (by kernel_rfl)) ?_
       try go_wp2
       go_roundg k2
       case measure => have := HK1.out; have := HK2.out; omega
       case rel => exact ⟨(x6_2), (x7_2), (wrap64 (x26_2 + 1)), rf, rf, rf, H', ⟨by have := HK1.out; have := HK2.out; omega⟩, ⟨bg1 HB.out GE393.out⟩⟩
     rw [if_pos c20] at H
     have c20b0 : (t394 == 4) = true := beq_iff_eq.mpr c20
     have c20b1 : (t394 != 4) = false := bne_eq_false_iff_eq.mpr c20
     clear c20
     by_cases c21 : x7_2 = true
     rotate_left
     · replace c21 := Bool.eq_false_iff.mpr c21
       subst c21
       rw [if_neg (show ¬ (false = true) by decide)] at H
       have H' := am H
       clear H
       have p392 : 0 ≤ (x26_2 : Int) := ofb
       have q392 : x26_2 < (l0.length : Int) := ofb
       obtain ⟨ad392, A392_0, c392_0, e392, hx392_0, hx392_1, hl392_0, hi392_0⟩ := at_T54 HR0.out x26_2 p392 q392
       cases e392
       replace hx392_0 := up HB.out hx392_0
       replace hx392_1 := up HB.out hx392_1
       have HR392_0 := am hi392_0
       have HC392_0 := am hl392_0
       clear hi392_0 hl392_0
       replace p392 := eq_true p392
       replace q392 := eq_true q392
       try go_wp2_with (first | (refine bx 9 #[.slice none 0 0, .int .i64 0] 54 rfl ?_; intro gb393 hg w35 hbox hb; have BK393 := am (hbox); have GW393 := am (ge hg (ph HB.out)); have GE393 := GW393; replace HB := am (below_step (ph HB.out) hb); clear hb hbox hg; obtain ⟨hcz36_0, hcz36_1⟩ := b2 BK393.out; obtain ⟨hfz36_0, hfz36_1⟩ := f2 BK393.out))
       have n0_ : Aside0 (((w35.setCell ⟨gb393, 0, none⟩ (.slice A392_0 ((rd_T54 l0 x26_2).f0).length c392_0)).setCell ⟨gb393, 1, none⟩ (.int .i64 ((rd_T54 l0 x26_2).f1))).heap[gb393]? = some (.cells #[.slice A392_0 ((rd_T54 l0 x26_2).f0).length c392_0, .int .i64 ((rd_T54 l0 x26_2).f1)] 54 (0, 0))) := ⟨bp2 (pb BK393.out)⟩
       have n1_ : Aside0 (Below w.heap.size w ((w35.setCell ⟨gb393, 0, none⟩ (.slice A392_0 ((rd_T54 l0 x26_2).f0).length c392_0)).setCell ⟨gb393, 1, none⟩ (.int .i64 ((rd_T54 l0 x26_2).f1)))) := ⟨bg1 HB.out GE393.out⟩
       (try clear BK393)
       (try clear HB)
       generalize ((w35.setCell ⟨gb393, 0, none⟩ (.slice A392_0 ((rd_T54 l0 x26_2).f0).length c392_0)).setCell ⟨gb393, 1, none⟩ (.int .i64 ((rd_T54 l0 x26_2).f1))) = w37 at n0_ n1_ ⊢
       have BK393 := n0_
       have HB := n1_
       clear n0_ n1_
       replace BK393 := am (blk_drew BK393.out)
       replace HB := am (below_drew1 HB.out)
       refine start_ (n := 17) (S := fun w' => w'.cell? ⟨gb393, 0, none⟩ = some (.slice A392_0 ((rd_T54 l0 x26_2).f0).length c392_0) ∧ w'.cell? ⟨gb393, 1, none⟩ = some (.int .i64 ((rd_T54 l0 x26_2).f1))) (ds := []) (bt 17 0) (by kernel_rfl) rfl rfl ⟨(blk_cell BK393.out 0).trans rfl, (blk_cell BK393.out 1).trans rfl⟩ (fun hHeld => ?_); refine with_tabW impl_FindOpen.tab13 impl_FindOpen.bits13 (fun HT_ HW_ => ?_)
       generalize w37.drew = w38 at BK393 HB hHeld ⊢
       refine qm 0 31 (bt 17 1) rfl rfl HT_.out HW_.out hHeld ?_
       refine qo 1 (some 32) (bt 17 3) rfl rfl HT_.out fun K hK => ?_
       refine qg Try.func25 #[.agg #[.slice A392_0 ((rd_T54 l0 x26_2).f0).length c392_0, .int .i64 ((rd_T54 l0 x26_2).f1)]] rfl rfl ?_
       with_reducible refine (impl_freePages.calls k2 _ _ ((rd_T54 l0 x26_2).f0) ((rd_T54 l0 x26_2).f1) t394 _ ?side1 ?side2 A19.out).mono ?_
       (case side1 => exact pc (Kd.C_below HR392_0.out HB.out))
       (case side2 => exact HC392_0.out)
       rintro e w39 ⟨rfl, hb⟩
       refine ⟨_, rfl, ?_⟩
       replace BK393 := am (blk_below (pb BK393.out) hb)
       replace HB := am (below_step (bg1 HB.out GE393.out) hb)
       clear hb
       refine hK.out _ _ ⟨(blk_cell BK393.out 0).trans rfl, (blk_cell BK393.out 1).trans rfl⟩ (fun hHeld => ?_)
       clear hK K
       refine qn (some 32) ?_
       refine qj 2 33 (bt 17 7) rfl rfl HT_.out ?_
       refine qj 3 34 (bt 17 15) rfl rfl HT_.out ?_
       refine qj 4 35 (bt 17 31) rfl rfl HT_.out ?_
       refine qj 5 36 (bt 17 63) rfl rfl HT_.out ?_
       refine qj 6 37 (bt 17 127) rfl rfl HT_.out ?_
       refine qv 7 38 (bt 17 255) rfl rfl HT_.out ?_
       refine qv 8 39 (bt 17 511) rfl rfl HT_.out ?_
       refine qv 9 40 (bt 17 1023) rfl rfl HT_.out ?_
       refine qv 10 41 (bt 17 2047) rfl rfl HT_.out ?_
       refine qv 11 42 (bt 17 4095) rfl rfl HT_.out ?_
       refine qv 12 43 (bt 17 8191) rfl rfl HT_.out ?_
       refine qv 13 44 (bt 17 16383) rfl rfl HT_.out ?_
       refine qv 14 45 (bt 17 32767) rfl rfl HT_.out ?_
       refine qj 15 46 (bt 17 65535) rfl rfl HT_.out ?_
       refine qj 16 47 (bt 17 131071) rfl rfl HT_.out ?_
       refine done_ (done_of HT_.out (by kernel_rfl)) ?_
       try go_wp2
       go_roundg k2
       case measure => have := HK1.out; have := HK2.out; omega
       case rel => exact ⟨(x26_2), (true), (wrap64 (x26_2 + 1)), rf, rf, rf, H', ⟨by have := HK1.out; have := HK2.out; omega⟩, ⟨bg1 HB.out GE393.out⟩⟩
     subst c21
     rw [if_pos rfl] at H
     obtain ⟨c22b0, H⟩ := ifd H
     obtain ⟨c23b0, H⟩ := ifd H
     by_cases c24 : ((rd_T54 l0 x26_2).f1) < ((rd_T54 l0 x6_2).f1)
     rotate_left
     · rw [if_neg c24] at H
       have c24b0 := decide_eq_false c24
       clear c24
       have H' := am H
       clear H
       have p392 : 0 ≤ (x26_2 : Int) := ofb
       have q392 : x26_2 < (l0.length : Int) := ofb
       obtain ⟨ad392, A392_0, c392_0, e392, hx392_0, hx392_1, hl392_0, hi392_0⟩ := at_T54 HR0.out x26_2 p392 q392
       cases e392
       replace hx392_0 := up HB.out hx392_0
       replace hx392_1 := up HB.out hx392_1
       have HR392_0 := am hi392_0
       have HC392_0 := am hl392_0
       clear hi392_0 hl392_0
       replace p392 := eq_true p392
       replace q392 := eq_true q392
       try go_wp2_with (first | (refine bx 9 #[.slice none 0 0, .int .i64 0] 54 rfl ?_; intro gb393 hg w30 hbox hb; have BK393 := am (hbox); have GW393 := am (ge hg (ph HB.out)); have GE393 := GW393; replace HB := am (below_step (ph HB.out) hb); clear hb hbox hg; obtain ⟨hcz31_0, hcz31_1⟩ := b2 BK393.out; obtain ⟨hfz31_0, hfz31_1⟩ := f2 BK393.out))
       have n0_ : Aside0 (((w30.setCell ⟨gb393, 0, none⟩ (.slice A392_0 ((rd_T54 l0 x26_2).f0).length c392_0)).setCell ⟨gb393, 1, none⟩ (.int .i64 ((rd_T54 l0 x26_2).f1))).heap[gb393]? = some (.cells #[.slice A392_0 ((rd_T54 l0 x26_2).f0).length c392_0, .int .i64 ((rd_T54 l0 x26_2).f1)] 54 (0, 0))) := ⟨bp2 (pb BK393.out)⟩
       have n1_ : Aside0 (Below w.heap.size w ((w30.setCell ⟨gb393, 0, none⟩ (.slice A392_0 ((rd_T54 l0 x26_2).f0).length c392_0)).setCell ⟨gb393, 1, none⟩ (.int .i64 ((rd_T54 l0 x26_2).f1)))) := ⟨bg1 HB.out GE393.out⟩
       (try clear BK393)
       (try clear HB)
       generalize ((w30.setCell ⟨gb393, 0, none⟩ (.slice A392_0 ((rd_T54 l0 x26_2).f0).length c392_0)).setCell ⟨gb393, 1, none⟩ (.int .i64 ((rd_T54 l0 x26_2).f1))) = w32 at n0_ n1_ ⊢
       have BK393 := n0_
       have HB := n1_
       clear n0_ n1_
       replace BK393 := am (blk_drew BK393.out)
       replace HB := am (below_drew1 HB.out)
       have p395 : 0 ≤ (x6_2 : Int) := ofb
       have q395 : x6_2 < (l0.length : Int) := ofb
       obtain ⟨ad395, A395_0, c395_0, e395, hx395_0, hx395_1, hl395_0, hi395_0⟩ := at_T54 HR0.out x6_2 p395 q395
       have hw395_1 := hx395_1
       have hw395_0 := hx395_0
       obtain rfl : ad392 = ad395 := (by injection e395)
       replace hx395_0 := up HB.out hx395_0
       replace hx395_1 := up HB.out hx395_1
       have HR395_0 := am hi395_0
       have HC395_0 := am hl395_0
       clear hi395_0 hl395_0
       replace p395 := eq_true p395
       replace q395 := eq_true q395
       refine start_ (n := 17) (S := fun w' => w'.cell? ⟨gb393, 0, none⟩ = some (.slice A392_0 ((rd_T54 l0 x26_2).f0).length c392_0) ∧ w'.cell? ⟨gb393, 1, none⟩ = some (.int .i64 ((rd_T54 l0 x26_2).f1)) ∧ w'.cell? (ad392.add ((x6_2).toNat * 2)) = some (.slice A395_0 ((rd_T54 l0 x6_2).f0).length c395_0) ∧ w'.cell? ⟨(ad392.add ((x6_2).toNat * 2)).block, (ad392.add ((x6_2).toNat * 2)).off + 1, none⟩ = some (.int .i64 ((rd_T54 l0 x6_2).f1))) (ds := []) (bt 17 0) (by kernel_rfl) rfl rfl ⟨(blk_cell BK393.out 0).trans rfl, (blk_cell BK393.out 1).trans rfl, ((HB.out.cell (World.block_lt_of_cell? w _ hw395_0)).trans hw395_0), ((HB.out.cell (World.block_lt_of_cell? w _ hw395_1)).trans hw395_1)⟩ (fun hHeld => ?_); refine with_tabW impl_FindOpen.tab13 impl_FindOpen.bits13 (fun HT_ HW_ => ?_)
       generalize w32.drew = w33 at BK393 HB HR395_0 hx395_0 hx395_1 hHeld ⊢
       refine qm 0 31 (bt 17 1) rfl rfl HT_.out HW_.out hHeld ?_
       refine qo 1 (some 32) (bt 17 3) rfl rfl HT_.out fun K hK => ?_
       refine qg Try.func25 #[.agg #[.slice A392_0 ((rd_T54 l0 x26_2).f0).length c392_0, .int .i64 ((rd_T54 l0 x26_2).f1)]] rfl rfl ?_
       with_reducible refine (impl_freePages.calls k2 _ _ ((rd_T54 l0 x26_2).f0) ((rd_T54 l0 x26_2).f1) t394 _ ?side1 ?side2 A19.out).mono ?_
       (case side1 => exact pc (Kd.C_below HR392_0.out HB.out))
       (case side2 => exact HC392_0.out)
       rintro e w34 ⟨rfl, hb⟩
       refine ⟨_, rfl, ?_⟩
       replace BK393 := am (blk_below (pb BK393.out) hb)
       replace HB := am (below_step (bg1 HB.out GE393.out) hb)
       clear hb
       refine hK.out _ _ ⟨(blk_cell BK393.out 0).trans rfl, (blk_cell BK393.out 1).trans rfl, ((HB.out.cell (World.block_lt_of_cell? w _ hw395_0)).trans hw395_0), ((HB.out.cell (World.block_lt_of_cell? w _ hw395_1)).trans hw395_1)⟩ (fun hHeld => ?_)
       clear hK K
       refine qn (some 32) ?_
       refine qj 2 33 (bt 17 7) rfl rfl HT_.out ?_
       refine qj 3 34 (bt 17 15) rfl rfl HT_.out ?_
       refine qj 4 35 (bt 17 31) rfl rfl HT_.out ?_
       refine qj 5 36 (bt 17 63) rfl rfl HT_.out ?_
       refine qj 6 37 (bt 17 127) rfl rfl HT_.out ?_
       refine qj 7 38 (bt 17 255) rfl rfl HT_.out ?_
       refine qj 9 40 (bt 17 767) rfl rfl HT_.out ?_
       refine qj 10 41 (bt 17 1791) rfl rfl HT_.out ?_
       refine qj 11 42 (bt 17 3839) rfl rfl HT_.out ?_
       refine qj 12 43 (bt 17 7935) rfl rfl HT_.out ?_
       refine qm 8 39 (bt 17 8191) rfl rfl HT_.out HW_.out hHeld ?_
       refine qm 13 44 (bt 17 16383) rfl rfl HT_.out HW_.out hHeld ?_
       refine qj 14 45 (bt 17 32767) rfl rfl HT_.out ?_
       refine qj 15 46 (bt 17 65535) rfl rfl HT_.out ?_
       refine qj 16 47 (bt 17 131071) rfl rfl HT_.out ?_
       refine done_ (done_of HT_.out (by kernel_rfl)) ?_
       try go_wp2
       go_roundg k2
       case measure => have := HK1.out; have := HK2.out; omega
       case rel => exact ⟨(x6_2), (true), (wrap64 (x26_2 + 1)), rf, rf, rf, H', ⟨by have := HK1.out; have := HK2.out; omega⟩, ⟨bg1 HB.out GE393.out⟩⟩
     rw [if_pos c24] at H
     have c24b0 := decide_eq_true c24
     clear c24
     have H' := am H
     clear H
     have p392 : 0 ≤ (x26_2 : Int) := ofb
     have q392 : x26_2 < (l0.length : Int) := ofb
     obtain ⟨ad392, A392_0, c392_0, e392, hx392_0, hx392_1, hl392_0, hi392_0⟩ := at_T54 HR0.out x26_2 p392 q392
     cases e392
     replace hx392_0 := up HB.out hx392_0
     replace hx392_1 := up HB.out hx392_1
     have HR392_0 := am hi392_0
     have HC392_0 := am hl392_0
     clear hi392_0 hl392_0
     replace p392 := eq_true p392
     replace q392 := eq_true q392
     try go_wp2_with (first | (refine bx 9 #[.slice none 0 0, .int .i64 0] 54 rfl ?_; intro gb393 hg w25 hbox hb; have BK393 := am (hbox); have GW393 := am (ge hg (ph HB.out)); have GE393 := GW393; replace HB := am (below_step (ph HB.out) hb); clear hb hbox hg; obtain ⟨hcz26_0, hcz26_1⟩ := b2 BK393.out; obtain ⟨hfz26_0, hfz26_1⟩ := f2 BK393.out))
     have n0_ : Aside0 (((w25.setCell ⟨gb393, 0, none⟩ (.slice A392_0 ((rd_T54 l0 x26_2).f0).length c392_0)).setCell ⟨gb393, 1, none⟩ (.int .i64 ((rd_T54 l0 x26_2).f1))).heap[gb393]? = some (.cells #[.slice A392_0 ((rd_T54 l0 x26_2).f0).length c392_0, .int .i64 ((rd_T54 l0 x26_2).f1)] 54 (0, 0))) := ⟨bp2 (pb BK393.out)⟩
     have n1_ : Aside0 (Below w.heap.size w ((w25.setCell ⟨gb393, 0, none⟩ (.slice A392_0 ((rd_T54 l0 x26_2).f0).length c392_0)).setCell ⟨gb393, 1, none⟩ (.int .i64 ((rd_T54 l0 x26_2).f1)))) := ⟨bg1 HB.out GE393.out⟩
     (try clear BK393)
     (try clear HB)
     generalize ((w25.setCell ⟨gb393, 0, none⟩ (.slice A392_0 ((rd_T54 l0 x26_2).f0).length c392_0)).setCell ⟨gb393, 1, none⟩ (.int .i64 ((rd_T54 l0 x26_2).f1))) = w27 at n0_ n1_ ⊢
     have BK393 := n0_
     have HB := n1_
     clear n0_ n1_
     replace BK393 := am (blk_drew BK393.out)
     replace HB := am (below_drew1 HB.out)
     have p395 : 0 ≤ (x6_2 : Int) := ofb
     have q395 : x6_2 < (l0.length : Int) := ofb
     obtain ⟨ad395, A395_0, c395_0, e395, hx395_0, hx395_1, hl395_0, hi395_0⟩ := at_T54 HR0.out x6_2 p395 q395
     have hw395_1 := hx395_1
     have hw395_0 := hx395_0
     obtain rfl : ad392 = ad395 := (by injection e395)
     replace hx395_0 := up HB.out hx395_0
     replace hx395_1 := up HB.out hx395_1
     have HR395_0 := am hi395_0
     have HC395_0 := am hl395_0
     clear hi395_0 hl395_0
     replace p395 := eq_true p395
     replace q395 := eq_true q395
     refine start_ (n := 17) (S := fun w' => w'.cell? ⟨gb393, 0, none⟩ = some (.slice A392_0 ((rd_T54 l0 x26_2).f0).length c392_0) ∧ w'.cell? ⟨gb393, 1, none⟩ = some (.int .i64 ((rd_T54 l0 x26_2).f1)) ∧ w'.cell? (ad392.add ((x6_2).toNat * 2)) = some (.slice A395_0 ((rd_T54 l0 x6_2).f0).length c395_0) ∧ w'.cell? ⟨(ad392.add ((x6_2).toNat * 2)).block, (ad392.add ((x6_2).toNat * 2)).off + 1, none⟩ = some (.int .i64 ((rd_T54 l0 x6_2).f1))) (ds := []) (bt 17 0) (by kernel_rfl) rfl rfl ⟨(blk_cell BK393.out 0).trans rfl, (blk_cell BK393.out 1).trans rfl, ((HB.out.cell (World.block_lt_of_cell? w _ hw395_0)).trans hw395_0), ((HB.out.cell (World.block_lt_of_cell? w _ hw395_1)).trans hw395_1)⟩ (fun hHeld => ?_); refine with_tabW impl_FindOpen.tab13 impl_FindOpen.bits13 (fun HT_ HW_ => ?_)
     generalize w27.drew = w28 at BK393 HB HR395_0 hx395_0 hx395_1 hHeld ⊢
     refine qm 0 31 (bt 17 1) rfl rfl HT_.out HW_.out hHeld ?_
     refine qo 1 (some 32) (bt 17 3) rfl rfl HT_.out fun K hK => ?_
     refine qg Try.func25 #[.agg #[.slice A392_0 ((rd_T54 l0 x26_2).f0).length c392_0, .int .i64 ((rd_T54 l0 x26_2).f1)]] rfl rfl ?_
     with_reducible refine (impl_freePages.calls k2 _ _ ((rd_T54 l0 x26_2).f0) ((rd_T54 l0 x26_2).f1) t394 _ ?side1 ?side2 A19.out).mono ?_
     (case side1 => exact pc (Kd.C_below HR392_0.out HB.out))
     (case side2 => exact HC392_0.out)
     rintro e w29 ⟨rfl, hb⟩
     refine ⟨_, rfl, ?_⟩
     replace BK393 := am (blk_below (pb BK393.out) hb)
     replace HB := am (below_step (bg1 HB.out GE393.out) hb)
     clear hb
     refine hK.out _ _ ⟨(blk_cell BK393.out 0).trans rfl, (blk_cell BK393.out 1).trans rfl, ((HB.out.cell (World.block_lt_of_cell? w _ hw395_0)).trans hw395_0), ((HB.out.cell (World.block_lt_of_cell? w _ hw395_1)).trans hw395_1)⟩ (fun hHeld => ?_)
     clear hK K
     refine qn (some 32) ?_
     refine qj 2 33 (bt 17 7) rfl rfl HT_.out ?_
     refine qj 3 34 (bt 17 15) rfl rfl HT_.out ?_
     refine qj 4 35 (bt 17 31) rfl rfl HT_.out ?_
     refine qj 5 36 (bt 17 63) rfl rfl HT_.out ?_
     refine qj 6 37 (bt 17 127) rfl rfl HT_.out ?_
     refine qj 7 38 (bt 17 255) rfl rfl HT_.out ?_
     refine qj 9 40 (bt 17 767) rfl rfl HT_.out ?_
     refine qj 10 41 (bt 17 1791) rfl rfl HT_.out ?_
     refine qj 11 42 (bt 17 3839) rfl rfl HT_.out ?_
     refine qj 12 43 (bt 17 7935) rfl rfl HT_.out ?_
     refine qm 8 39 (bt 17 8191) rfl rfl HT_.out HW_.out hHeld ?_
     refine qm 13 44 (bt 17 16383) rfl rfl HT_.out HW_.out hHeld ?_
     refine qj 14 45 (bt 17 32767) rfl rfl HT_.out ?_
     refine qj 15 46 (bt 17 65535) rfl rfl HT_.out ?_
     refine qj 16 47 (bt 17 131071) rfl rfl HT_.out ?_
     refine done_ (done_of HT_.out (by kernel_rfl)) ?_
     try go_wp2
     go_roundg k2
     case measure => have := HK1.out; have := HK2.out; omega
     case rel => exact ⟨(x26_2), (true), (wrap64 (x26_2 + 1)), rf, rf, rf, H', ⟨by have := HK1.out; have := HK2.out; omega⟩, ⟨bg1 HB.out GE393.out⟩⟩
attribute [local go_sem] Oper.semAt_some
def stepNext (m : Int) (p : S63) : Int := if p.f0 = 1 then mx m p.f1.f1 else m
def impl_FindNext.f (l0 : List (S54)) : Option (Int) := some (if flashOkB l0 = true then wrap64 ((pagesL l0).foldl stepNext 0 + 1) else 0)
def nextOf (pre : List AnyPage) : Int := pre.foldl (fun m x => stepNext m x.1.2.2) 0
theorem nextOf_snoc (pre : List AnyPage) (x : AnyPage) : nextOf (pre ++ [x]) = stepNext (nextOf pre) x.1.2.2 := by simp [nextOf]
theorem nextOf_all {ys : List AnyPage} {l0 : List S54} (h : ys.map (·.1) = spotsF 0 l0) : nextOf ys = (pagesL l0).foldl stepNext 0 := by
 unfold nextOf pagesL
 rw [← h, List.foldl_map, List.foldl_map]
set_option maxRecDepth 100000 in
set_option maxHeartbeats 4000000 in
theorem impl_FindNext.calls (A0 : Option Addr) (c0 : Nat) (l0 : List (S54)) (r : Int) (w : World) (hr0 : Kd.C k54 w A0 l0.length l0) (hc0 : l0.length ≤ c0) (h : impl_FindNext.f l0 = some r) :
 Calls Try.prog 9 #[.slice A0 l0.length c0] w fun e w' => e = .returned (.int .i64 r) ∧ Below w.heap.size w w' := by
 obtain rfl := Option.some.inj h
 clear h
 refine (callsIn_wide (n := 3)).1 ?_
 have hok := callsIn_wide (n := 2).2 (impl_FlashOk.calls A0 c0 l0 _ w hr0 hc0 rfl)
 cases hf : flashOkB l0 with
 | false =>
  refine callsIn_of_wp_marks Try.func9 rfl trivial ?_ rfl
  simp only [Try.ntmps9, List.size_toArray, List.length_cons, List.length_nil, Nat.reduceAdd, Nat.reduceSub, Array.replicate_succ, Array.replicate_zero, List.push_toArray, List.append_toArray, List.nil_append, List.cons_append]
  rw [hf] at hok
  gi_wp2_with (first | (refine ⟨trivial, ?_⟩; gi_at_call 23; refine hok.mono ?_; rintro e w1 ⟨rfl, hb⟩))
  exact ⟨_, results_tmp rfl _ _ _, rfl, hb⟩
 | true =>
  refine callsIn_of_wp_marks Try.func9 rfl trivial ?_ rfl
  simp only [Try.ntmps9, List.size_toArray, List.length_cons, List.length_nil, Nat.reduceAdd, Nat.reduceSub, Array.replicate_succ, Array.replicate_zero, List.push_toArray, List.append_toArray, List.nil_append, List.cons_append]
  rw [hf] at hok
  gi_wp2_with (first | (refine ⟨trivial, ?_⟩; gi_at_call 23; refine hok.mono ?_; rintro e w1 ⟨rfl, hb⟩) | (refine ⟨trivial, ?_⟩; gi_at_call 26; refine (eachPage_in Fence.wide 2 trivial rfl _ _ _ _).mono ?_; rintro e w2 ⟨rfl, rfl⟩))
  have bL := Boxed.new w1 3 (.int .i64 0)
  have bN := Boxed.new (w1.alloc (.cells #[.int .i64 0] 3)) 23 (.slice A0 l0.length c0)
  rw [World.size_alloc] at bN
  have bL2 := bL.alloc (.cells #[.slice A0 l0.length c0] 23)
  have hB0 : Below w.heap.size w ((w1.alloc (.cells #[.int .i64 0] 3)).alloc (.cells #[.slice A0 l0.length c0] 23)) := (hb.alloc hb.size _).alloc (hb.alloc hb.size _).size _
  refine wpIn_rangeFunc_ownH (F := Fence.wide) rfl (by decide) (gf := 42) (lb := #[.pointer (some ⟨w1.heap.size + 1, 0, none⟩)]) rfl trivial (enters_of Try.func42 (by kernel_rfl) rfl)
   (eachPage_stops Fence.wide 2 trivial rfl (by decide) (fun _ => True) (w1.heap.size + 1) A0 c0 l0 w _ hr0 (fun _ _ => trivial) hB0 bN.cell) belowK_t (belowK_b hB0.size) (Below.refl _ _) (fun _ => rfl)
   (fun pre W => Boxed W w1.heap.size 3 (.int .i64 (nextOf pre)) ∧ Below w.heap.size w W) (fun _ _ _ => False)
   (OwnFrom.and (Own.from (boxed_own _ _ _) _) (ownFrom_below (Nat.le_refl _) hB0.size)) (fun _ _ _ _ _ hs _ _ => hs) ⟨bL2, hB0⟩
   (fun x a' W => ∃ Bx, w1.heap.size < Bx ∧ PageBox W Bx x.1.2.2 ∧ a' = { tmps := #[.slice A0 l0.length c0, undef, .int .i64 0, .pointer (some ⟨w1.heap.size, 0, none⟩), undef, .pointer (some ⟨Bx, 0, none⟩), .slice A0 l0.length c0, .bool true, .bool false, .slice A0 l0.length c0, .func (.func 42) #[] #[.pointer (some ⟨w1.heap.size + 1, 0, none⟩)], .agg #[.int .i64 (x.1.1 : Int), .int .i64 (x.1.2.1 : Int)], .agg #[.int .i64 x.1.2.2.f0, .int .i64 x.1.2.2.f1.f0, .int .i64 x.1.2.2.f1.f1, .int .i64 x.1.2.2.f1.f2, .int .i64 x.1.2.2.f1.f3], undef, undef, undef, undef, undef, undef, undef, undef, undef, undef], defers := [] })
   (fun x a' s X Y row hs hg hr => by obtain ⟨Bx, h1, h2, h3⟩ := hs; exact ⟨Bx, h1, PageBox.own Bx _ _ () X Y row h2 hg hr, h3⟩) ?assign ?body ?done ?stop
  case assign =>
   rintro l pre x W K ⟨hbx, hB⟩ hK
   gi_wp2
   exact hK _ _ ((KeepsOthers.alloc _ _).from _) ((Below.refl _ W).alloc hB.size _) ⟨hbx.alloc _, hB.alloc hB.size _⟩ ⟨W.heap.size, hbx.lt, blk_new W _, rfl⟩
  case body =>
   rintro l pre x a' W hl ⟨r, hr⟩ ⟨hbx, hB⟩ ⟨Bx, hBx, bX, rfl⟩ hlt
   obtain ⟨hc0_, hc1_, hc2_, hc3_, hc4_⟩ := bX.cells
   have hcl := hbx.cell
   have hfl := hbx.frozen
   have hsn := nextOf_snoc pre x
   by_cases hs1 : x.1.2.2.f0 = 1
   rotate_left
   · have hs2 : (x.1.2.2.f0 == 1) = false := by simp [hs1]
     rw [stepNext, if_neg hs1] at hsn
     gi_wp2
     exact ⟨KeepsFrom.refl _ _, Below.refl _ _, by rw [hsn]; exact hbx, hB⟩
   have hs2 : (x.1.2.2.f0 == 1) = true := by simp [hs1]
   rw [stepNext, if_pos hs1] at hsn
   gi_wp2
   all_goals
    refine ⟨(KeepsOthers.setCell _ _ _).from _, (Below.refl _ W).setCell (p := ⟨w1.heap.size, 0, none⟩) hb.size _, ?_, hB.setCell (p := ⟨w1.heap.size, 0, none⟩) hb.size _⟩
    rw [hsn]
    unfold mx
    first
     | (rw [if_pos (by omega)]; exact hbx.set _)
     | (rw [if_neg (by omega)]; exact hbx.set _)
  case done =>
   rintro D ys W hD hys ⟨hbx, hB⟩ hK
   have hcl := hbx.cell
   gi_wp2
   refine ⟨by simp, .inl ⟨_, _, rfl, run_takeDeferred hK, ?_⟩⟩
   exact ⟨_, results_tmp rfl _ _ _, by rw [← nextOf_all hys]; rfl, hB.trans (belowK_b (w := w) (Nat.le_refl _) W D _ _ (by have := hB0.size; omega) hK rfl rfl)⟩
  case stop =>
   rintro D c pre W _ _ h _
   exact h.elim
def impl_blockOk.f (a0 : Int) : Option (Bool) := if a0 ≥ 0 then (some (decide (a0 < 4))) else (some false)
set_option maxHeartbeats 8000000 in
set_option maxRecDepth 100000 in
theorem impl_blockOk.calls (a0 : Int) (r : Bool) (w : World) (h : impl_blockOk.f a0 = some r) :
 Calls Try.prog 27 #[.int .i64 a0] w fun e w' => e = .returned (.bool r) ∧ Drawn0 w w' := by
 have H : (if a0 ≥ 0 then (some (decide (a0 < 4))) else (some false)) = some r := h
 clear h
 by_cases c2 : a0 ≥ 0
 · rw [if_pos c2] at H
   have c2b0 := decide_eq_true c2
   clear c2
   obtain rfl := Option.some.inj H
   go_enter Try.func27, Try.ntmps27
   go_wp2
   go_ret
   exact ⟨by first | rfl | (simp; done) | (simp [*]; done), by repeat (first | exact Drawn0.refl _ | apply Drawn0.step)⟩
 rw [if_neg c2] at H
 have c2b0 := decide_eq_false c2
 clear c2
 obtain rfl := Option.some.inj H
 go_enter Try.func27, Try.ntmps27
 go_wp2
 go_ret
 exact ⟨by first | rfl | (simp; done) | (simp [*]; done), by repeat (first | exact Drawn0.refl _ | apply Drawn0.step)⟩
mutual
def impl_seqUsed.l0 : Nat → Int → List (S54) → Int → Int → Option (Bool)
 | 0, _, _, _, _ => none
 | k + 1, x1, x9, x10, x11 => if x11 < x10 then (if 0 ≤ x11 then (if x11 < (x9.length : Int) then (impl_seqUsed.l1 k x1 x9 x10 x11 ((rd_T54 x9 x11).f0) (((rd_T54 x9 x11).f0).length : Int) 0) else (none)) else (none)) else (some false)
def impl_seqUsed.l1 : Nat → Int → List (S54) → Int → Int → List (S63) → Int → Int → Option (Bool)
 | 0, _, _, _, _, _, _, _ => none
 | k + 1, x1, x9, x10, x11, x16, x17, x18 => if x18 < x17 then (if 0 ≤ x18 then (if x18 < (x16.length : Int) then (if ((rd_T63 x16 x18).f0) = 1 then (if ((rd_T63 x16 x18).f1.f1) = x1 then (some true) else (impl_seqUsed.l1 k x1 x9 x10 x11 x16 x17 (wrap64 (x18 + 1)))) else (impl_seqUsed.l1 k x1 x9 x10 x11 x16 x17 (wrap64 (x18 + 1)))) else (none)) else (none)) else (impl_seqUsed.l0 k x1 x9 x10 (wrap64 (x11 + 1)))
end
def impl_seqUsed.f (k : Nat) (l0 : List (S54)) (a1 : Int) : Option (Bool) := impl_seqUsed.l0 k a1 l0 (l0.length : Int) 0
set_option maxHeartbeats 8000000 in
set_option maxRecDepth 100000 in
theorem impl_seqUsed.calls (k : Nat) (A0 : Option Addr) (c0 : Nat) (l0 : List (S54)) (a1 : Int) (r : Bool) (w : World) (hr0 : Kd.C k54 w A0 l0.length l0) (hc0 : l0.length ≤ c0) (h : impl_seqUsed.f k l0 a1 = some r) :
 Calls Try.prog 30 #[.slice A0 l0.length c0, .int .i64 a1] w fun e w' => e = .returned (.bool r) ∧ Below w.heap.size w w' := by
 have hu54 := Try.underlying54
 have hu63 := Try.underlying63
 have HR0 := am hr0
 have HC0 := am hc0
 clear hr0 hc0
 have HB := am (Below.refl w.heap.size w)
 have H : (impl_seqUsed.l0 k a1 l0 (l0.length : Int) 0) = some r := h
 clear h
 have H' := am H
 clear H
 go_enter Try.func30, Try.ntmps30
 go_wp2
 go_loopg [11] k (fun kq v11 w' => ∃ (x11_1 : Int), v11 = .int .i64 x11_1 ∧ Aside0 (impl_seqUsed.l0 kq a1 l0 (l0.length : Int) x11_1 = some r) ∧ Aside0 (kq ≤ k) ∧ Aside0 (Below w.heap.size w w'))
 case atStart => exact ⟨(0), rf, H', ⟨Nat.le_refl _⟩, ⟨ph HB.out⟩⟩
 case round =>
  clear H'
  obtain ⟨x11_1, rfl, HA, HK1, HB⟩ := hrel
  cases gk with
  | zero => exact absurd HA.out (by simp [impl_seqUsed.l0])
  | succ k1 =>
   have H := HA.out
   clear HA
   simp only [impl_seqUsed.l0] at H
   by_cases c3 : x11_1 < (l0.length : Int)
   rotate_left
   · rw [if_neg c3] at H
     have c3b0 := decide_eq_false c3
     clear c3
     obtain rfl := Option.some.inj H
     go_wp2
     go_ret
     exact (rq (ph HB.out))
   rw [if_pos c3] at H
   have c3b0 := decide_eq_true c3
   clear c3
   obtain ⟨c4b0, H⟩ := ifd H
   obtain ⟨c5b0, H⟩ := ifd H
   have H' := am H
   clear H
   have p401 : 0 ≤ (x11_1 : Int) := ofb
   have q401 : x11_1 < (l0.length : Int) := ofb
   obtain ⟨ad401, A401_0, c401_0, e401, hx401_0, hx401_1, hl401_0, hi401_0⟩ := at_T54 HR0.out x11_1 p401 q401
   cases e401
   replace hx401_0 := up HB.out hx401_0
   replace hx401_1 := up HB.out hx401_1
   have HR401_0 := am hi401_0
   have HC401_0 := am hl401_0
   clear hi401_0 hl401_0
   replace p401 := eq_true p401
   replace q401 := eq_true q401
   go_wp2_with (first | (refine bx 6 #[.slice none 0 0, .int .i64 0] 54 rfl ?_; intro gb402 hg w6 hbox hb; have BK402 := am (hbox); have GW402 := am (ge hg (ph HB.out)); have GE402 := GW402; replace HB := am (below_step (ph HB.out) hb); clear hb hbox hg; obtain ⟨hcz7_0, hcz7_1⟩ := b2 BK402.out; obtain ⟨hfz7_0, hfz7_1⟩ := f2 BK402.out))
   go_loopg [18] k1 (fun kq v18 w' => ∃ (x18_2 : Int), v18 = .int .i64 x18_2 ∧ Aside0 (impl_seqUsed.l1 kq a1 l0 (l0.length : Int) x11_1 ((rd_T54 l0 x11_1).f0) (((rd_T54 l0 x11_1).f0).length : Int) x18_2 = some r) ∧ Aside0 (kq ≤ k1) ∧ Aside0 (w'.heap[gb402]? = some (.cells #[(.slice A401_0 ((rd_T54 l0 x11_1).f0).length c401_0), .int .i64 ((rd_T54 l0 x11_1).f1)] 54 (0, 0))) ∧ Aside0 (Below w.heap.size w w'))
   case atStart => exact ⟨(0), rf, H', ⟨Nat.le_refl _⟩, ⟨bp2 (pb BK402.out)⟩, ⟨bg1 HB.out GE402.out⟩⟩
   case round =>
    clear H'
    obtain ⟨x18_2, rfl, HA, HK2, BK402, HB⟩ := hrel
    cases gk with
    | zero => exact absurd HA.out (by simp [impl_seqUsed.l1])
    | succ k2 =>
     have H := HA.out
     clear HA
     simp only [impl_seqUsed.l1] at H
     by_cases c8 : x18_2 < (((rd_T54 l0 x11_1).f0).length : Int)
     rotate_left
     · rw [if_neg c8] at H
       have c8b0 := decide_eq_false c8
       clear c8
       have H' := am H
       clear H
       go_wp2
       go_roundg k2
       case measure => have := HK1.out; have := HK2.out; omega
       case rel => exact ⟨(wrap64 (x11_1 + 1)), rf, H', ⟨by have := HK1.out; have := HK2.out; omega⟩, ⟨bg1 HB.out GE402.out⟩⟩
     rw [if_pos c8] at H
     have c8b0 := decide_eq_true c8
     clear c8
     obtain ⟨c9b0, H⟩ := ifd H
     obtain ⟨c10b0, H⟩ := ifd H
     by_cases c11 : ((rd_T63 ((rd_T54 l0 x11_1).f0) x18_2).f0) = 1
     rotate_left
     · rw [if_neg c11] at H
       have c11b0 : (((rd_T63 ((rd_T54 l0 x11_1).f0) x18_2).f0) == 1) = false := beq_eq_false_iff_ne.mpr c11
       have c11b1 : (((rd_T63 ((rd_T54 l0 x11_1).f0) x18_2).f0) != 1) = true := bne_iff_ne.mpr c11
       have H' := am H
       clear H
       have p403 : 0 ≤ (x18_2 : Int) := ofb
       have q403 : x18_2 < (((rd_T54 l0 x11_1).f0).length : Int) := ofb
       obtain ⟨ad403, e403, hx403_0, hx403_1, hx403_2, hx403_3, hx403_4⟩ := at_T63 HR401_0.out x18_2 p403 q403
       cases e403
       replace hx403_0 := up HB.out hx403_0
       replace hx403_1 := up HB.out hx403_1
       replace hx403_2 := up HB.out hx403_2
       replace hx403_3 := up HB.out hx403_3
       replace hx403_4 := up HB.out hx403_4
       replace p403 := eq_true p403
       replace q403 := eq_true q403
       go_wp2_with (first | (refine bx 8 #[.int .i64 0, .int .i64 0, .int .i64 0, .int .i64 0, .int .i64 0] 63 rfl ?_; intro gb404 hg w19 hbox hb; have BK404 := am (hbox); have GW404 := am (ge hg (bg1 HB.out GE402.out)); have GE404 := GW404; replace HB := am (below_step (bg1 HB.out GE402.out) hb); have NB402_404 := am (nb hg (pb BK402.out)); have NB404_402 := am (Ne.symm NB402_404.out); replace BK402 := am (blk_below (pb BK402.out) hb); clear hb hbox hg; have hnb20 := NB404_402.out; have hnc20 := NB402_404.out; obtain ⟨hcz21_0, hcz21_1, hcz21_2, hcz21_3, hcz21_4⟩ := b5 BK404.out; obtain ⟨hfz21_0, hfz21_1, hfz21_2, hfz21_3, hfz21_4⟩ := f5 BK404.out))
       go_roundg k2
       case measure => have := HK1.out; have := HK2.out; omega
       case rel => exact ⟨(wrap64 (x18_2 + 1)), rf, H', ⟨by have := HK1.out; have := HK2.out; omega⟩, ⟨bf5 (pb BK402.out) NB402_404.out⟩, ⟨bg2 HB.out GE402.out GE404.out⟩⟩
     rw [if_pos c11] at H
     have c11b0 : (((rd_T63 ((rd_T54 l0 x11_1).f0) x18_2).f0) == 1) = true := beq_iff_eq.mpr c11
     have c11b1 : (((rd_T63 ((rd_T54 l0 x11_1).f0) x18_2).f0) != 1) = false := bne_eq_false_iff_eq.mpr c11
     clear c11
     by_cases c12 : ((rd_T63 ((rd_T54 l0 x11_1).f0) x18_2).f1.f1) = a1
     · rw [if_pos c12] at H
       have c12b0 : (((rd_T63 ((rd_T54 l0 x11_1).f0) x18_2).f1.f1) == a1) = true := beq_iff_eq.mpr c12
       have c12b1 : (((rd_T63 ((rd_T54 l0 x11_1).f0) x18_2).f1.f1) != a1) = false := bne_eq_false_iff_eq.mpr c12
       clear c12
       obtain rfl := Option.some.inj H
       have p403 : 0 ≤ (x18_2 : Int) := ofb
       have q403 : x18_2 < (((rd_T54 l0 x11_1).f0).length : Int) := ofb
       obtain ⟨ad403, e403, hx403_0, hx403_1, hx403_2, hx403_3, hx403_4⟩ := at_T63 HR401_0.out x18_2 p403 q403
       cases e403
       replace hx403_0 := up HB.out hx403_0
       replace hx403_1 := up HB.out hx403_1
       replace hx403_2 := up HB.out hx403_2
       replace hx403_3 := up HB.out hx403_3
       replace hx403_4 := up HB.out hx403_4
       replace p403 := eq_true p403
       replace q403 := eq_true q403
       go_wp2_with (first | (refine bx 8 #[.int .i64 0, .int .i64 0, .int .i64 0, .int .i64 0, .int .i64 0] 63 rfl ?_; intro gb404 hg w13 hbox hb; have BK404 := am (hbox); have GW404 := am (ge hg (bg1 HB.out GE402.out)); have GE404 := GW404; replace HB := am (below_step (bg1 HB.out GE402.out) hb); have NB402_404 := am (nb hg (pb BK402.out)); have NB404_402 := am (Ne.symm NB402_404.out); replace BK402 := am (blk_below (pb BK402.out) hb); clear hb hbox hg; have hnb14 := NB404_402.out; have hnc14 := NB402_404.out; obtain ⟨hcz15_0, hcz15_1, hcz15_2, hcz15_3, hcz15_4⟩ := b5 BK404.out; obtain ⟨hfz15_0, hfz15_1, hfz15_2, hfz15_3, hfz15_4⟩ := f5 BK404.out))
       go_ret
       exact (rq (bg2 HB.out GE402.out GE404.out))
     rw [if_neg c12] at H
     have c12b0 : (((rd_T63 ((rd_T54 l0 x11_1).f0) x18_2).f1.f1) == a1) = false := beq_eq_false_iff_ne.mpr c12
     have c12b1 : (((rd_T63 ((rd_T54 l0 x11_1).f0) x18_2).f1.f1) != a1) = true := bne_iff_ne.mpr c12
     have H' := am H
     clear H
     have p403 : 0 ≤ (x18_2 : Int) := ofb
     have q403 : x18_2 < (((rd_T54 l0 x11_1).f0).length : Int) := ofb
     obtain ⟨ad403, e403, hx403_0, hx403_1, hx403_2, hx403_3, hx403_4⟩ := at_T63 HR401_0.out x18_2 p403 q403
     cases e403
     replace hx403_0 := up HB.out hx403_0
     replace hx403_1 := up HB.out hx403_1
     replace hx403_2 := up HB.out hx403_2
     replace hx403_3 := up HB.out hx403_3
     replace hx403_4 := up HB.out hx403_4
     replace p403 := eq_true p403
     replace q403 := eq_true q403
     go_wp2_with (first | (refine bx 8 #[.int .i64 0, .int .i64 0, .int .i64 0, .int .i64 0, .int .i64 0] 63 rfl ?_; intro gb404 hg w16 hbox hb; have BK404 := am (hbox); have GW404 := am (ge hg (bg1 HB.out GE402.out)); have GE404 := GW404; replace HB := am (below_step (bg1 HB.out GE402.out) hb); have NB402_404 := am (nb hg (pb BK402.out)); have NB404_402 := am (Ne.symm NB402_404.out); replace BK402 := am (blk_below (pb BK402.out) hb); clear hb hbox hg; have hnb17 := NB404_402.out; have hnc17 := NB402_404.out; obtain ⟨hcz18_0, hcz18_1, hcz18_2, hcz18_3, hcz18_4⟩ := b5 BK404.out; obtain ⟨hfz18_0, hfz18_1, hfz18_2, hfz18_3, hfz18_4⟩ := f5 BK404.out))
     go_roundg k2
     case measure => have := HK1.out; have := HK2.out; omega
     case rel => exact ⟨(wrap64 (x18_2 + 1)), rf, H', ⟨by have := HK1.out; have := HK2.out; omega⟩, ⟨bf5 (pb BK402.out) NB402_404.out⟩, ⟨bg2 HB.out GE402.out GE404.out⟩⟩
def kb_ : Kd S54 := Kd.iso (Kd.pair (Kd.slice 97 k63) (Kd.int .i64)) (fun x : S54 => (x.f0, x.f1))
theorem kb__openM {w : World} {base : Nat} {ok : Nat → Prop} {x : S54} {cs : List Value} (h : kb_.M w base ok x cs) : ∃ v0, cs = [v0, .int .i64 x.f1] ∧ k63.R 97 w base ok v0 x.f0 := by
 obtain ⟨_, _, rfl, ⟨v0, rfl, g0⟩, rfl⟩ := h
 exact ⟨v0, rfl, g0⟩
theorem kb__mkM (w : World) (base : Nat) (ok : Nat → Prop) (x : S54) {v0 : Value} (g0 : k63.R 97 w base ok v0 x.f0) : kb_.M w base ok x [v0, .int .i64 x.f1] := ⟨[v0], [.int .i64 x.f1], rfl, ⟨v0, rfl, g0⟩, rfl⟩
theorem kb_C {w : World} {A : Option Addr} {n : Nat} {xs : List S54} (h : Kd.C kb_ w A n xs) : Kd.C k54 w A n xs := h
theorem run_copy_sz {P : Program} (w : World) (dT sT ty elem : TypeId) (g dLen dCap : Nat) (a : Addr) (sLen sCap sz : Nat) (cur : Array Value) (t : TypeId) (cs : List Value)
 (hu : P.underlying dT = some (.slice elem)) (hs : (P.info? elem).map (·.size) = some sz) (hg : w.heap[g]? = some (.cells cur t (0, 0))) (hn : cs.length = Nat.min sLen dLen * sz)
 (hsrc : ∀ j v, cs[j]? = some v → w.cell? (a.add j) = some v) (hfit : cs.length ≤ cur.size) (h1 : ∀ v ∈ cs, v.oneCell' = true) :
 (Builtin.copy_ #[dT, sT] ty #[.slice (some ⟨g, 0, none⟩) dLen dCap, .slice (some a) sLen sCap]).run P w = .ok (goInt (Nat.min sLen dLen : Nat)) (w.setRow g (cs ++ cur.toList.drop cs.length).toArray) := by
 have hl := run_loadCells_list (P := P) w a cs hsrc
 have hst := run_storeCells_at P g 0 t cs 0 cur w hg (by simpa using hfit) h1
 simp only [Nat.add_zero, List.take_zero, List.nil_append, Nat.zero_add] at hst
 cases hq : P.info? elem with
 | none => simp [hq] at hs
 | some i =>
  have hi : i.size = sz := by simpa [hq] using hs
  rw [hn] at hl
  simp [Builtin.copy_, run_underlying hu, Builtin.lenOf, Builtin.firstCells, sizeOf, typeInfo, hq, hi, hl, hst]
abbrev zeros20 : Array Value := #[.int .i64 0, .int .i64 0, .int .i64 0, .int .i64 0, .int .i64 0, .int .i64 0, .int .i64 0, .int .i64 0, .int .i64 0, .int .i64 0, .int .i64 0, .int .i64 0, .int .i64 0, .int .i64 0, .int .i64 0, .int .i64 0, .int .i64 0, .int .i64 0, .int .i64 0, .int .i64 0]
theorem k63_of {w w' : World} {base : Nat} {ok : Nat → Prop} {x : S63} {cs : List Value} (h : k63.K w x cs) : k63.M w' base ok x cs := by
 obtain rfl := k63_open h
 exact k63_mkM _ _ _ _
set_option maxHeartbeats 2000000 in
set_option maxRecDepth 100000 in
theorem impl_pagesCopy.calls (A0 : Option Addr) (c0 : Nat) (l0 : List S63) (w : World) (hr0 : Kd.C k63 w A0 l0.length l0) (hl : l0.length = 4) :
 Calls Try.prog 44 #[.slice A0 l0.length c0] w fun e w' => ∃ v, e = .returned v ∧ k63.R 97 w' w.heap.size (fun k => w.heap.size ≤ k) v l0 ∧ Below w.heap.size w w' := by
 obtain ⟨ad, hA, -⟩ := hr0.2.2 (by omega)
 subst hA
 obtain ⟨news, hnr, hnc⟩ := ReadsRow.inner_ hr0
 have esz : (k63).sz = 5 := rfl
 have hnl : news.length = 20 := by rw [hnr.1, hl, esz]
 have hone : ∀ u ∈ news, u.oneCell' = true := by
  intro u hu
  obtain ⟨q, hq, rfl⟩ := List.mem_iff_getElem.1 hu
  have hql : q / 5 < l0.length := by omega
  have hc := hnr.2 (q / 5) _ (List.getElem?_eq_getElem hql)
  refine k63.K_one hc _ ?_
  rw [List.mem_iff_getElem?]
  refine ⟨q % 5, ?_⟩
  rw [esz, List.getElem?_take, if_pos (Nat.mod_lt _ (by decide)), List.getElem?_drop, Nat.mul_comm, Nat.div_add_mod, List.getElem?_eq_getElem hq]
 have hu1 := Try.underlying52
 have hu2 := Try.underlying97
 have hu3 := Try.underlying95
 have hb := below_alloc (Below.refl _ w) (.cells zeros20 97)
 have hcp := run_copy_sz (P := Try.prog) (w.alloc (.cells zeros20 97)) 52 52 3 63 w.heap.size 4 4 ad 4 c0 5 zeros20 97 news hu1 (by kernel_rfl) (blk_new w _) (by rw [hnl]; rfl) (fun j v hj => up hb (hnc j v hj)) (by rw [hnl]; exact Nat.le_refl 20) hone
 rw [World.setRow_alloc_new, show (news ++ zeros20.toList.drop news.length) = news by rw [hnl]; exact List.append_nil news, show Nat.min 4 4 = 4 from rfl] at hcp
 have HN := am (And.intro hnl hnr)
 rw [hl]
 clear hr0 hone hnc hnl hnr hb
 go_enter Try.func44, Try.ntmps44
 go_wp2
 go_ret
 obtain ⟨hnl, hnr⟩ := HN.out
 refine ⟨_, rfl, ⟨fun k hk => ?_, news, ?_, hnr.imp_ (fun p c hp => ?_)⟩, below_alloc (Below.refl _ w) _⟩
 · have : w.heap.size = k := by simpa [Value.ownBlock] using hk
   omega
 · rw [esz, hl]
   have h := World.ownsRow_lit (base := w.heap.size) (e := 97) (size := 5) w news.toArray 4 (Nat.le_refl _) (by decide) (by rw [List.size_toArray, hnl])
   exact h
 · exact k63_of hp
theorem impl_pagesCopy.calls4 (A0 : Option Addr) (c0 : Nat) (l0 : List S63) (w : World) (hr0 : Kd.C k63 w A0 l0.length l0) (hl : l0.length = 4) :
 Calls Try.prog 44 #[.slice A0 4 c0] w fun e w' => ∃ A c, e = .returned (.slice A 4 c) ∧ k63.R 97 w' w.heap.size (fun k => w.heap.size ≤ k) (.slice A 4 c) l0 ∧ Below w.heap.size w w' := by
 have h := impl_pagesCopy.calls A0 c0 l0 w hr0 hl
 rw [hl] at h
 refine h.mono ?_
 rintro e w' ⟨v, rfl, hR, hb⟩
 obtain ⟨A, c, rfl⟩ := Kd.R_slice hR
 rw [hl] at hR ⊢
 exact ⟨A, c, rfl, hR, hb⟩
theorem S_store {w1 : World} {base N g n cap : Nat} {v0 : Value} {t : List S63} {xs : List S54} (HS : Kd.S kb_ 54 w1 base (fun k => base ≤ k ∧ k < N) (.slice (some ⟨g, 0, none⟩) n cap) xs) (hb : base ≤ N) (hg : g < N)
 (hR : k63.R 97 w1 N (fun k => N ≤ k) v0 t) (i : Int) (h0 : 0 ≤ i) (h1 : i < n) (b : Int) :
 Kd.S kb_ 54 ((w1.setCell ⟨g, i.toNat * 2, none⟩ v0).setCell ⟨g, i.toNat * 2 + 1, none⟩ (.int .i64 b)) base (fun k => base ≤ k) (.slice (some ⟨g, 0, none⟩) n cap) (xs.set i.toNat ⟨t, b⟩) := by
 obtain ⟨oki, c, hcl, hM, hcc, hfr, hoki, hH⟩ := Kd.S_elem HS z54 i h0 h1
 have hl : c.length = 2 := hcl
 have h := Kd.S_seg (okp := fun k => N ≤ k) (okg := fun k => N ≤ k) (ok := fun k => base ≤ k) (Kd.H_mono hH (fun k hk => ⟨hk.1, by omega⟩)) h0 h1 (seg := [v0, .int .i64 b]) (j := 0) (show 0 + 2 ≤ 2 from Nat.le_refl 2) (x' := (⟨t, b⟩ : S54))
  (by
   rw [List.take_zero, List.nil_append, List.drop_of_length_le (by rw [hl]; exact Nat.le_refl 2), List.append_nil]
   exact kb__mkM w1 base _ ⟨t, b⟩ (Kd.R_lower hR hb)) (fun k hk => .inr hk) (fun k hk => ⟨Nat.le_trans hb hk, by omega⟩)
 exact h.1
theorem copy_step {l0 : List S54} {j : Nat} {y : S54} (hy : l0[j]? = some y) (z : S54) : (l0.take j ++ List.replicate (l0.length - j) z).set j y = l0.take (j + 1) ++ List.replicate (l0.length - (j + 1)) z := by
 have h : j < l0.length := (List.getElem?_eq_some_iff.1 hy).1
 have e : l0.length - j = (l0.length - (j + 1)) + 1 := by omega
 rw [e, List.replicate_succ, List.set_append_right _ _ (by rw [List.length_take]; omega), List.length_take, Nat.min_eq_left (by omega), Nat.sub_self, List.set_cons_zero, List.take_add_one, hy, Option.toList_some, List.append_assoc, List.cons_append, List.nil_append]
theorem keep3w {a b : Addr} {va vb : Value} {B : Nat} {w W W' : World} (h : W.cell? a = some va ∧ W.cell? b = some vb ∧ Below B w W) (hB : B ≤ W.heap.size) (hb : Below W.heap.size W W') : W'.cell? a = some va ∧ W'.cell? b = some vb ∧ Below B w W' :=
 ⟨up hb h.1, up hb h.2.1, below_then h.2.2 hB hb⟩
theorem keepSet {a b : Addr} {va vb u u' : Value} {B g i i' : Nat} {w W : World} (h : W.cell? a = some va ∧ W.cell? b = some vb ∧ Below B w W) (ha : a.block ≠ g) (hb : b.block ≠ g) (hg : B ≤ g) :
 ((W.setCell ⟨g, i, none⟩ u).setCell ⟨g, i', none⟩ u').cell? a = some va ∧ ((W.setCell ⟨g, i, none⟩ u).setCell ⟨g, i', none⟩ u').cell? b = some vb ∧ Below B w ((W.setCell ⟨g, i, none⟩ u).setCell ⟨g, i', none⟩ u') := by
 have e : ∀ (c : Addr) (k : Nat), c.block ≠ g → (⟨g, k, none⟩ : Addr) ≠ c := fun c k hc he => hc (by rw [← he])
 refine ⟨?_, ?_, (h.2.2.setCell (p := ⟨g, i, none⟩) hg _).setCell (p := ⟨g, i', none⟩) hg _⟩
 · rw [World.cell?_setCell_other _ _ _ _ (e a i' ha), World.cell?_setCell_other _ _ _ _ (e a i ha)]
   exact h.1
 · rw [World.cell?_setCell_other _ _ _ _ (e b i' hb), World.cell?_setCell_other _ _ _ _ (e b i hb)]
   exact h.2.1
set_option maxHeartbeats 2000000 in
set_option maxRecDepth 100000 in
theorem impl_flashCopy.calls (A0 : Option Addr) (c0 : Nat) (l0 : List S54) (w : World) (hr0 : Kd.C k54 w A0 l0.length l0) (hn : 1 ≤ l0.length) (hn2 : l0.length ≤ 1000) (hl : ∀ x ∈ l0, x.f0.length = 4) :
 Calls Try.prog 29 #[.slice A0 l0.length c0] w fun e w' => ∃ v, e = .returned v ∧ Kd.S kb_ 54 w' w.heap.size (fun k => w.heap.size ≤ k) v l0 ∧ Below w.heap.size w w' := by
 have hu := Try.underlying54
 have HR0 := am hr0
 have HL := am hl
 clear hr0 hl
 go_enter Try.func29, Try.ntmps29
 go_wp2_with (first | ((with_reducible refine gate_dst (N := 8) rfl ?_); refine Kd.S_make kb_ (w0 := w) w.heap.size 54 rfl (N := 8) rfl 23 _ _ rfl (l0.length : Int) rfl rfl Try.underlying23 (.agg #[(.slice none 0 0), (.int .i64 0)]) 32 info54 rfl (by decide) (by omega) z54 (ok := fun k => w.heap.size ≤ k) (okp := fun k => w.heap.size ≤ k) (kb__mkM _ _ _ z54 (Kd.R_nil _ _ _ _ _)) (fun _ hk => hk) (Nat.le_refl _) (by omega) (by omega) (Below.refl _ _) (Nat.le_refl _) ?_; intro v1 w4 ho5 hb4 hg4 hnew4))
 rw [Int.toNat_natCast] at ho5
 obtain ⟨g, cap, rfl, hgb, hgl, -⟩ := Kd.S_form ho5 (by rw [List.length_replicate]; omega)
 rw [List.length_replicate] at *
 clear hg4 hnew4
 have HO := am ho5
 have HB := am hb4
 clear ho5 hb4
 go_loopw [11] (fun v W => ∃ (j : Nat), j ≤ l0.length ∧ v = .int .i64 j ∧ Aside0 (Kd.S kb_ 54 W w.heap.size (fun k => w.heap.size ≤ k) (.slice (some ⟨g, 0, none⟩) l0.length cap) (l0.take j ++ List.replicate (l0.length - j) z54)) ∧ Aside0 (Below w.heap.size w W)) (fun v _ => l0.length - (intOf v).toNat)
 case atStart => exact ⟨0, Nat.zero_le _, rfl, ⟨by simpa using HO.out⟩, HB⟩
 case round =>
  obtain ⟨j, hj, rfl, HOr, HBr⟩ := hrel
  by_cases hlt : j < l0.length
  rotate_left
  · go_wp2
    go_ret
    refine ⟨_, rfl, ?_, HBr.out⟩
    have e : j = l0.length := by omega
    have h := HOr.out
    rw [e, List.take_length, Nat.sub_self, List.replicate_zero, List.append_nil] at h
    exact h
  obtain ⟨ad, Aj, cj, hA, hx0, hx1, hlj, hCj⟩ := at_T54 HR0.out (j : Int) (by omega) (by omega)
  cases hA
  obtain ⟨y, hy⟩ : ∃ y, l0[j]? = some y := ⟨l0[j], List.getElem?_eq_getElem hlt⟩
  have ej : rd_T54 l0 (j : Int) = y := by
   unfold rd_T54
   rw [Int.toNat_natCast, List.getD_eq_getElem?_getD, hy]
   rfl
  have h4 := HL.out y (List.mem_of_getElem? hy)
  rw [ej] at hx0 hx1 hlj hCj
  have HY := am hy
  rw [h4, Int.toNat_natCast] at hx0
  rw [Int.toNat_natCast] at hx1
  replace hx0 := up HBr.out hx0
  replace hx1 := up HBr.out hx1
  have HC := am hCj
  have H4 := am h4
  clear hlj hCj ej hy h4
  obtain ⟨oki, c, hcl, hM, hcc, hfr, hoki, hH⟩ := Kd.S_elem HOr.out z54 (j : Int) (by omega) (by omega)
  obtain ⟨vo, rfl, -⟩ := kb__openM hM
  have ho0 := hcc 0 _ rfl
  have ho1 := hcc 1 _ rfl
  have esz : (kb_).sz = 2 := rfl
  rw [Int.toNat_natCast, esz, Nat.add_zero] at ho0
  rw [Int.toNat_natCast, esz] at ho1
  generalize (List.getD _ _ _ : S54).f1 = wo at ho1
  obtain ⟨g', cap', hv', hgb', hgl', cellsr, hcellsr⟩ := Kd.S_form HOr.out (by rw [List.length_append, List.length_take, List.length_replicate]; omega)
  injection hv' with hv1 hv2 hv3
  injection hv1 with hv1
  injection hv1 with hv1 hv4
  clear hv2 hv3 hv4
  subst hv1
  have HG := am hcellsr
  have hjl := decide_eq_true (show (j : Int) < (l0.length : Int) by omega)
  have hjq : ((j : Int) < (l0.length : Int)) = True := eq_true (by omega)
  have HLT := am hlt
  clear hlt hcl hM hcc hfr hoki hH hcellsr esz
  go_wp2_with fail
  have hbx := blk_new wr (.cells #[.slice Aj 4 cj, .int .i64 y.f1] 54)
  have hB5 := below_alloc HBr.out (.cells #[.slice Aj 4 cj, .int .i64 y.f1] 54)
  have HO5 := Kd.S_alloc HOr.out (.cells #[.slice Aj 4 cj, .int .i64 y.f1] 54)
  have HG5 := blk_alloc HG.out (.cells #[.slice Aj 4 cj, .int .i64 y.f1] 54)
  have o0 := up (below_alloc (Below.refl _ wr) (.cells #[.slice Aj 4 cj, .int .i64 y.f1] 54)) ho0
  have o1 := up (below_alloc (Below.refl _ wr) (.cells #[.slice Aj 4 cj, .int .i64 y.f1] 54)) ho1
  have HCw := am (fun W (hW : Below w.heap.size w W) => Kd.C_below HC.out hW)
  clear hx0 hx1 ho0 ho1
  generalize wr.alloc (.cells #[.slice Aj 4 cj, .int .i64 y.f1] 54) = w5 at hbx hB5 HO5 HG5 o0 o1 ⊢
  have b0 : w5.cell? ⟨wr.heap.size, 0, none⟩ = some (.slice Aj 4 cj) := (blk_cell hbx 0).trans rfl
  have b1 : w5.cell? ⟨wr.heap.size, 1, none⟩ = some (.int .i64 y.f1) := (blk_cell hbx 1).trans rfl
  have hgne : wr.heap.size ≠ g := by omega
  generalize wr.heap.size = gx at b0 b1 hbx hgne ⊢
  have hgx : gx ≠ g := hgne
  have hSS := (⟨b0, b1, hB5⟩ : _ ∧ _ ∧ Below w.heap.size w w5)
  have HS5 := am HO5
  have HG := am HG5
  have HO01 := am (And.intro o0 o1)
  have HZ := hB5.size
  have hd1 : ∀ (W : World) (n : Nat) (a : Addr), (W.drewN n).cell? a = W.cell? a := fun _ _ _ => rfl
  have hd3 : ∀ (W : World) (n : Nat) (a : Addr), (W.drewN n).frozen? a = W.frozen? a := fun _ _ _ => rfl
  clear hbx HO5 hB5 HG5 b0 b1 o0 o1
  go_region_held3 (fun W => W.cell? ⟨gx, 0, none⟩ = some (.slice Aj 4 cj) ∧ W.cell? ⟨gx, 1, none⟩ = some (.int .i64 y.f1) ∧ Below w.heap.size w W)
   (first | (with_reducible assumption) | (with_reducible exact keep3w hSS HZ (below_drew (Below.refl _ w5))) | (with_reducible exact keep3w hSS HZ (pw_below_drewN (Below.refl _ w5) _)) | exact keep3w hSS HZ hbb | (with_reducible exact keepSet (by assumption) hgx hgx hgb'))
   (first
    | (go_at_call 44; refine (impl_pagesCopy.calls4 Aj cj y.f0 _ (HCw.out _ (by assumption : _ ∧ _ ∧ Below w.heap.size w _).2.2) H4.out).mono ?_; rintro e w11 ⟨A1, c1, rfl, hR, hb⟩; have hbb := below_then (pw_below_drewN (Below.refl _ w5) _) (Nat.le_refl _) hb; have ho0 := up hbb HO01.out.1; have ho1 := up hbb HO01.out.2; have hfz0 : w11.frozen? ⟨g, j * 2, none⟩ = false := blk_frozen (blk_below HG.out hbb) _; have hfz1 : w11.frozen? ⟨g, j * 2 + 1, none⟩ = false := blk_frozen (blk_below HG.out hbb) _)
    | fail)
  have hst := S_store (N := w5.heap.size) (base := w.heap.size) (Kd.S_old HS5.out hbb) HZ (blk_lt HG.out) (show k63.R 97 w11 w5.heap.size (fun k => w5.heap.size ≤ k) (.slice A1 4 c1) y.f0 from hR) (j : Int) (by omega) (by have := HLT.out; omega) y.f1
  rw [Int.toNat_natCast, show (⟨y.f0, y.f1⟩ : S54) = y from rfl, copy_step HY.out] at hst
  have hbl := (by assumption : _ ∧ _ ∧ Below w.heap.size w ((w11.setCell ⟨g, j * 2, none⟩ (.slice A1 4 c1)).setCell ⟨g, j * 2 + 1, none⟩ (.int .i64 y.f1))).2.2
  clear hSS hd1 hd3 ho0 ho1 hfz0 hfz1 hjl hjq
  go_wp2
  exact ⟨⟨j + 1, by have := HLT.out; omega, by go_num, ⟨hst⟩, ⟨hbl⟩⟩, by have := HLT.out; simp [intOf]; omega⟩
theorem blockOk_eq (b : Int) : impl_blockOk.f b = some (decide (0 ≤ b ∧ b < 4)) := by
 unfold impl_blockOk.f
 by_cases h : b ≥ 0
 rotate_left
 · rw [if_neg h]
   exact congrArg some (decide_eq_false (fun h2 => h h2.1)).symm
 rw [if_pos h]
 exact congrArg some (decide_eq_decide.2 ⟨fun h2 => ⟨h, h2⟩, fun h2 => h2.2⟩)
def pageFW (r0 r1 r2 r3 : Int) (tn : Bool) : S63 := if tn then ⟨2, ⟨0, 0, 0, 0⟩⟩ else ⟨1, ⟨r0, r1, r2, r3⟩⟩
def listFW (l0 : List S54) (b : Int) (n : Int) (p : S63) : List S54 := l0.set b.toNat ⟨(rd_T54 l0 b).f0.set (4 - n).toNat p, (rd_T54 l0 b).f1⟩
def outFW (l0 : List S54) (b : Int) (n : Int) (u : Bool) (p : S63) : List S54 := if n ≠ 0 ∧ u = false then listFW l0 b n p else l0
def okFW (n : Int) (u : Bool) : Bool := decide (n ≠ 0) && !u
theorem outFW_no {l0 : List S54} {b n : Int} {u : Bool} {p : S63} (h : n = 0 ∨ u = true) : outFW l0 b n u p = l0 ∧ okFW n u = false := by
 unfold outFW okFW
 rcases h with rfl | rfl
 · exact ⟨if_neg (fun h => h.1 rfl), rfl⟩
 · exact ⟨if_neg (fun h => Bool.noConfusion h.2), by rw [Bool.not_true, Bool.and_false]⟩
theorem outFW_yes {l0 : List S54} {b n : Int} {p : S63} (h : n ≠ 0) : outFW l0 b n false p = listFW l0 b n p ∧ okFW n false = true := by
 unfold outFW okFW
 exact ⟨if_pos ⟨h, rfl⟩, by rw [decide_eq_true h]; rfl⟩
set_option maxHeartbeats 4000000 in
set_option maxRecDepth 100000 in
theorem impl_FlashWrite.bad (A0 : Option Addr) (c0 : Nat) (l0 : List S54) (b r0 r1 r2 r3 : Int) (tn : Bool) (w : World) (hr0 : Kd.C k54 w A0 l0.length l0) (hc0 : l0.length ≤ c0) (hg : ¬ (flashOkB l0 = true ∧ (0 ≤ b ∧ b < 4) ∧ recOkB r0 r1 r2 r3 = true)) :
 Calls Try.prog 10 #[.slice A0 l0.length c0, .int .i64 b, .agg #[.int .i64 r0, .int .i64 r1, .int .i64 r2, .int .i64 r3], .bool tn] w fun e w' => e = .returned (.tuple #[.slice none 0 0, .bool false]) ∧ Below w.heap.size w w' := by
 have hu := Try.underlying37
 have HC := am (And.intro hr0 hc0)
 clear hr0 hc0
 have hbx := blk_new w (.cells #[.int .i64 r0, .int .i64 r1, .int .i64 r2, .int .i64 r3] 37)
 have hB1 := below_alloc (Below.refl _ w) (.cells #[.int .i64 r0, .int .i64 r1, .int .i64 r2, .int .i64 r3] 37)
 go_enter Try.func10, Try.ntmps10
 go_wp2_with fail
 refine (impl_FlashOk.calls A0 c0 l0 (flashOkB l0) _ (Kd.C_below HC.out.1 hB1) HC.out.2 rfl).mono ?_
 rintro e w2 ⟨rfl, hb⟩
 have hB2 := below_then hB1 hB1.size hb
 have hbx2 := blk_below hbx hb
 clear hB1 hbx hb
 cases hf : flashOkB l0 with
 | false =>
  clear hf hg
  go_wp2
  refine bodyPost_ret (results_tmp2 rfl _ _ _) rfl ?_
  exact ⟨rfl, hB2⟩
 | true =>
  go_wp2_with fail
  refine (impl_blockOk.calls b _ _ (blockOk_eq b)).mono ?_
  rintro e w3 ⟨rfl, hd⟩
  have hB3 := below_then hB2 hB2.size hd.below
  have hbx3 := blk_below hbx2 hd.below
  clear hB2 hbx2 hd
  by_cases hb : 0 ≤ b ∧ b < 4
  rotate_left
  · rw [decide_eq_false hb]
    clear hf hg hb
    go_wp2
    refine bodyPost_ret (results_tmp2 rfl _ _ _) rfl ?_
    exact ⟨rfl, hB3⟩
  rw [decide_eq_true hb]
  have q0 : w3.cell? ⟨w.heap.size, 0, none⟩ = some (.int .i64 r0) := (blk_cell hbx3 0).trans rfl
  have q1 : w3.cell? ⟨w.heap.size, 1, none⟩ = some (.int .i64 r1) := (blk_cell hbx3 1).trans rfl
  have q2 : w3.cell? ⟨w.heap.size, 2, none⟩ = some (.int .i64 r2) := (blk_cell hbx3 2).trans rfl
  have q3 : w3.cell? ⟨w.heap.size, 3, none⟩ = some (.int .i64 r3) := (blk_cell hbx3 3).trans rfl
  have hrec : recOkB r0 r1 r2 r3 = false := by
   cases h : recOkB r0 r1 r2 r3 with
   | false => rfl
   | true => exact absurd ⟨hf, hb, h⟩ hg
  clear hf hg hb
  go_wp2_with fail
  refine (impl_RecOk.calls r0 r1 r2 r3 (recOkB r0 r1 r2 r3) _ rfl).mono ?_
  rintro e w4 ⟨rfl, hb⟩
  rw [hrec]
  have hB4 := below_then hB3 hB3.size hb
  clear hB3 hb hbx3 q0 q1 q2 q3 hrec
  go_wp2
  refine bodyPost_ret (results_tmp2 rfl _ _ _) rfl ?_
  exact ⟨rfl, hB4⟩
theorem S_page {w1 : World} {base g n cap gi ni ci : Nat} {xs : List S54} (HS : Kd.S kb_ 54 w1 base (fun k => base ≤ k) (.slice (some ⟨g, 0, none⟩) n cap) xs) (b : Int) (h0 : 0 ≤ b) (h1 : b < n)
 (hc : w1.cell? ⟨g, b.toNat * 2, none⟩ = some (.slice (some ⟨gi, 0, none⟩) ni ci)) (j : Int) (hj0 : 0 ≤ j) (hj1 : j < ni) (p : S63) :
 Kd.S kb_ 54 (w1.setCells gi (j.toNat * 5) [.int .i64 p.f0, .int .i64 p.f1.f0, .int .i64 p.f1.f1, .int .i64 p.f1.f2, .int .i64 p.f1.f3]) base (fun k => base ≤ k) (.slice (some ⟨g, 0, none⟩) n cap) (xs.set b.toNat ⟨(rd_T54 xs b).f0.set j.toNat p, (rd_T54 xs b).f1⟩) := by
 obtain ⟨oki, c, hcl, hM, hcc, hfr, hoki, hH⟩ := Kd.S_elem HS z54 b h0 h1
 obtain ⟨v0, rfl, hR⟩ := kb__openM hM
 have hc0 := hcc 0 _ rfl
 have esz : (kb_).sz = 2 := rfl
 rw [esz, Nat.add_zero, hc] at hc0
 obtain rfl := Option.some.inj hc0
 obtain ⟨ce, hce, hMe, hcce, hfre⟩ := Kd.R_elem hR z63 j hj0 hj1
 obtain ⟨hR2, hg2⟩ := Kd.R_seg hR j hj0 hj1 (seg := [.int .i64 p.f0, .int .i64 p.f1.f0, .int .i64 p.f1.f1, .int .i64 p.f1.f2, .int .i64 p.f1.f3]) (j := 0) (okp := fun _ => False) hce hcce (show 0 + 5 ≤ 5 from Nat.le_refl 5) (x' := p)
  (by
   rw [List.take_zero, List.nil_append, List.drop_of_length_le (by rw [hce]; exact Nat.le_refl 5), List.append_nil]
   exact k63_mkM _ _ _ p) (fun _ h => h.elim)
 have hgi : oki gi := hR.1 gi rfl
 have hk : Kept w1 (w1.setCells gi (j.toNat * 5) [.int .i64 p.f0, .int .i64 p.f1.f0, .int .i64 p.f1.f1, .int .i64 p.f1.f2, .int .i64 p.f1.f3]) (fun k => k = gi) := Kept.of_grown hg2 (Kept.refl w1 _) (fun k hk => Or.inl (Option.some.inj hk).symm)
 exact Kd.H_back (Kd.H_kept hH hk (fun k _ hn hk2 => hn (by rw [hk2]; exact hgi))) (kb__mkM _ base oki ⟨(rd_T54 xs b).f0.set j.toNat p, (rd_T54 xs b).f1⟩ hR2) (fun k hk => hk)
end Go.Proofs.Ytghmnlcmhpdcaaa.R5
