-- printed by wip/pp/pp.py
import Derived.Test.YtpldeopbdilipaaP10
import Derived.Test.YtpldeopbdilipaaP113
import Derived.RangeFuncNested
import Derived.RangeFuncBound
import Derived.RangeFuncCalls
import Derived.RangeFuncLeaves
import Derived.Shelf.Abstract
import Derived.WalkKit
import Derived.OwnWalkIn
import Derived.TacticsInMore
import Derived.LoopNIn
import Derived.LoopIn
import Derived.IntWalk
import Derived.Test.YtpldeopbdilipaaP11
import Derived.Test.YtpldeopbdilipaaP112
namespace Go.Proofs.Ytpldeopbdilipaa.P1
open Go.RowKit Go.Proofs.YtpldeopbdilipaaW.PrintWords Go.Proofs.YtpldeopbdilipaaW.PrintLast Go.Proofs.YtpldeopbdilipaaW.PrintMore
attribute [local go_sem] max2_int min2_int max_two min_two max_three min_three max_four min_four
set_option linter.unusedVariables false
set_option linter.unusedSimpArgs false
mutual
def impl_FindOpen.l0 : Nat → List (S63) → List (S63) → Int → Int → Option (Int × Bool)
 | 0, _, _, _, _ => none
 | k + 1, x0, x13, x14, x15 => if x15 < x14 then (if 0 ≤ x15 then (if x15 < (x13.length : Int) then ((impl_partlyUsed.f k ((rd_T63 x13 x15).f0) ((rd_T63 x13 x15).f1)).bind fun t394 => (if t394 = true then (some (x15, true)) else (impl_FindOpen.l0 k x0 x13 x14 (wrap64 (x15 + 1))))) else (none)) else (none)) else (impl_FindOpen.l1 k x0 0 false x0 (x0.length : Int) 0)
def impl_FindOpen.l1 : Nat → List (S63) → Int → Bool → List (S63) → Int → Int → Option (Int × Bool)
 | 0, _, _, _, _, _, _ => none
 | k + 1, x0, x6, x7, x24, x25, x26 => if x26 < x25 then (if 0 ≤ x26 then (if x26 < (x24.length : Int) then ((impl_freePages.f k ((rd_T63 x24 x26).f0) ((rd_T63 x24 x26).f1)).bind fun t397 => (if t397 = 4 then (if x7 = true then (if 0 ≤ x6 then (if x6 < (x0.length : Int) then (if ((rd_T63 x24 x26).f1) < ((rd_T63 x0 x6).f1) then (impl_FindOpen.l1 k x0 x26 true x24 x25 (wrap64 (x26 + 1))) else (impl_FindOpen.l1 k x0 x6 x7 x24 x25 (wrap64 (x26 + 1)))) else (none)) else (none)) else (impl_FindOpen.l1 k x0 x26 true x24 x25 (wrap64 (x26 + 1)))) else (impl_FindOpen.l1 k x0 x6 x7 x24 x25 (wrap64 (x26 + 1))))) else (none)) else (none)) else (some (x6, x7))
end
def impl_FindOpen.f (k : Nat) (l0 : List (S63)) : Option (Int × Bool) := (impl_FlashOk.f l0).bind fun t391 => (if t391 = true then (impl_FindOpen.l0 k l0 l0 (l0.length : Int) 0) else (some (0, false)))
def impl_FindOpen.T13 : Bool × List (List Nat × List Nat) := (true, [([], []), ([0], [0]), ([1], [1]), ([2, 1], [2]), ([3], [3]), ([4, 3], [3, 4]), ([5, 3, 3], [3, 5]), ([6], [6]), ([7, 6], [6, 7]), ([6], [6]), ([6], [6]), ([9, 10, 6], [6, 9, 10]), ([11, 6], [6, 11]), ([12, 6], [6, 12]), ([8, 13, 6], [6, 8, 13]), ([6, 14, 3], [3, 6, 14]), ([3, 15], [3, 15])])
def impl_FindOpen.B13 : List Nat := [0, 1, 3, 7, 15, 31, 63, 127, 255, 127, 127, 1663, 3711, 7807, 16383, 32767, 65535]
theorem impl_FindOpen.tab13 : rtab .any (opsOf Try.f26 13) = impl_FindOpen.T13 := by kernel_rfl
theorem impl_FindOpen.bits13 : waitsOk impl_FindOpen.T13.2 impl_FindOpen.B13 = true := by kernel_rfl
set_option maxHeartbeats 8000000 in
set_option maxRecDepth 100000 in
theorem impl_FindOpen.calls (k : Nat) (A0 : Option Addr) (c0 : Nat) (l0 : List (S63)) (r1 : Int) (r2 : Bool) (w : World) (hr0 : Kd.C k63 w A0 l0.length l0) (hc0 : l0.length ≤ c0) (h : impl_FindOpen.f k l0 = some (r1, r2)) :
 Calls Try.prog 26 #[.slice A0 l0.length c0] w fun e w' => e = .returned (.tuple #[.int .i64 r1, .bool r2]) ∧ Below w.heap.size w w' := by
 have hu63 := Try.underlying63
 have HR0 := am hr0
 have HC0 := am hc0
 clear hr0 hc0
 have HB := am (Below.refl w.heap.size w)
 have H : ((impl_FlashOk.f l0).bind fun t391 => (if t391 = true then (impl_FindOpen.l0 k l0 l0 (l0.length : Int) 0) else (some (0, false)))) = some (r1, r2) := h
 clear h
 replace H := Option.bind_eq_some_iff.mp H
 obtain ⟨t391, A20, H⟩ := H
 have A2 := am A20
 clear A20
 by_cases c3 : t391 = true
 rotate_left
 · replace c3 := Bool.eq_false_iff.mpr c3
   subst c3
   rw [if_neg (show ¬ (false = true) by decide)] at H
   simp only [Option.some.injEq, Prod.mk.injEq] at H
   obtain ⟨rfl, rfl⟩ := H
   go_enter Try.func26, Try.ntmps26
   go_wp2_with (first | (refine gl 11 Try.func36 #[.slice A0 l0.length c0] rfl ?_; (with_reducible refine (impl_FlashOk.calls _ _ l0 false _ ?side1 ?side2 A2.out).mono ?_); (case side1 => exact pc HR0.out); (case side2 => exact HC0.out); rintro e w45 ⟨rfl, hb⟩; refine ⟨_, rfl, ?_⟩; replace HB := am (below_step (ph HB.out) hb); clear hb))
   go_ret2
   exact (rq (ph HB.out))
 subst c3
 rw [if_pos rfl] at H
 have H' := am H
 clear H
 go_enter Try.func26, Try.ntmps26
 go_wp2_with (first | (refine gl 11 Try.func36 #[.slice A0 l0.length c0] rfl ?_; (with_reducible refine (impl_FlashOk.calls _ _ l0 true _ ?side1 ?side2 A2.out).mono ?_); (case side1 => exact pc HR0.out); (case side2 => exact HC0.out); rintro e w4 ⟨rfl, hb⟩; refine ⟨_, rfl, ?_⟩; replace HB := am (below_step (ph HB.out) hb); clear hb))
 go_loopg [15] k (fun kq v15 w' => ∃ (x15_1 : Int), v15 = .int .i64 x15_1 ∧ Aside0 (impl_FindOpen.l0 kq l0 l0 (l0.length : Int) x15_1 = some (r1, r2)) ∧ Aside0 (kq ≤ k) ∧ Aside0 (Below w.heap.size w w'))
 case atStart => exact ⟨(0), rf, H', ⟨Nat.le_refl _⟩, ⟨ph HB.out⟩⟩
 case round =>
  clear H'
  obtain ⟨x15_1, rfl, HA, HK1, HB⟩ := hrel
  cases gk with
  | zero => exact absurd HA.out (by simp [impl_FindOpen.l0])
  | succ k1 =>
   have H := HA.out
   clear HA
   simp only [impl_FindOpen.l0] at H
   by_cases c5 : x15_1 < (l0.length : Int)
   · rw [if_pos c5] at H
     have c5b0 := decide_eq_true c5
     clear c5
     obtain ⟨c6b0, H⟩ := ifd H
     obtain ⟨c7b0, H⟩ := ifd H
     replace H := Option.bind_eq_some_iff.mp H
     obtain ⟨t394, A80, H⟩ := H
     have A8 := am A80
     clear A80
     by_cases c9 : t394 = true
     · subst c9
       rw [if_pos rfl] at H
       simp only [Option.some.injEq, Prod.mk.injEq] at H
       obtain ⟨rfl, rfl⟩ := H
       have p392 : 0 ≤ (x15_1 : Int) := ofb
       have q392 : x15_1 < (l0.length : Int) := ofb
       obtain ⟨ad392, A392_0, c392_0, e392, hx392_0, hx392_1, hl392_0, hi392_0⟩ := at_T63 HR0.out x15_1 p392 q392
       cases e392
       replace hx392_0 := up HB.out hx392_0
       replace hx392_1 := up HB.out hx392_1
       have HR392_0 := am hi392_0
       have HC392_0 := am hl392_0
       clear hi392_0 hl392_0
       replace p392 := eq_true p392
       replace q392 := eq_true q392
       go_wp2_with (first | (refine bx 5 #[.slice none 0 0, .int .i64 0] 63 rfl ?_; intro gb393 hg w10 hbox hb; have BK393 := am (hbox); have GW393 := am (ge hg (ph HB.out)); have GE393 := GW393; replace HB := am (below_step (ph HB.out) hb); clear hb hbox hg; obtain ⟨hcz11_0, hcz11_1⟩ := b2 BK393.out; obtain ⟨hfz11_0, hfz11_1⟩ := f2 BK393.out) | (refine gl 21 Try.func45 #[.agg #[.slice A392_0 ((rd_T63 l0 x15_1).f0).length c392_0, .int .i64 ((rd_T63 l0 x15_1).f1)]] rfl ?_; (with_reducible refine (impl_partlyUsed.calls k1 _ _ ((rd_T63 l0 x15_1).f0) ((rd_T63 l0 x15_1).f1) true _ ?side1 ?side2 A8.out).mono ?_); (case side1 => exact Kd.C_below HR392_0.out (bg1 HB.out GE393.out)); (case side2 => exact HC392_0.out); rintro e w12 ⟨rfl, hb⟩; refine ⟨_, rfl, ?_⟩; replace BK393 := am (blk_below (bp2 (pb BK393.out)) hb); replace HB := am (below_step (bg1 HB.out GE393.out) hb); clear hb))
       go_ret2
       exact (rq (bg1 HB.out GE393.out))
     replace c9 := Bool.eq_false_iff.mpr c9
     subst c9
     rw [if_neg (show ¬ (false = true) by decide)] at H
     have H' := am H
     clear H
     have p392 : 0 ≤ (x15_1 : Int) := ofb
     have q392 : x15_1 < (l0.length : Int) := ofb
     obtain ⟨ad392, A392_0, c392_0, e392, hx392_0, hx392_1, hl392_0, hi392_0⟩ := at_T63 HR0.out x15_1 p392 q392
     cases e392
     replace hx392_0 := up HB.out hx392_0
     replace hx392_1 := up HB.out hx392_1
     have HR392_0 := am hi392_0
     have HC392_0 := am hl392_0
     clear hi392_0 hl392_0
     replace p392 := eq_true p392
     replace q392 := eq_true q392
     go_wp2_with (first | (refine bx 5 #[.slice none 0 0, .int .i64 0] 63 rfl ?_; intro gb393 hg w13 hbox hb; have BK393 := am (hbox); have GW393 := am (ge hg (ph HB.out)); have GE393 := GW393; replace HB := am (below_step (ph HB.out) hb); clear hb hbox hg; obtain ⟨hcz14_0, hcz14_1⟩ := b2 BK393.out; obtain ⟨hfz14_0, hfz14_1⟩ := f2 BK393.out) | (refine gl 21 Try.func45 #[.agg #[.slice A392_0 ((rd_T63 l0 x15_1).f0).length c392_0, .int .i64 ((rd_T63 l0 x15_1).f1)]] rfl ?_; (with_reducible refine (impl_partlyUsed.calls k1 _ _ ((rd_T63 l0 x15_1).f0) ((rd_T63 l0 x15_1).f1) false _ ?side1 ?side2 A8.out).mono ?_); (case side1 => exact Kd.C_below HR392_0.out (bg1 HB.out GE393.out)); (case side2 => exact HC392_0.out); rintro e w15 ⟨rfl, hb⟩; refine ⟨_, rfl, ?_⟩; replace BK393 := am (blk_below (bp2 (pb BK393.out)) hb); replace HB := am (below_step (bg1 HB.out GE393.out) hb); clear hb))
     go_roundg k1
     case measure => have := HK1.out; omega
     case rel => exact ⟨(wrap64 (x15_1 + 1)), rf, H', ⟨by have := HK1.out; omega⟩, ⟨bg1 HB.out GE393.out⟩⟩
   rw [if_neg c5] at H
   have c5b0 := decide_eq_false c5
   clear c5
   have H' := am H
   clear H
   go_wp2
   go_loopg [6, 7, 26] k1 (fun kq v6 v7 v26 w' => ∃ (x6_2 : Int) (x7_2 : Bool) (x26_2 : Int), v6 = .int .i64 x6_2 ∧ v7 = .bool x7_2 ∧ v26 = .int .i64 x26_2 ∧ Aside0 (impl_FindOpen.l1 kq l0 x6_2 x7_2 l0 (l0.length : Int) x26_2 = some (r1, r2)) ∧ Aside0 (kq ≤ k1) ∧ Aside0 (Below w.heap.size w w'))
   case atStart => exact ⟨(0), (false), (0), rf, rf, rf, H', ⟨Nat.le_refl _⟩, ⟨ph HB.out⟩⟩
   case round =>
    clear H'
    obtain ⟨x6_2, x7_2, x26_2, rfl, rfl, rfl, HA, HK2, HB⟩ := hrel
    cases gk with
    | zero => exact absurd HA.out (by simp [impl_FindOpen.l1])
    | succ k2 =>
     have H := HA.out
     clear HA
     simp only [impl_FindOpen.l1] at H
     by_cases c16 : x26_2 < (l0.length : Int)
     rotate_left
     · rw [if_neg c16] at H
       have c16b0 := decide_eq_false c16
       clear c16
       simp only [Option.some.injEq, Prod.mk.injEq] at H
       obtain ⟨rfl, rfl⟩ := H
       go_wp2
       go_ret2
       exact (rq (ph HB.out))
     rw [if_pos c16] at H
     have c16b0 := decide_eq_true c16
     clear c16
     obtain ⟨c17b0, H⟩ := ifd H
     obtain ⟨c18b0, H⟩ := ifd H
     replace H := Option.bind_eq_some_iff.mp H
     obtain ⟨t397, A190, H⟩ := H
     have A19 := am A190
     clear A190
     by_cases c20 : t397 = 4
     rotate_left
     · rw [if_neg c20] at H
       have c20b0 : (t397 == 4) = false := beq_eq_false_iff_ne.mpr c20
       have c20b1 : (t397 != 4) = true := bne_iff_ne.mpr c20
       have H' := am H
       clear H
       have p395 : 0 ≤ (x26_2 : Int) := ofb
       have q395 : x26_2 < (l0.length : Int) := ofb
       obtain ⟨ad395, A395_0, c395_0, e395, hx395_0, hx395_1, hl395_0, hi395_0⟩ := at_T63 HR0.out x26_2 p395 q395
       cases e395
       replace hx395_0 := up HB.out hx395_0
       replace hx395_1 := up HB.out hx395_1
       have HR395_0 := am hi395_0
       have HC395_0 := am hl395_0
       clear hi395_0 hl395_0
       replace p395 := eq_true p395
       replace q395 := eq_true q395
       try go_wp2_with (first | (refine bx 9 #[.slice none 0 0, .int .i64 0] 63 rfl ?_; intro gb396 hg w40 hbox hb; have BK396 := am (hbox); have GW396 := am (ge hg (ph HB.out)); have GE396 := GW396; replace HB := am (below_step (ph HB.out) hb); clear hb hbox hg; obtain ⟨hcz41_0, hcz41_1⟩ := b2 BK396.out; obtain ⟨hfz41_0, hfz41_1⟩ := f2 BK396.out))
       have n0_ : Aside0 (((w40.setCell ⟨gb396, 0, none⟩ (.slice A395_0 ((rd_T63 l0 x26_2).f0).length c395_0)).setCell ⟨gb396, 1, none⟩ (.int .i64 ((rd_T63 l0 x26_2).f1))).heap[gb396]? = some (.cells #[.slice A395_0 ((rd_T63 l0 x26_2).f0).length c395_0, .int .i64 ((rd_T63 l0 x26_2).f1)] 63 (0, 0))) := ⟨bp2 (pb BK396.out)⟩
       have n1_ : Aside0 (Below w.heap.size w ((w40.setCell ⟨gb396, 0, none⟩ (.slice A395_0 ((rd_T63 l0 x26_2).f0).length c395_0)).setCell ⟨gb396, 1, none⟩ (.int .i64 ((rd_T63 l0 x26_2).f1)))) := ⟨bg1 HB.out GE396.out⟩
       (try clear BK396)
       (try clear HB)
       generalize ((w40.setCell ⟨gb396, 0, none⟩ (.slice A395_0 ((rd_T63 l0 x26_2).f0).length c395_0)).setCell ⟨gb396, 1, none⟩ (.int .i64 ((rd_T63 l0 x26_2).f1))) = w42 at n0_ n1_ ⊢
       have BK396 := n0_
       have HB := n1_
       clear n0_ n1_
       replace BK396 := am (blk_drew BK396.out)
       replace HB := am (below_drew1 HB.out)
       refine start_ (n := 17) (S := fun w' => w'.cell? ⟨gb396, 0, none⟩ = some (.slice A395_0 ((rd_T63 l0 x26_2).f0).length c395_0) ∧ w'.cell? ⟨gb396, 1, none⟩ = some (.int .i64 ((rd_T63 l0 x26_2).f1))) (ds := []) (bt 17 0) (by kernel_rfl) rfl rfl ⟨(blk_cell BK396.out 0).trans rfl, (blk_cell BK396.out 1).trans rfl⟩ (fun hHeld => ?_); refine with_tabW impl_FindOpen.tab13 impl_FindOpen.bits13 (fun HT_ HW_ => ?_)
       generalize w42.drew = w43 at BK396 HB hHeld ⊢
       refine qm 0 31 (bt 17 1) rfl rfl HT_.out HW_.out hHeld ?_
       refine qo 1 (some 32) (bt 17 3) rfl rfl HT_.out fun K hK => ?_
       refine qg Try.func47 #[.agg #[.slice A395_0 ((rd_T63 l0 x26_2).f0).length c395_0, .int .i64 ((rd_T63 l0 x26_2).f1)]] rfl rfl ?_
       with_reducible refine (impl_freePages.calls k2 _ _ ((rd_T63 l0 x26_2).f0) ((rd_T63 l0 x26_2).f1) t397 _ ?side1 ?side2 A19.out).mono ?_
       (case side1 => exact pc (Kd.C_below HR395_0.out HB.out))
       (case side2 => exact HC395_0.out)
       rintro e w44 ⟨rfl, hb⟩
       refine ⟨_, rfl, ?_⟩
       replace BK396 := am (blk_below (pb BK396.out) hb)
       replace HB := am (below_step (bg1 HB.out GE396.out) hb)
       clear hb
       refine hK.out _ _ ⟨(blk_cell BK396.out 0).trans rfl, (blk_cell BK396.out 1).trans rfl⟩ (fun hHeld => ?_)
       clear hK K
       refine qn (some 32) ?_
       refine qj 2 33 (bt 17 7) rfl rfl HT_.out ?_
       refine qj 3 34 (bt 17 15) rfl rfl HT_.out ?_
       refine qv 4 35 (bt 17 31) rfl rfl HT_.out ?_
       refine qv 5 36 (bt 17 63) rfl rfl HT_.out ?_
       refine qv 6 37 (bt 17 127) rfl rfl HT_.out ?_
       refine qv 7 38 (bt 17 255) rfl rfl HT_.out ?_
       refine qv 8 39 (bt 17 511) rfl rfl HT_.out ?_
       refine qv 9 40 (bt 17 1023) rfl rfl HT_.out ?_
       refine qv 10 41 (bt 17 2047) rfl rfl HT_.out ?_
       refine qv 11 42 (bt 17 4095) rfl rfl HT_.out ?_
       refine qv 12 43 (bt 17 8191) rfl rfl HT_.out ?_
       refine qv 13 44 (bt 17 16383) rfl rfl HT_.out ?_
       refine qv 14 45 (bt 17 32767) rfl rfl HT_.out ?_
       refine qv 15 46 (bt 17 65535) rfl rfl HT_.out ?_
       refine qj 16 47 (bt 17 131071) rfl rfl HT_.out ?_
       refine done_ (done_of HT_.out (by kernel_rfl)) ?_
       try go_wp2
       go_roundg k2
       case measure => have := HK1.out; have := HK2.out; omega
       case rel => exact ⟨(x6_2), (x7_2), (wrap64 (x26_2 + 1)), rf, rf, rf, H', ⟨by have := HK1.out; have := HK2.out; omega⟩, ⟨bg1 HB.out GE396.out⟩⟩
     rw [if_pos c20] at H
     have c20b0 : (t397 == 4) = true := beq_iff_eq.mpr c20
     have c20b1 : (t397 != 4) = false := bne_eq_false_iff_eq.mpr c20
     clear c20
     by_cases c21 : x7_2 = true
     rotate_left
     · replace c21 := Bool.eq_false_iff.mpr c21
       subst c21
       rw [if_neg (show ¬ (false = true) by decide)] at H
       have H' := am H
       clear H
       have p395 : 0 ≤ (x26_2 : Int) := ofb
       have q395 : x26_2 < (l0.length : Int) := ofb
       obtain ⟨ad395, A395_0, c395_0, e395, hx395_0, hx395_1, hl395_0, hi395_0⟩ := at_T63 HR0.out x26_2 p395 q395
       cases e395
       replace hx395_0 := up HB.out hx395_0
       replace hx395_1 := up HB.out hx395_1
       have HR395_0 := am hi395_0
       have HC395_0 := am hl395_0
       clear hi395_0 hl395_0
       replace p395 := eq_true p395
       replace q395 := eq_true q395
       try go_wp2_with (first | (refine bx 9 #[.slice none 0 0, .int .i64 0] 63 rfl ?_; intro gb396 hg w35 hbox hb; have BK396 := am (hbox); have GW396 := am (ge hg (ph HB.out)); have GE396 := GW396; replace HB := am (below_step (ph HB.out) hb); clear hb hbox hg; obtain ⟨hcz36_0, hcz36_1⟩ := b2 BK396.out; obtain ⟨hfz36_0, hfz36_1⟩ := f2 BK396.out))
       have n0_ : Aside0 (((w35.setCell ⟨gb396, 0, none⟩ (.slice A395_0 ((rd_T63 l0 x26_2).f0).length c395_0)).setCell ⟨gb396, 1, none⟩ (.int .i64 ((rd_T63 l0 x26_2).f1))).heap[gb396]? = some (.cells #[.slice A395_0 ((rd_T63 l0 x26_2).f0).length c395_0, .int .i64 ((rd_T63 l0 x26_2).f1)] 63 (0, 0))) := ⟨bp2 (pb BK396.out)⟩
       have n1_ : Aside0 (Below w.heap.size w ((w35.setCell ⟨gb396, 0, none⟩ (.slice A395_0 ((rd_T63 l0 x26_2).f0).length c395_0)).setCell ⟨gb396, 1, none⟩ (.int .i64 ((rd_T63 l0 x26_2).f1)))) := ⟨bg1 HB.out GE396.out⟩
       (try clear BK396)
       (try clear HB)
       generalize ((w35.setCell ⟨gb396, 0, none⟩ (.slice A395_0 ((rd_T63 l0 x26_2).f0).length c395_0)).setCell ⟨gb396, 1, none⟩ (.int .i64 ((rd_T63 l0 x26_2).f1))) = w37 at n0_ n1_ ⊢
       have BK396 := n0_
       have HB := n1_
       clear n0_ n1_
       replace BK396 := am (blk_drew BK396.out)
       replace HB := am (below_drew1 HB.out)
       refine start_ (n := 17) (S := fun w' => w'.cell? ⟨gb396, 0, none⟩ = some (.slice A395_0 ((rd_T63 l0 x26_2).f0).length c395_0) ∧ w'.cell? ⟨gb396, 1, none⟩ = some (.int .i64 ((rd_T63 l0 x26_2).f1))) (ds := []) (bt 17 0) (by kernel_rfl) rfl rfl ⟨(blk_cell BK396.out 0).trans rfl, (blk_cell BK396.out 1).trans rfl⟩ (fun hHeld => ?_); refine with_tabW impl_FindOpen.tab13 impl_FindOpen.bits13 (fun HT_ HW_ => ?_)
       generalize w37.drew = w38 at BK396 HB hHeld ⊢
       refine qm 0 31 (bt 17 1) rfl rfl HT_.out HW_.out hHeld ?_
       refine qo 1 (some 32) (bt 17 3) rfl rfl HT_.out fun K hK => ?_
       refine qg Try.func47 #[.agg #[.slice A395_0 ((rd_T63 l0 x26_2).f0).length c395_0, .int .i64 ((rd_T63 l0 x26_2).f1)]] rfl rfl ?_
       with_reducible refine (impl_freePages.calls k2 _ _ ((rd_T63 l0 x26_2).f0) ((rd_T63 l0 x26_2).f1) t397 _ ?side1 ?side2 A19.out).mono ?_
       (case side1 => exact pc (Kd.C_below HR395_0.out HB.out))
       (case side2 => exact HC395_0.out)
       rintro e w39 ⟨rfl, hb⟩
       refine ⟨_, rfl, ?_⟩
       replace BK396 := am (blk_below (pb BK396.out) hb)
       replace HB := am (below_step (bg1 HB.out GE396.out) hb)
       clear hb
       refine hK.out _ _ ⟨(blk_cell BK396.out 0).trans rfl, (blk_cell BK396.out 1).trans rfl⟩ (fun hHeld => ?_)
       clear hK K
       refine qn (some 32) ?_
       refine qj 2 33 (bt 17 7) rfl rfl HT_.out ?_
       refine qj 3 34 (bt 17 15) rfl rfl HT_.out ?_
       refine qj 4 35 (bt 17 31) rfl rfl HT_.out ?_
       refine qj 5 36 (bt 17 63) rfl rfl HT_.out ?_
       refine qj 6 37 (bt 17 127) rfl rfl HT_.out ?_
       refine qv 7 38 (bt 17 255) rfl rfl HT_.out ?_
       refine qv 8 39 (bt 17 511) rfl rfl HT_.out ?_
       refine qv 9 40 (bt 17 1023) rfl rfl HT_.out ?_
       refine qv 10 41 (bt 17 2047) rfl rfl HT_.out ?_
       refine qv 11 42 (bt 17 4095) rfl rfl HT_.out ?_
       refine qv 12 43 (bt 17 8191) rfl rfl HT_.out ?_
       refine qv 13 44 (bt 17 16383) rfl rfl HT_.out ?_
       refine qv 14 45 (bt 17 32767) rfl rfl HT_.out ?_
       refine qj 15 46 (bt 17 65535) rfl rfl HT_.out ?_
       refine qj 16 47 (bt 17 131071) rfl rfl HT_.out ?_
       refine done_ (done_of HT_.out (by kernel_rfl)) ?_
       try go_wp2
       go_roundg k2
       case measure => have := HK1.out; have := HK2.out; omega
       case rel => exact ⟨(x26_2), (true), (wrap64 (x26_2 + 1)), rf, rf, rf, H', ⟨by have := HK1.out; have := HK2.out; omega⟩, ⟨bg1 HB.out GE396.out⟩⟩
     subst c21
     rw [if_pos rfl] at H
     obtain ⟨c22b0, H⟩ := ifd H
     obtain ⟨c23b0, H⟩ := ifd H
     by_cases c24 : ((rd_T63 l0 x26_2).f1) < ((rd_T63 l0 x6_2).f1)
     rotate_left
     · rw [if_neg c24] at H
       have c24b0 := decide_eq_false c24
       clear c24
       have H' := am H
       clear H
       have p395 : 0 ≤ (x26_2 : Int) := ofb
       have q395 : x26_2 < (l0.length : Int) := ofb
       obtain ⟨ad395, A395_0, c395_0, e395, hx395_0, hx395_1, hl395_0, hi395_0⟩ := at_T63 HR0.out x26_2 p395 q395
       cases e395
       replace hx395_0 := up HB.out hx395_0
       replace hx395_1 := up HB.out hx395_1
       have HR395_0 := am hi395_0
       have HC395_0 := am hl395_0
       clear hi395_0 hl395_0
       replace p395 := eq_true p395
       replace q395 := eq_true q395
       try go_wp2_with (first | (refine bx 9 #[.slice none 0 0, .int .i64 0] 63 rfl ?_; intro gb396 hg w30 hbox hb; have BK396 := am (hbox); have GW396 := am (ge hg (ph HB.out)); have GE396 := GW396; replace HB := am (below_step (ph HB.out) hb); clear hb hbox hg; obtain ⟨hcz31_0, hcz31_1⟩ := b2 BK396.out; obtain ⟨hfz31_0, hfz31_1⟩ := f2 BK396.out))
       have n0_ : Aside0 (((w30.setCell ⟨gb396, 0, none⟩ (.slice A395_0 ((rd_T63 l0 x26_2).f0).length c395_0)).setCell ⟨gb396, 1, none⟩ (.int .i64 ((rd_T63 l0 x26_2).f1))).heap[gb396]? = some (.cells #[.slice A395_0 ((rd_T63 l0 x26_2).f0).length c395_0, .int .i64 ((rd_T63 l0 x26_2).f1)] 63 (0, 0))) := ⟨bp2 (pb BK396.out)⟩
       have n1_ : Aside0 (Below w.heap.size w ((w30.setCell ⟨gb396, 0, none⟩ (.slice A395_0 ((rd_T63 l0 x26_2).f0).length c395_0)).setCell ⟨gb396, 1, none⟩ (.int .i64 ((rd_T63 l0 x26_2).f1)))) := ⟨bg1 HB.out GE396.out⟩
       (try clear BK396)
       (try clear HB)
       generalize ((w30.setCell ⟨gb396, 0, none⟩ (.slice A395_0 ((rd_T63 l0 x26_2).f0).length c395_0)).setCell ⟨gb396, 1, none⟩ (.int .i64 ((rd_T63 l0 x26_2).f1))) = w32 at n0_ n1_ ⊢
       have BK396 := n0_
       have HB := n1_
       clear n0_ n1_
       replace BK396 := am (blk_drew BK396.out)
       replace HB := am (below_drew1 HB.out)
       have p398 : 0 ≤ (x6_2 : Int) := ofb
       have q398 : x6_2 < (l0.length : Int) := ofb
       obtain ⟨ad398, A398_0, c398_0, e398, hx398_0, hx398_1, hl398_0, hi398_0⟩ := at_T63 HR0.out x6_2 p398 q398
       have hw398_1 := hx398_1
       have hw398_0 := hx398_0
       obtain rfl : ad395 = ad398 := (by injection e398)
       replace hx398_0 := up HB.out hx398_0
       replace hx398_1 := up HB.out hx398_1
       have HR398_0 := am hi398_0
       have HC398_0 := am hl398_0
       clear hi398_0 hl398_0
       replace p398 := eq_true p398
       replace q398 := eq_true q398
       refine start_ (n := 17) (S := fun w' => w'.cell? ⟨gb396, 0, none⟩ = some (.slice A395_0 ((rd_T63 l0 x26_2).f0).length c395_0) ∧ w'.cell? ⟨gb396, 1, none⟩ = some (.int .i64 ((rd_T63 l0 x26_2).f1)) ∧ w'.cell? (ad395.add ((x6_2).toNat * 2)) = some (.slice A398_0 ((rd_T63 l0 x6_2).f0).length c398_0) ∧ w'.cell? ⟨(ad395.add ((x6_2).toNat * 2)).block, (ad395.add ((x6_2).toNat * 2)).off + 1, none⟩ = some (.int .i64 ((rd_T63 l0 x6_2).f1))) (ds := []) (bt 17 0) (by kernel_rfl) rfl rfl ⟨(blk_cell BK396.out 0).trans rfl, (blk_cell BK396.out 1).trans rfl, ((HB.out.cell (World.block_lt_of_cell? w _ hw398_0)).trans hw398_0), ((HB.out.cell (World.block_lt_of_cell? w _ hw398_1)).trans hw398_1)⟩ (fun hHeld => ?_); refine with_tabW impl_FindOpen.tab13 impl_FindOpen.bits13 (fun HT_ HW_ => ?_)
       generalize w32.drew = w33 at BK396 HB HR398_0 hx398_0 hx398_1 hHeld ⊢
       refine qm 0 31 (bt 17 1) rfl rfl HT_.out HW_.out hHeld ?_
       refine qo 1 (some 32) (bt 17 3) rfl rfl HT_.out fun K hK => ?_
       refine qg Try.func47 #[.agg #[.slice A395_0 ((rd_T63 l0 x26_2).f0).length c395_0, .int .i64 ((rd_T63 l0 x26_2).f1)]] rfl rfl ?_
       with_reducible refine (impl_freePages.calls k2 _ _ ((rd_T63 l0 x26_2).f0) ((rd_T63 l0 x26_2).f1) t397 _ ?side1 ?side2 A19.out).mono ?_
       (case side1 => exact pc (Kd.C_below HR395_0.out HB.out))
       (case side2 => exact HC395_0.out)
       rintro e w34 ⟨rfl, hb⟩
       refine ⟨_, rfl, ?_⟩
       replace BK396 := am (blk_below (pb BK396.out) hb)
       replace HB := am (below_step (bg1 HB.out GE396.out) hb)
       clear hb
       refine hK.out _ _ ⟨(blk_cell BK396.out 0).trans rfl, (blk_cell BK396.out 1).trans rfl, ((HB.out.cell (World.block_lt_of_cell? w _ hw398_0)).trans hw398_0), ((HB.out.cell (World.block_lt_of_cell? w _ hw398_1)).trans hw398_1)⟩ (fun hHeld => ?_)
       clear hK K
       refine qn (some 32) ?_
       refine qj 2 33 (bt 17 7) rfl rfl HT_.out ?_
       refine qj 3 34 (bt 17 15) rfl rfl HT_.out ?_
       refine qj 4 35 (bt 17 31) rfl rfl HT_.out ?_
       refine qj 5 36 (bt 17 63) rfl rfl HT_.out ?_
       refine qj 6 37 (bt 17 127) rfl rfl HT_.out ?_
       refine qj 7 38 (bt 17 255) rfl rfl HT_.out ?_
       refine qj 9 40 (bt 17 767) rfl rfl HT_.out ?_
       refine qj 10 41 (bt 17 1791) rfl rfl HT_.out ?_
       refine qj 11 42 (bt 17 3839) rfl rfl HT_.out ?_
       refine qj 12 43 (bt 17 7935) rfl rfl HT_.out ?_
       refine qm 8 39 (bt 17 8191) rfl rfl HT_.out HW_.out hHeld ?_
       refine qm 13 44 (bt 17 16383) rfl rfl HT_.out HW_.out hHeld ?_
       refine qj 14 45 (bt 17 32767) rfl rfl HT_.out ?_
       refine qj 15 46 (bt 17 65535) rfl rfl HT_.out ?_
       refine qj 16 47 (bt 17 131071) rfl rfl HT_.out ?_
       refine done_ (done_of HT_.out (by kernel_rfl)) ?_
       try go_wp2
       go_roundg k2
       case measure => have := HK1.out; have := HK2.out; omega
       case rel => exact ⟨(x6_2), (true), (wrap64 (x26_2 + 1)), rf, rf, rf, H', ⟨by have := HK1.out; have := HK2.out; omega⟩, ⟨bg1 HB.out GE396.out⟩⟩
     rw [if_pos c24] at H
     have c24b0 := decide_eq_true c24
     clear c24
     have H' := am H
     clear H
     have p395 : 0 ≤ (x26_2 : Int) := ofb
     have q395 : x26_2 < (l0.length : Int) := ofb
     obtain ⟨ad395, A395_0, c395_0, e395, hx395_0, hx395_1, hl395_0, hi395_0⟩ := at_T63 HR0.out x26_2 p395 q395
     cases e395
     replace hx395_0 := up HB.out hx395_0
     replace hx395_1 := up HB.out hx395_1
     have HR395_0 := am hi395_0
     have HC395_0 := am hl395_0
     clear hi395_0 hl395_0
     replace p395 := eq_true p395
     replace q395 := eq_true q395
     try go_wp2_with (first | (refine bx 9 #[.slice none 0 0, .int .i64 0] 63 rfl ?_; intro gb396 hg w25 hbox hb; have BK396 := am (hbox); have GW396 := am (ge hg (ph HB.out)); have GE396 := GW396; replace HB := am (below_step (ph HB.out) hb); clear hb hbox hg; obtain ⟨hcz26_0, hcz26_1⟩ := b2 BK396.out; obtain ⟨hfz26_0, hfz26_1⟩ := f2 BK396.out))
     have n0_ : Aside0 (((w25.setCell ⟨gb396, 0, none⟩ (.slice A395_0 ((rd_T63 l0 x26_2).f0).length c395_0)).setCell ⟨gb396, 1, none⟩ (.int .i64 ((rd_T63 l0 x26_2).f1))).heap[gb396]? = some (.cells #[.slice A395_0 ((rd_T63 l0 x26_2).f0).length c395_0, .int .i64 ((rd_T63 l0 x26_2).f1)] 63 (0, 0))) := ⟨bp2 (pb BK396.out)⟩
     have n1_ : Aside0 (Below w.heap.size w ((w25.setCell ⟨gb396, 0, none⟩ (.slice A395_0 ((rd_T63 l0 x26_2).f0).length c395_0)).setCell ⟨gb396, 1, none⟩ (.int .i64 ((rd_T63 l0 x26_2).f1)))) := ⟨bg1 HB.out GE396.out⟩
     (try clear BK396)
     (try clear HB)
     generalize ((w25.setCell ⟨gb396, 0, none⟩ (.slice A395_0 ((rd_T63 l0 x26_2).f0).length c395_0)).setCell ⟨gb396, 1, none⟩ (.int .i64 ((rd_T63 l0 x26_2).f1))) = w27 at n0_ n1_ ⊢
     have BK396 := n0_
     have HB := n1_
     clear n0_ n1_
     replace BK396 := am (blk_drew BK396.out)
     replace HB := am (below_drew1 HB.out)
     have p398 : 0 ≤ (x6_2 : Int) := ofb
     have q398 : x6_2 < (l0.length : Int) := ofb
     obtain ⟨ad398, A398_0, c398_0, e398, hx398_0, hx398_1, hl398_0, hi398_0⟩ := at_T63 HR0.out x6_2 p398 q398
     have hw398_1 := hx398_1
     have hw398_0 := hx398_0
     obtain rfl : ad395 = ad398 := (by injection e398)
     replace hx398_0 := up HB.out hx398_0
     replace hx398_1 := up HB.out hx398_1
     have HR398_0 := am hi398_0
     have HC398_0 := am hl398_0
     clear hi398_0 hl398_0
     replace p398 := eq_true p398
     replace q398 := eq_true q398
     refine start_ (n := 17) (S := fun w' => w'.cell? ⟨gb396, 0, none⟩ = some (.slice A395_0 ((rd_T63 l0 x26_2).f0).length c395_0) ∧ w'.cell? ⟨gb396, 1, none⟩ = some (.int .i64 ((rd_T63 l0 x26_2).f1)) ∧ w'.cell? (ad395.add ((x6_2).toNat * 2)) = some (.slice A398_0 ((rd_T63 l0 x6_2).f0).length c398_0) ∧ w'.cell? ⟨(ad395.add ((x6_2).toNat * 2)).block, (ad395.add ((x6_2).toNat * 2)).off + 1, none⟩ = some (.int .i64 ((rd_T63 l0 x6_2).f1))) (ds := []) (bt 17 0) (by kernel_rfl) rfl rfl ⟨(blk_cell BK396.out 0).trans rfl, (blk_cell BK396.out 1).trans rfl, ((HB.out.cell (World.block_lt_of_cell? w _ hw398_0)).trans hw398_0), ((HB.out.cell (World.block_lt_of_cell? w _ hw398_1)).trans hw398_1)⟩ (fun hHeld => ?_); refine with_tabW impl_FindOpen.tab13 impl_FindOpen.bits13 (fun HT_ HW_ => ?_)
     generalize w27.drew = w28 at BK396 HB HR398_0 hx398_0 hx398_1 hHeld ⊢
     refine qm 0 31 (bt 17 1) rfl rfl HT_.out HW_.out hHeld ?_
     refine qo 1 (some 32) (bt 17 3) rfl rfl HT_.out fun K hK => ?_
     refine qg Try.func47 #[.agg #[.slice A395_0 ((rd_T63 l0 x26_2).f0).length c395_0, .int .i64 ((rd_T63 l0 x26_2).f1)]] rfl rfl ?_
     with_reducible refine (impl_freePages.calls k2 _ _ ((rd_T63 l0 x26_2).f0) ((rd_T63 l0 x26_2).f1) t397 _ ?side1 ?side2 A19.out).mono ?_
     (case side1 => exact pc (Kd.C_below HR395_0.out HB.out))
     (case side2 => exact HC395_0.out)
     rintro e w29 ⟨rfl, hb⟩
     refine ⟨_, rfl, ?_⟩
     replace BK396 := am (blk_below (pb BK396.out) hb)
     replace HB := am (below_step (bg1 HB.out GE396.out) hb)
     clear hb
     refine hK.out _ _ ⟨(blk_cell BK396.out 0).trans rfl, (blk_cell BK396.out 1).trans rfl, ((HB.out.cell (World.block_lt_of_cell? w _ hw398_0)).trans hw398_0), ((HB.out.cell (World.block_lt_of_cell? w _ hw398_1)).trans hw398_1)⟩ (fun hHeld => ?_)
     clear hK K
     refine qn (some 32) ?_
     refine qj 2 33 (bt 17 7) rfl rfl HT_.out ?_
     refine qj 3 34 (bt 17 15) rfl rfl HT_.out ?_
     refine qj 4 35 (bt 17 31) rfl rfl HT_.out ?_
     refine qj 5 36 (bt 17 63) rfl rfl HT_.out ?_
     refine qj 6 37 (bt 17 127) rfl rfl HT_.out ?_
     refine qj 7 38 (bt 17 255) rfl rfl HT_.out ?_
     refine qj 9 40 (bt 17 767) rfl rfl HT_.out ?_
     refine qj 10 41 (bt 17 1791) rfl rfl HT_.out ?_
     refine qj 11 42 (bt 17 3839) rfl rfl HT_.out ?_
     refine qj 12 43 (bt 17 7935) rfl rfl HT_.out ?_
     refine qm 8 39 (bt 17 8191) rfl rfl HT_.out HW_.out hHeld ?_
     refine qm 13 44 (bt 17 16383) rfl rfl HT_.out HW_.out hHeld ?_
     refine qj 14 45 (bt 17 32767) rfl rfl HT_.out ?_
     refine qj 15 46 (bt 17 65535) rfl rfl HT_.out ?_
     refine qj 16 47 (bt 17 131071) rfl rfl HT_.out ?_
     refine done_ (done_of HT_.out (by kernel_rfl)) ?_
     try go_wp2
     go_roundg k2
     case measure => have := HK1.out; have := HK2.out; omega
     case rel => exact ⟨(x26_2), (true), (wrap64 (x26_2 + 1)), rf, rf, rf, H', ⟨by have := HK1.out; have := HK2.out; omega⟩, ⟨bg1 HB.out GE396.out⟩⟩
attribute [local go_sem] Oper.semAt_some
def oldN (s : Spans) : Nat → Nat
 | 0 => 0
 | n + 1 => if (s n).2 < (s (oldN s n)).2 then n else oldN s n
theorem oldN_lt (s : Spans) : ∀ n, n ≤ 4 → oldN s n < 4
 | 0, _ => by simp [oldN]
 | n + 1, h => by
  have := oldN_lt s n (by omega)
  rw [oldN]
  split <;> omega
def impl_FindOld.f (l0 : List (S63)) : Option (Int) := some (if flashOkB l0 = true then ((oldN (spansF l0) 4 : Nat) : Int) else -1)
theorem flash_four {l : List S63} (h : flashOkB l = true) : l.length = 4 := by
 unfold flashOkB at h
 rw [Bool.and_eq_true, decide_eq_true_eq] at h
 omega
set_option maxRecDepth 100000 in
set_option maxHeartbeats 4000000 in
theorem impl_FindOld.calls (A0 : Option Addr) (c0 : Nat) (l0 : List (S63)) (r : Int) (w : World) (hr0 : Kd.C k63 w A0 l0.length l0) (hc0 : l0.length ≤ c0) (h : impl_FindOld.f l0 = some r) :
 Calls Try.prog 27 #[.slice A0 l0.length c0] w fun e w' => e = .returned (.int .i64 r) ∧ Below w.heap.size w w' := by
 obtain rfl := Option.some.inj h
 clear h
 refine (callsIn_wide (n := 3)).1 ?_
 have hok := callsIn_wide (n := 2).2 (impl_FlashOk.calls A0 c0 l0 _ w hr0 hc0 rfl)
 have hu := Try.underlying86
 cases hf : flashOkB l0 with
 | false =>
  rw [hf] at hok
  refine callsIn_of_wp Try.func27 rfl trivial ?_ rfl
  simp only [Try.ntmps27, List.size_toArray, List.length_cons, List.length_nil, Nat.reduceAdd, Nat.reduceSub, Array.replicate_succ, Array.replicate_zero, List.push_toArray, List.append_toArray, List.nil_append, List.cons_append]
  gi_wp2_with (first | (refine ⟨trivial, ?_⟩; gi_at_call 36; refine hok.mono ?_; rintro e w1 ⟨rfl, hb⟩))
  go_ret
  exact ⟨rfl, hb⟩
 | true =>
  rw [hf] at hok
  have hl := flash_four hf
  rw [if_pos rfl]
  have hsp : ∀ W, Below w.heap.size w W → CallsIn Fence.wide 2 Try.prog 44 #[.slice A0 4 c0] W fun e w' => ∃ g, e = .returned (.slice (some ⟨g, 0, none⟩) 4 4) ∧ SpansBox w' g (spansF l0) ∧ W.heap.size ≤ g ∧ Below W.heap.size W w' := fun W hb => callsIn_wide.2 (spansOf_any A0 c0 l0 W (Kd.C_below hr0 hb) hl)
  generalize spansF l0 = s at hsp ⊢
  rw [hl] at hok ⊢
  refine callsIn_of_wp Try.func27 rfl trivial ?_ rfl
  simp only [Try.ntmps27, List.size_toArray, List.length_cons, List.length_nil, Nat.reduceAdd, Nat.reduceSub, Array.replicate_succ, Array.replicate_zero, List.push_toArray, List.append_toArray, List.nil_append, List.cons_append]
  gi_wp2_with (first | (refine ⟨trivial, ?_⟩; gi_at_call 36; refine hok.mono ?_; rintro e w1 ⟨rfl, hb⟩) | (refine ⟨trivial, ?_⟩; gi_at_call 44; refine (hsp _ hb).mono ?_; rintro e w2 ⟨g, rfl, hsb, hg, hb2⟩))
  have hB0 := below_then hb hb.size hb2
  gi_loopw [14, 3] (fun v14 v3 wr => ∃ i : Nat, v14 = .int .i64 (i : Int) ∧ v3 = .int .i64 ((oldN s i : Nat) : Int) ∧ i ≤ 4 ∧ SpansBox wr g s ∧ Below w.heap.size w wr) (fun v14 _ _ => 4 - (intOf v14).toNat)
  case atStart => exact ⟨0, rfl, rfl, by omega, hsb, hB0⟩
  case round =>
   obtain ⟨i, rfl, rfl, hi, hbx, hB⟩ := hrel
   have ho := oldN_lt s i hi
   by_cases ci : i < 4
   rotate_left
   · obtain rfl : i = 4 := by omega
     gi_wp2
     go_ret
     exact ⟨rfl, hB⟩
   have cib : decide ((i : Int) < 4) = true := decide_eq_true (by omega)
   have p1 : 0 ≤ (i : Int) := by omega
   have q1 : (i : Int) < 4 := by omega
   have p2 : 0 ≤ ((oldN s i : Nat) : Int) := by omega
   have q2 : ((oldN s i : Nat) : Int) < 4 := by omega
   obtain ⟨h1, h2⟩ := hbx.at_ i ci
   obtain ⟨h3, h4⟩ := hbx.at_ (oldN s i) ho
   have hglt := blk_lt hbx
   have hst : oldN s (i + 1) = if (s i).2 < (s (oldN s i)).2 then i else oldN s i := rfl
   have hw1 : wrap64 ((i : Int) + 1) = ((i + 1 : Nat) : Int) := by rw [IntWalk.wrap64_in _ (by omega)]; omega
   by_cases hlt : (s i).2 < (s (oldN s i)).2
   · have hlb : decide ((s i).2 < (s (oldN s i)).2) = true := decide_eq_true hlt
     rw [if_pos hlt] at hst
     gi_wp2
     gi_region
     all_goals gi_wp2
     refine ⟨⟨i + 1, by simp, by rw [hst], by omega, blk_drew (blk_alloc hbx _), below_drew (below_alloc hB _)⟩, by simp [intOf]; omega⟩
   have hlb : decide ((s i).2 < (s (oldN s i)).2) = false := decide_eq_false hlt
   rw [if_neg hlt] at hst
   gi_wp2
   gi_region
   all_goals gi_wp2
   refine ⟨⟨i + 1, by simp, by rw [hst], by omega, blk_drew (blk_alloc hbx _), below_drew (below_alloc hB _)⟩, by simp [intOf]; omega⟩
attribute [local go_sem] Oper.semAt_some
def lastStep (a : Int) (r : S32) (p : S65) : S32 := if p.f0 = 1 ∧ p.f1.f2 = a ∧ p.f1.f1 > r.f1 then p.f1 else r
def lastA (l : List S63) (a : Int) : S32 := (pagesL l).foldl (lastStep a) ⟨0, 0, 0, 0⟩
def impl_FindLast.f (l0 : List (S63)) (a1 : Int) : Option (Int × Int × Int × Int × Bool) := some (if addrB a1 = true ∧ flashOkB l0 = true then ((lastA l0 a1).f0, (lastA l0 a1).f1, (lastA l0 a1).f2, (lastA l0 a1).f3, decide ((lastA l0 a1).f1 > 0)) else (0, 0, 0, 0, false))
def lastOf (a : Int) (pre : List AnyPage) : S32 := pre.foldl (fun m x => lastStep a m x.1.2.2) ⟨0, 0, 0, 0⟩
theorem lastOf_snoc (a : Int) (pre : List AnyPage) (x : AnyPage) : lastOf a (pre ++ [x]) = lastStep a (lastOf a pre) x.1.2.2 := by simp [lastOf]
theorem lastOf_all {a : Int} {ys : List AnyPage} {l0 : List S63} (h : ys.map (·.1) = spotsF 0 l0) : lastOf a ys = lastA l0 a := by
 unfold lastOf lastA pagesL
 rw [← h, List.foldl_map, List.foldl_map]
set_option maxRecDepth 100000 in
set_option maxHeartbeats 4000000 in
theorem impl_FindLast.calls (A0 : Option Addr) (c0 : Nat) (l0 : List (S63)) (a1 : Int) (r1 : Int) (r2 : Int) (r3 : Int) (r4 : Int) (r5 : Bool) (w : World) (hr0 : Kd.C k63 w A0 l0.length l0) (hc0 : l0.length ≤ c0) (h : impl_FindLast.f l0 a1 = some (r1, r2, r3, r4, r5)) :
 Calls Try.prog 15 #[.slice A0 l0.length c0, .int .i64 a1] w fun e w' => e = .returned (.tuple #[.agg #[.int .i64 r1, .int .i64 r2, .int .i64 r3, .int .i64 r4], .bool r5]) ∧ Below w.heap.size w w' := by
 have hu := Try.underlying32
 refine (callsIn_wide (n := 3)).1 ?_
 have hak : ∀ w, CallsIn Fence.wide 2 Try.prog 35 #[.int .i64 a1] w fun e w' => e = .returned (.bool (addrB a1)) ∧ w = w' := fun w => callsIn_wide.2 (addrOk_any a1 w)
 unfold impl_FindLast.f at h
 have h := Option.some.inj h
 have b3 := Boxed.new w 3 (.int .i64 a1)
 have b4 : RecBox ((w.alloc (.cells #[.int .i64 a1] 3)).alloc (.cells #[.int .i64 0, .int .i64 0, .int .i64 0, .int .i64 0] 32)) (w.heap.size + 1) ⟨0, 0, 0, 0⟩ := by have := blk_new (w.alloc (.cells #[.int .i64 a1] 3)) (.cells #[.int .i64 0, .int .i64 0, .int .i64 0, .int .i64 0] 32); rw [World.size_alloc] at this; exact this
 replace b3 := b3.alloc (.cells #[.int .i64 0, .int .i64 0, .int .i64 0, .int .i64 0] 32)
 have hbw : Below w.heap.size w ((w.alloc (.cells #[.int .i64 a1] 3)).alloc (.cells #[.int .i64 0, .int .i64 0, .int .i64 0, .int .i64 0] 32)) := ((Below.refl _ w).alloc (Nat.le_refl _) _).alloc (by simp) _
 cases ha : addrB a1 with
 | false =>
  simp only [ha] at hak
  rw [ha, if_neg (by simp)] at h
  cases h
  refine callsIn_of_wp_marks Try.func15 rfl trivial ?_ rfl
  simp only [Try.ntmps15, List.size_toArray, List.length_cons, List.length_nil, Nat.reduceAdd, Nat.reduceSub, Array.replicate_succ, Array.replicate_zero, List.push_toArray, List.append_toArray, List.nil_append, List.cons_append]
  gi_wp2_with (first | (refine ⟨trivial, ?_⟩; gi_at_call 35; refine (hak _).mono ?_; rintro e w1 ⟨rfl, rfl⟩) | (refine And.intro (show Fence.wide.fn 36 from trivial) ?_))
  exact ⟨_, results_ct rfl _ _ (w.heap.size + 1) _ _ _ _ rfl b4 hu rfl (by kernel_rfl), rfl, hbw⟩
 | true =>
  simp only [ha] at hak
  have hok := callsIn_wide (n := 2).2 (impl_FlashOk.calls A0 c0 l0 _ _ (Kd.C_below hr0 hbw) hc0 rfl)
  cases hf : flashOkB l0 with
  | false =>
   rw [hf] at hok
   rw [hf, if_neg (by simp)] at h
   cases h
   refine callsIn_of_wp_marks Try.func15 rfl trivial ?_ rfl
   simp only [Try.ntmps15, List.size_toArray, List.length_cons, List.length_nil, Nat.reduceAdd, Nat.reduceSub, Array.replicate_succ, Array.replicate_zero, List.push_toArray, List.append_toArray, List.nil_append, List.cons_append]
   gi_wp2_with (first | (refine ⟨trivial, ?_⟩; gi_at_call 35; refine (hak _).mono ?_; rintro e w1 ⟨rfl, rfl⟩) | (refine ⟨trivial, ?_⟩; gi_at_call 36; refine hok.mono ?_; rintro e w1 ⟨rfl, hb⟩; have b4' : RecBox w1 (w.heap.size + 1) ⟨0, 0, 0, 0⟩ := blk_below b4 hb; obtain ⟨hq0, hq1, hq2, hq3⟩ := b4'.cells; have hg0 := b4'.frozen 0; have hg1 := b4'.frozen 1; have hg2 := b4'.frozen 2; have hg3 := b4'.frozen 3))
   exact ⟨_, results_ct rfl _ _ (w.heap.size + 1) _ _ _ _ rfl (b4'.put ⟨0, 0, 0, 0⟩) hu rfl (by kernel_rfl), rfl, below_set4 (below_then hbw hbw.size hb) (by omega) ⟨0, 0, 0, 0⟩⟩
  | true =>
   rw [hf] at hok
   rw [ha, hf, if_pos ⟨rfl, rfl⟩] at h
   refine callsIn_of_wp_marks Try.func15 rfl trivial ?_ rfl
   simp only [Try.ntmps15, List.size_toArray, List.length_cons, List.length_nil, Nat.reduceAdd, Nat.reduceSub, Array.replicate_succ, Array.replicate_zero, List.push_toArray, List.append_toArray, List.nil_append, List.cons_append]
   gi_wp2_with (first | (refine ⟨trivial, ?_⟩; gi_at_call 35; refine (hak _).mono ?_; rintro e w1 ⟨rfl, rfl⟩) | (refine ⟨trivial, ?_⟩; gi_at_call 36; refine hok.mono ?_; rintro e w1 ⟨rfl, hb⟩) | (refine ⟨trivial, ?_⟩; gi_at_call 37; refine (eachPage_in Fence.wide 2 trivial rfl _ _ _ _).mono ?_; rintro e w2 ⟨rfl, rfl⟩))
   have hs1 := hb.size
   simp only [World.size_alloc] at hs1
   have b3' : Boxed w1 w.heap.size 3 (.int .i64 a1) := blk_below b3 hb
   have b4' : RecBox w1 (w.heap.size + 1) ⟨0, 0, 0, 0⟩ := blk_below b4 hb
   have hbw1 := below_then hbw hbw.size hb
   have bL : RecBox (w1.alloc (.cells #[.int .i64 0, .int .i64 0, .int .i64 0, .int .i64 0] 32)) w1.heap.size ⟨0, 0, 0, 0⟩ := blk_new w1 _
   have bN := Boxed.new (w1.alloc (.cells #[.int .i64 0, .int .i64 0, .int .i64 0, .int .i64 0] 32)) 23 (.slice A0 l0.length c0)
   rw [World.size_alloc] at bN
   have bL2 : RecBox ((w1.alloc (.cells #[.int .i64 0, .int .i64 0, .int .i64 0, .int .i64 0] 32)).alloc (.cells #[.slice A0 l0.length c0] 23)) w1.heap.size ⟨0, 0, 0, 0⟩ := blk_alloc bL _
   have hB0 : Below w.heap.size w ((w1.alloc (.cells #[.int .i64 0, .int .i64 0, .int .i64 0, .int .i64 0] 32)).alloc (.cells #[.slice A0 l0.length c0] 23)) := (hbw1.alloc hbw1.size _).alloc (hbw1.alloc hbw1.size _).size _
   refine wpIn_rangeFunc_ownH (F := Fence.wide) rfl (by decide) (gf := 56) (lb := #[.pointer (some ⟨w1.heap.size + 1, 0, none⟩)]) rfl trivial (enters_of Try.func56 (by kernel_rfl) rfl)
    (eachPage_stops Fence.wide 2 trivial rfl (by decide) (fun _ => True) (w1.heap.size + 1) A0 c0 l0 w _ hr0 (fun _ _ => trivial) hB0 bN.cell) belowK_t (belowK_b hB0.size) (Below.refl _ _) (fun _ => rfl)
    (fun pre W => RecBox W w1.heap.size (lastOf a1 pre) ∧ Boxed W w.heap.size 3 (.int .i64 a1) ∧ RecBox W (w.heap.size + 1) ⟨0, 0, 0, 0⟩ ∧ Below w.heap.size w W) (fun _ _ _ => False)
    (OwnFrom.and (Own.from (RecBox.own _ _) _) (OwnFrom.and (Own.from (boxed_own _ _ _) _) (OwnFrom.and (Own.from (RecBox.own _ _) _) (ownFrom_below (Nat.le_refl _) hB0.size)))) (fun _ _ _ _ _ hs _ _ => hs)
    ⟨bL2, (b3'.alloc _).alloc _, blk_alloc (blk_alloc b4' _) _, hB0⟩
    (fun x a' W => ∃ Bx, w1.heap.size < Bx ∧ PageBox W Bx x.1.2.2 ∧ a' = { tmps := #[.slice A0 l0.length c0, .int .i64 a1, undef, .pointer (some ⟨w.heap.size, 0, none⟩), .pointer (some ⟨w.heap.size + 1, 0, none⟩), .bool false, .pointer (some ⟨w1.heap.size, 0, none⟩), undef, .pointer (some ⟨Bx, 0, none⟩), .int .i64 a1, .bool true, .bool false, .bool false, .slice A0 l0.length c0, .bool true, .bool false, .bool false, undef, .slice A0 l0.length c0, .func (.func 56) #[] #[.pointer (some ⟨w1.heap.size + 1, 0, none⟩)], .agg #[.int .i64 (x.1.1 : Int), .int .i64 (x.1.2.1 : Int)], .agg #[.int .i64 x.1.2.2.f0, .int .i64 x.1.2.2.f1.f0, .int .i64 x.1.2.2.f1.f1, .int .i64 x.1.2.2.f1.f2, .int .i64 x.1.2.2.f1.f3], undef, undef, undef, undef, undef, undef, undef, undef, undef, undef, undef, undef, undef, undef, undef, undef, undef, undef, undef, undef, undef, undef, undef, undef], defers := [] })
    (fun x a' s X Y row hs hg hr => by obtain ⟨Bx, h1, h2, h3⟩ := hs; exact ⟨Bx, h1, PageBox.own Bx _ _ () X Y row h2 hg hr, h3⟩) ?assign ?body ?done ?stop
   case assign =>
    rintro l pre x W K ⟨hbx, hb3, hb4, hB⟩ hK
    gi_wp2
    exact hK _ _ ((KeepsOthers.alloc _ _).from _) ((Below.refl _ W).alloc hB.size _) ⟨blk_alloc hbx _, hb3.alloc _, blk_alloc hb4 _, hB.alloc hB.size _⟩ ⟨W.heap.size, blk_lt hbx, blk_new W _, rfl⟩
   case body =>
    rintro l pre x a' W hl ⟨r, hr⟩ ⟨hbx, hb3, hb4, hB⟩ ⟨Bx, hBx, bX, rfl⟩ hlt
    obtain ⟨hc0_, hc1_, hc2_, hc3_, hc4_⟩ := bX.cells
    have hcl := hb3.cell
    obtain ⟨hq0, hq1, hq2, hq3⟩ := hbx.cells
    have hg0 := hbx.frozen 0
    have hg1 := hbx.frozen 1
    have hg2 := hbx.frozen 2
    have hg3 := hbx.frozen 3
    have hsn := lastOf_snoc a1 pre x
    unfold lastStep at hsn
    by_cases hs1 : x.1.2.2.f0 = 1
    rotate_left
    · have hs2 : (x.1.2.2.f0 == 1) = false := by simp [hs1]
      rw [if_neg (fun h => hs1 h.1)] at hsn
      gi_wp2
      exact ⟨KeepsFrom.refl _ _, Below.refl _ _, by rw [hsn]; exact hbx, hb3, hb4, hB⟩
    have hs2 : (x.1.2.2.f0 == 1) = true := by simp [hs1]
    by_cases ht1 : x.1.2.2.f1.f2 = a1
    rotate_left
    · have ht2 : (x.1.2.2.f1.f2 == a1) = false := by simp [ht1]
      rw [if_neg (fun h => ht1 h.2.1)] at hsn
      gi_wp2
      exact ⟨KeepsFrom.refl _ _, Below.refl _ _, by rw [hsn]; exact hbx, hb3, hb4, hB⟩
    have ht2 : (x.1.2.2.f1.f2 == a1) = true := by simp [ht1]
    by_cases hv1 : x.1.2.2.f1.f1 > (lastOf a1 pre).f1
    rotate_left
    · have hv2 : decide ((lastOf a1 pre).f1 < x.1.2.2.f1.f1) = false := decide_eq_false hv1
      rw [if_neg (fun h => hv1 h.2.2)] at hsn
      gi_wp2
      exact ⟨KeepsFrom.refl _ _, Below.refl _ _, by rw [hsn]; exact hbx, hb3, hb4, hB⟩
    have hv2 : decide ((lastOf a1 pre).f1 < x.1.2.2.f1.f1) = true := decide_eq_true hv1
    rw [if_pos ⟨hs1, ht1, hv1⟩] at hsn
    obtain ⟨q, hq, hq_⟩ : ∃ q : S32, q = ⟨x.1.2.2.f1.f0, x.1.2.2.f1.f1, a1, x.1.2.2.f1.f3⟩ ∧ x.1.2.2.f1 = q := ⟨_, rfl, by rw [← ht1]⟩
    rw [hq_] at hsn
    have ok1 : RecBox (set4 W w1.heap.size q) w1.heap.size (lastOf a1 (pre ++ [x])) := by rw [hsn]; exact RecBox.put hbx _
    have ok2 : Boxed (set4 W w1.heap.size q) w.heap.size 3 (.int .i64 a1) := Boxed.far4 hb3 (by omega) _
    have ok3 : RecBox (set4 W w1.heap.size q) (w.heap.size + 1) ⟨0, 0, 0, 0⟩ := RecBox.far hb4 (by omega) _
    have ok4 : Below w.heap.size w (set4 W w1.heap.size q) := below_set4 hB (by omega) _
    have ok5 : Below w.heap.size W (set4 W w1.heap.size q) := below_set4 (Below.refl _ W) (by omega) _
    have OK1 := am ok1
    have OK2 := am ok2
    have OK3 := am ok3
    have OK4 := am ok4
    have OK5 := am ok5
    have OK6 := am ((keeps_set4 W w1.heap.size q).from ((w1.alloc (.cells #[.int .i64 0, .int .i64 0, .int .i64 0, .int .i64 0] 32)).alloc (.cells #[.slice A0 l0.length c0] 23)).heap.size)
    subst hq
    clear ok1 ok2 ok3 ok4 ok5 hsn hq_
    gi_wp2
    exact ⟨OK6.out, OK5.out, OK1.out, OK2.out, OK3.out, OK4.out⟩
   case done =>
    rintro D ys W hD hys ⟨hbx, hb3, hb4, hB⟩ hK
    rw [lastOf_all hys] at hbx
    cases h
    obtain ⟨hq0, hq1, hq2, hq3⟩ := hbx.cells
    obtain ⟨ho0, ho1, ho2, ho3⟩ := hb4.cells
    have hg0 := hb4.frozen 0
    have hg1 := hb4.frozen 1
    have hg2 := hb4.frozen 2
    have hg3 := hb4.frozen 3
    gi_wp2
    gi_region
    gi_wp2
    have hbp : RecBox (set4 W (w.heap.size + 1) (lastA l0 a1)).drew (w.heap.size + 1) (lastA l0 a1) := RecBox.put hb4 _
    have hK' : (set4 W (w.heap.size + 1) (lastA l0 a1)).drew.heap[D]? = some (.deferred (some [])) := (keeps_set4 W (w.heap.size + 1) (lastA l0 a1)).same D _ hK rfl
    have hB' : Below w.heap.size w (set4 W (w.heap.size + 1) (lastA l0 a1)).drew := below_drew (below_set4 hB (by omega) _)
    refine ⟨by simp, .inl ⟨_, _, rfl, run_takeDeferred hK', ?_⟩⟩
    have hbq := RecBox.own (β := Unit) _ (fun _ => lastA l0 a1) () _ _ _ hbp (grownBy_putObj' _ D (.deferred none)) (fun r e => by cases e; exact ⟨_, hK', rfl⟩)
    exact ⟨_, results_ct rfl _ _ (w.heap.size + 1) _ _ _ _ rfl hbq hu rfl (by kernel_rfl), rfl, hB'.trans (belowK_b (w := w) (Nat.le_refl _) _ D _ _ (by have := hB0.size; omega) hK' rfl rfl)⟩
   case stop =>
    rintro D c pre W _ _ h _
    exact h.elim
end Go.Proofs.Ytpldeopbdilipaa.P1
namespace Go.Proofs.Ytpldeopbdilipaa.P1
open Go.RowKit Go.Proofs.YtpldeopbdilipaaW.PrintWords Go.Proofs.YtpldeopbdilipaaW.PrintLast Go.Proofs.YtpldeopbdilipaaW.PrintMore
attribute [local go_sem] max2_int min2_int max_two min_two max_three min_three max_four min_four
set_option linter.unusedVariables false
set_option linter.unusedSimpArgs false
attribute [local go_sem high] eqA32
def impl_blockOk.f (a0 : Int) : Option (Bool) := if a0 ≥ 0 then (some (decide (a0 < 4))) else (some false)
set_option maxHeartbeats 8000000 in
set_option maxRecDepth 100000 in
theorem impl_blockOk.calls (a0 : Int) (r : Bool) (w : World) (h : impl_blockOk.f a0 = some r) :
 Calls Try.prog 48 #[.int .i64 a0] w fun e w' => e = .returned (.bool r) ∧ Drawn0 w w' := by
 have H : (if a0 ≥ 0 then (some (decide (a0 < 4))) else (some false)) = some r := h
 clear h
 by_cases c2 : a0 ≥ 0
 · rw [if_pos c2] at H
   have c2b0 := decide_eq_true c2
   clear c2
   obtain rfl := Option.some.inj H
   go_enter Try.func48, Try.ntmps48
   go_wp2
   go_ret
   exact ⟨by first | rfl | (simp; done) | (simp [*]; done), by repeat (first | exact Drawn0.refl _ | apply Drawn0.step)⟩
 rw [if_neg c2] at H
 have c2b0 := decide_eq_false c2
 clear c2
 obtain rfl := Option.some.inj H
 go_enter Try.func48, Try.ntmps48
 go_wp2
 go_ret
 exact ⟨by first | rfl | (simp; done) | (simp [*]; done), by repeat (first | exact Drawn0.refl _ | apply Drawn0.step)⟩
def impl_FindLive.j0 : Nat → List (S63) → Int → Int → Bool → Option (Bool)
 | 0, _, _, _, _ => none
 | k + 1, x0, x1, x2, x25 => if x25 = true then (some false) else (if 0 ≤ x1 then (if x1 < (x0.length : Int) then (if 0 ≤ x2 then (if x2 < (((rd_T63 x0 x1).f0).length : Int) then (if ((rd_T65 ((rd_T63 x0 x1).f0) x2).f0) = 1 then ((impl_FindLast.f x0 ((rd_T65 ((rd_T63 x0 x1).f0) x2).f1.f2)).bind fun bt404 => (if bt404.2.2.2.2 = true then (some (bt404.1 == ((rd_T65 ((rd_T63 x0 x1).f0) x2).f1.f0) && (bt404.2.1 == ((rd_T65 ((rd_T63 x0 x1).f0) x2).f1.f1) && (bt404.2.2.1 == ((rd_T65 ((rd_T63 x0 x1).f0) x2).f1.f2) && (bt404.2.2.2.1 == ((rd_T65 ((rd_T63 x0 x1).f0) x2).f1.f3)))))) else (some false))) else (some false)) else (none)) else (none)) else (none)) else (none))
def impl_FindLive.f (k : Nat) (l0 : List (S63)) (a1 : Int) (a2 : Int) : Option (Bool) := (impl_FlashOk.f l0).bind fun t399 => (if t399 = true then ((impl_blockOk.f a1).bind fun t400 => (if t400 = true then (if a2 < 0 then (impl_FindLive.j0 k l0 a1 a2 true) else (impl_FindLive.j0 k l0 a1 a2 (decide (a2 ≥ 4)))) else (impl_FindLive.j0 k l0 a1 a2 true))) else (impl_FindLive.j0 k l0 a1 a2 true))
set_option maxHeartbeats 8000000 in
set_option maxRecDepth 100000 in
theorem impl_FindLive.calls (k : Nat) (A0 : Option Addr) (c0 : Nat) (l0 : List (S63)) (a1 : Int) (a2 : Int) (r : Bool) (w : World) (hr0 : Kd.C k63 w A0 l0.length l0) (hc0 : l0.length ≤ c0) (h : impl_FindLive.f k l0 a1 a2 = some r) :
 Calls Try.prog 28 #[.slice A0 l0.length c0, .int .i64 a1, .int .i64 a2] w fun e w' => e = .returned (.bool r) ∧ Below w.heap.size w w' := by
 have hu65 := Try.underlying65
 have hu32 := Try.underlying32
 have HR0 := am hr0
 have HC0 := am hc0
 clear hr0 hc0
 have HB := am (Below.refl w.heap.size w)
 have H : ((impl_FlashOk.f l0).bind fun t399 => (if t399 = true then ((impl_blockOk.f a1).bind fun t400 => (if t400 = true then (if a2 < 0 then (impl_FindLive.j0 k l0 a1 a2 true) else (impl_FindLive.j0 k l0 a1 a2 (decide (a2 ≥ 4)))) else (impl_FindLive.j0 k l0 a1 a2 true))) else (impl_FindLive.j0 k l0 a1 a2 true))) = some r := h
 clear h
 have HC4 := am H
 clear H
 go_enter Try.func28, Try.ntmps28
 go_upto_region 1 with (fail)
 go_cut [25] (fun v25 wc => ∃ (kq : Nat) (x25_3 : Bool), v25 = .bool x25_3 ∧ Aside0 (impl_FindLive.j0 kq l0 a1 a2 x25_3 = some r) ∧ Aside0 (kq ≤ k) ∧ Aside0 (Below w.heap.size w wc))
 case first =>
  have H := HC4.out
  clear HC4
  replace H := Option.bind_eq_some_iff.mp H
  obtain ⟨t399, A50, H⟩ := H
  have A5 := am A50
  clear A50
  by_cases c6 : t399 = true
  rotate_left
  · replace c6 := Bool.eq_false_iff.mpr c6
    subst c6
    rw [if_neg (show ¬ (false = true) by decide)] at H
    have H' := am H
    clear H
    go_wp2_with (first | (refine gl 11 Try.func36 #[.slice A0 l0.length c0] rfl ?_; (with_reducible refine (impl_FlashOk.calls _ _ l0 false _ ?side1 ?side2 A5.out).mono ?_); (case side1 => exact pc (Kd.C_below HR0.out HB.out)); (case side2 => exact HC0.out); rintro e w13 ⟨rfl, hb⟩; refine ⟨_, rfl, ?_⟩; replace HB := am (below_step (ph HB.out) hb); clear hb))
    go_meet
    case rel => exact ⟨_, (true), rf, H', ⟨by first | omega | exact Nat.le_refl _⟩, ⟨ph HB.out⟩⟩
  subst c6
  rw [if_pos rfl] at H
  replace H := Option.bind_eq_some_iff.mp H
  obtain ⟨t400, A70, H⟩ := H
  have A7 := am A70
  clear A70
  by_cases c8 : t400 = true
  rotate_left
  · replace c8 := Bool.eq_false_iff.mpr c8
    subst c8
    rw [if_neg (show ¬ (false = true) by decide)] at H
    have H' := am H
    clear H
    go_wp2_with (first | (refine gl 11 Try.func36 #[.slice A0 l0.length c0] rfl ?_; (with_reducible refine (impl_FlashOk.calls _ _ l0 true _ ?side1 ?side2 A5.out).mono ?_); (case side1 => exact pc (Kd.C_below HR0.out HB.out)); (case side2 => exact HC0.out); rintro e w12 ⟨rfl, hb⟩; refine ⟨_, rfl, ?_⟩; replace HB := am (below_step (ph HB.out) hb); clear hb) | (go_at_call 48; (with_reducible refine (impl_blockOk.calls a1 false _ A7.out).mono ?_); rintro e w' ⟨rfl, ⟨nd, rfl⟩⟩))
    go_meet
    case rel => exact ⟨_, (true), rf, H', ⟨by first | omega | exact Nat.le_refl _⟩, ⟨ph HB.out⟩⟩
  subst c8
  rw [if_pos rfl] at H
  by_cases c9 : a2 < 0
  · rw [if_pos c9] at H
    have c9b0 := decide_eq_true c9
    clear c9
    (first | rw [c9b0] | (simp only [i64_w, i32_w]; rw [c9b0]) | skip)
    have H' := am H
    clear H
    go_wp2_with (first | (refine gl 11 Try.func36 #[.slice A0 l0.length c0] rfl ?_; (with_reducible refine (impl_FlashOk.calls _ _ l0 true _ ?side1 ?side2 A5.out).mono ?_); (case side1 => exact pc (Kd.C_below HR0.out HB.out)); (case side2 => exact HC0.out); rintro e w10 ⟨rfl, hb⟩; refine ⟨_, rfl, ?_⟩; replace HB := am (below_step (ph HB.out) hb); clear hb) | (go_at_call 48; (with_reducible refine (impl_blockOk.calls a1 true _ A7.out).mono ?_); rintro e w' ⟨rfl, ⟨nd, rfl⟩⟩))
    go_meet
    case rel => exact ⟨_, (true), rf, H', ⟨by first | omega | exact Nat.le_refl _⟩, ⟨ph HB.out⟩⟩
  rw [if_neg c9] at H
  have c9b0 := decide_eq_false c9
  clear c9
  (first | rw [c9b0] | (simp only [i64_w, i32_w]; rw [c9b0]) | skip)
  have H' := am H
  clear H
  go_wp2_with (first | (refine gl 11 Try.func36 #[.slice A0 l0.length c0] rfl ?_; (with_reducible refine (impl_FlashOk.calls _ _ l0 true _ ?side1 ?side2 A5.out).mono ?_); (case side1 => exact pc (Kd.C_below HR0.out HB.out)); (case side2 => exact HC0.out); rintro e w11 ⟨rfl, hb⟩; refine ⟨_, rfl, ?_⟩; replace HB := am (below_step (ph HB.out) hb); clear hb) | (go_at_call 48; (with_reducible refine (impl_blockOk.calls a1 true _ A7.out).mono ?_); rintro e w' ⟨rfl, ⟨nd, rfl⟩⟩))
  go_meet
  case rel => exact ⟨_, (decide (a2 ≥ 4)), rf, H', ⟨by first | omega | exact Nat.le_refl _⟩, ⟨ph HB.out⟩⟩
 case rest =>
  clear HC4
  obtain ⟨kq, x25_3, rfl, HA, HJ3, HB⟩ := hcut
  cases kq with
  | zero => exact absurd HA.out (by simp [impl_FindLive.j0])
  | succ kj3 =>
   have H := HA.out
   clear HA
   simp only [impl_FindLive.j0] at H
   by_cases c14 : x25_3 = true
   · subst c14
     rw [if_pos rfl] at H
     obtain rfl := Option.some.inj H
     go_wp2
     go_ret
     exact (rq (ph HB.out))
   replace c14 := Bool.eq_false_iff.mpr c14
   subst c14
   rw [if_neg (show ¬ (false = true) by decide)] at H
   obtain ⟨c15b0, H⟩ := ifd H
   obtain ⟨c16b0, H⟩ := ifd H
   obtain ⟨c17b0, H⟩ := ifd H
   obtain ⟨c18b0, H⟩ := ifd H
   by_cases c19 : ((rd_T65 ((rd_T63 l0 a1).f0) a2).f0) = 1
   rotate_left
   · rw [if_neg c19] at H
     have c19b0 : (((rd_T65 ((rd_T63 l0 a1).f0) a2).f0) == 1) = false := beq_eq_false_iff_ne.mpr c19
     have c19b1 : (((rd_T65 ((rd_T63 l0 a1).f0) a2).f0) != 1) = true := bne_iff_ne.mpr c19
     obtain rfl := Option.some.inj H
     have p401 : 0 ≤ (a1 : Int) := ofb
     have q401 : a1 < (l0.length : Int) := ofb
     obtain ⟨ad401, A401_0, c401_0, e401, hx401_0, hx401_1, hl401_0, hi401_0⟩ := at_T63 HR0.out a1 p401 q401
     cases e401
     replace hx401_0 := up HB.out hx401_0
     replace hx401_1 := up HB.out hx401_1
     have HR401_0 := am hi401_0
     have HC401_0 := am hl401_0
     clear hi401_0 hl401_0
     replace p401 := eq_true p401
     replace q401 := eq_true q401
     have p402 : 0 ≤ (a2 : Int) := ofb
     have q402 : a2 < (((rd_T63 l0 a1).f0).length : Int) := ofb
     obtain ⟨ad402, e402, hx402_0, hx402_1, hx402_2, hx402_3, hx402_4⟩ := at_T65 HR401_0.out a2 p402 q402
     cases e402
     replace hx402_0 := up HB.out hx402_0
     replace hx402_1 := up HB.out hx402_1
     replace hx402_2 := up HB.out hx402_2
     replace hx402_3 := up HB.out hx402_3
     replace hx402_4 := up HB.out hx402_4
     replace p402 := eq_true p402
     replace q402 := eq_true q402
     go_wp2_with (first | (refine bx 7 #[.int .i64 0, .int .i64 0, .int .i64 0, .int .i64 0, .int .i64 0] 65 rfl ?_; intro gb403 hg w35 hbox hb; have BK403 := am (hbox); have GW403 := am (ge hg (ph HB.out)); have GE403 := GW403; replace HB := am (below_step (ph HB.out) hb); clear hb hbox hg; obtain ⟨hcz36_0, hcz36_1, hcz36_2, hcz36_3, hcz36_4⟩ := b5 BK403.out; obtain ⟨hfz36_0, hfz36_1, hfz36_2, hfz36_3, hfz36_4⟩ := f5 BK403.out))
     go_ret
     exact (rq (bg1 HB.out GE403.out))
   rw [if_pos c19] at H
   have c19b0 : (((rd_T65 ((rd_T63 l0 a1).f0) a2).f0) == 1) = true := beq_iff_eq.mpr c19
   have c19b1 : (((rd_T65 ((rd_T63 l0 a1).f0) a2).f0) != 1) = false := bne_eq_false_iff_eq.mpr c19
   clear c19
   replace H := Option.bind_eq_some_iff.mp H
   obtain ⟨⟨t404, t405, t406, t407, t408⟩, A200, H⟩ := H
   have A20 := am A200
   clear A200
   by_cases c21 : t408 = true
   rotate_left
   · replace c21 := Bool.eq_false_iff.mpr c21
     subst c21
     rw [if_neg (show ¬ (false = true) by decide)] at H
     obtain rfl := Option.some.inj H
     have p401 : 0 ≤ (a1 : Int) := ofb
     have q401 : a1 < (l0.length : Int) := ofb
     obtain ⟨ad401, A401_0, c401_0, e401, hx401_0, hx401_1, hl401_0, hi401_0⟩ := at_T63 HR0.out a1 p401 q401
     cases e401
     replace hx401_0 := up HB.out hx401_0
     replace hx401_1 := up HB.out hx401_1
     have HR401_0 := am hi401_0
     have HC401_0 := am hl401_0
     clear hi401_0 hl401_0
     replace p401 := eq_true p401
     replace q401 := eq_true q401
     have p402 : 0 ≤ (a2 : Int) := ofb
     have q402 : a2 < (((rd_T63 l0 a1).f0).length : Int) := ofb
     obtain ⟨ad402, e402, hx402_0, hx402_1, hx402_2, hx402_3, hx402_4⟩ := at_T65 HR401_0.out a2 p402 q402
     cases e402
     replace hx402_0 := up HB.out hx402_0
     replace hx402_1 := up HB.out hx402_1
     replace hx402_2 := up HB.out hx402_2
     replace hx402_3 := up HB.out hx402_3
     replace hx402_4 := up HB.out hx402_4
     replace p402 := eq_true p402
     replace q402 := eq_true q402
     go_wp2_with (first | (refine bx 7 #[.int .i64 0, .int .i64 0, .int .i64 0, .int .i64 0, .int .i64 0] 65 rfl ?_; intro gb403 hg w29 hbox hb; have BK403 := am (hbox); have GW403 := am (ge hg (ph HB.out)); have GE403 := GW403; replace HB := am (below_step (ph HB.out) hb); clear hb hbox hg; obtain ⟨hcz30_0, hcz30_1, hcz30_2, hcz30_3, hcz30_4⟩ := b5 BK403.out; obtain ⟨hfz30_0, hfz30_1, hfz30_2, hfz30_3, hfz30_4⟩ := f5 BK403.out) | (refine gl 42 Try.func15 #[.slice (some ad401) l0.length c0, .int .i64 ((rd_T65 ((rd_T63 l0 a1).f0) a2).f1.f2)] rfl ?_; (with_reducible refine (impl_FindLast.calls _ _ l0 ((rd_T65 ((rd_T63 l0 a1).f0) a2).f1.f2) t404 t405 t406 t407 false _ ?side1 ?side2 A20.out).mono ?_); (case side1 => exact Kd.C_below HR0.out (bg1 HB.out GE403.out)); (case side2 => exact HC0.out); rintro e w31 ⟨rfl, hb⟩; refine ⟨_, rfl, ?_⟩; replace BK403 := am (blk_below (bp5 (pb BK403.out)) hb); replace HB := am (below_step (bg1 HB.out GE403.out) hb); clear hb) | (refine bx 8 #[.int .i64 0, .int .i64 0, .int .i64 0, .int .i64 0] 32 rfl ?_; intro gb409 hg w32 hbox hb; have BK409 := am (hbox); have GW409 := am (ge hg (bg1 HB.out GE403.out)); have GE409 := GW409; replace HB := am (below_step (bg1 HB.out GE403.out) hb); have NB403_409 := am (nb hg (pb BK403.out)); have NB409_403 := am (Ne.symm NB403_409.out); replace BK403 := am (blk_below (pb BK403.out) hb); clear hb hbox hg; have hnb33 := NB409_403.out; have hnc33 := NB403_409.out; obtain ⟨hcz34_0, hcz34_1, hcz34_2, hcz34_3⟩ := b4 BK409.out; obtain ⟨hfz34_0, hfz34_1, hfz34_2, hfz34_3⟩ := f4 BK409.out))
     go_ret
     exact (rq (bg2 HB.out GE403.out GE409.out))
   subst c21
   rw [if_pos rfl] at H
   obtain rfl := Option.some.inj H
   have p401 : 0 ≤ (a1 : Int) := ofb
   have q401 : a1 < (l0.length : Int) := ofb
   obtain ⟨ad401, A401_0, c401_0, e401, hx401_0, hx401_1, hl401_0, hi401_0⟩ := at_T63 HR0.out a1 p401 q401
   cases e401
   replace hx401_0 := up HB.out hx401_0
   replace hx401_1 := up HB.out hx401_1
   have HR401_0 := am hi401_0
   have HC401_0 := am hl401_0
   clear hi401_0 hl401_0
   replace p401 := eq_true p401
   replace q401 := eq_true q401
   have p402 : 0 ≤ (a2 : Int) := ofb
   have q402 : a2 < (((rd_T63 l0 a1).f0).length : Int) := ofb
   obtain ⟨ad402, e402, hx402_0, hx402_1, hx402_2, hx402_3, hx402_4⟩ := at_T65 HR401_0.out a2 p402 q402
   cases e402
   replace hx402_0 := up HB.out hx402_0
   replace hx402_1 := up HB.out hx402_1
   replace hx402_2 := up HB.out hx402_2
   replace hx402_3 := up HB.out hx402_3
   replace hx402_4 := up HB.out hx402_4
   replace p402 := eq_true p402
   replace q402 := eq_true q402
   go_wp2_with (first | (refine bx 7 #[.int .i64 0, .int .i64 0, .int .i64 0, .int .i64 0, .int .i64 0] 65 rfl ?_; intro gb403 hg w22 hbox hb; have BK403 := am (hbox); have GW403 := am (ge hg (ph HB.out)); have GE403 := GW403; replace HB := am (below_step (ph HB.out) hb); clear hb hbox hg; obtain ⟨hcz23_0, hcz23_1, hcz23_2, hcz23_3, hcz23_4⟩ := b5 BK403.out; obtain ⟨hfz23_0, hfz23_1, hfz23_2, hfz23_3, hfz23_4⟩ := f5 BK403.out) | (refine gl 42 Try.func15 #[.slice (some ad401) l0.length c0, .int .i64 ((rd_T65 ((rd_T63 l0 a1).f0) a2).f1.f2)] rfl ?_; (with_reducible refine (impl_FindLast.calls _ _ l0 ((rd_T65 ((rd_T63 l0 a1).f0) a2).f1.f2) t404 t405 t406 t407 true _ ?side1 ?side2 A20.out).mono ?_); (case side1 => exact Kd.C_below HR0.out (bg1 HB.out GE403.out)); (case side2 => exact HC0.out); rintro e w24 ⟨rfl, hb⟩; refine ⟨_, rfl, ?_⟩; replace BK403 := am (blk_below (bp5 (pb BK403.out)) hb); replace HB := am (below_step (bg1 HB.out GE403.out) hb); clear hb) | (refine bx 8 #[.int .i64 0, .int .i64 0, .int .i64 0, .int .i64 0] 32 rfl ?_; intro gb409 hg w25 hbox hb; have BK409 := am (hbox); have GW409 := am (ge hg (bg1 HB.out GE403.out)); have GE409 := GW409; replace HB := am (below_step (bg1 HB.out GE403.out) hb); have NB403_409 := am (nb hg (pb BK403.out)); have NB409_403 := am (Ne.symm NB403_409.out); replace BK403 := am (blk_below (pb BK403.out) hb); clear hb hbox hg; have hnb26 := NB409_403.out; have hnc26 := NB403_409.out; obtain ⟨hcz27_0, hcz27_1, hcz27_2, hcz27_3⟩ := b4 BK409.out; obtain ⟨hfz27_0, hfz27_1, hfz27_2, hfz27_3⟩ := f4 BK409.out; have hcz28_0 : w25.cell? ⟨gb403, 0, none⟩ = some (.int .i64 ((rd_T65 ((rd_T63 l0 a1).f0) a2).f0)) := (blk_cell BK403.out 0).trans rfl; have hcz28_1 : w25.cell? ⟨gb403, 1, none⟩ = some (.int .i64 ((rd_T65 ((rd_T63 l0 a1).f0) a2).f1.f0)) := (blk_cell BK403.out 1).trans rfl; have hcz28_2 : w25.cell? ⟨gb403, 2, none⟩ = some (.int .i64 ((rd_T65 ((rd_T63 l0 a1).f0) a2).f1.f1)) := (blk_cell BK403.out 2).trans rfl; have hcz28_3 : w25.cell? ⟨gb403, 3, none⟩ = some (.int .i64 ((rd_T65 ((rd_T63 l0 a1).f0) a2).f1.f2)) := (blk_cell BK403.out 3).trans rfl; have hcz28_4 : w25.cell? ⟨gb403, 4, none⟩ = some (.int .i64 ((rd_T65 ((rd_T63 l0 a1).f0) a2).f1.f3)) := (blk_cell BK403.out 4).trans rfl; obtain ⟨hfz28_0, hfz28_1, hfz28_2, hfz28_3, hfz28_4⟩ := f5 BK403.out))
   go_ret
   exact (rq (bg2 HB.out GE403.out GE409.out))
end Go.Proofs.Ytpldeopbdilipaa.P1
