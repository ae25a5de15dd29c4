-- printed by wip/pp/pp.py
import Derived.Test.YtenmnclkbleglaaP20
import Derived.Test.YtenmnclkbleglaaP21
import Derived.Test.YtenmnclkbleglaaP212
import Derived.RangeFuncNested
import Derived.RangeFuncBound
import Derived.RangeFuncCalls
import Derived.RangeFuncLeaves
import Derived.Shelf.Abstract
import Derived.WalkKit
import Derived.OwnWalkIn
import Derived.TacticsInMore
import Derived.LoopNIn
import Derived.LoopIn
import Derived.IntWalk
import Derived.Test.YtenmnclkbleglaaWMap
import Derived.Maps.OwnOps
import Derived.Maps.Own
import Derived.Maps.OwnIn
import Derived.WalkArith
import Derived.Test.YtenmnclkbleglaaP211
namespace Go.Proofs.Ytenmnclkbleglaa.P2
set_option maxHeartbeats 8000000
set_option maxRecDepth 100000
open Go.RowKit Go.Proofs.YtenmnclkbleglaaW.PrintWords Go.Proofs.YtenmnclkbleglaaW.PrintLast Go.Proofs.YtenmnclkbleglaaW.PrintMore
attribute [local go_sem] max2_int min2_int max_two min_two max_three min_three max_four min_four
set_option linter.unusedVariables false
set_option linter.unusedSimpArgs false
attribute [local go_sem] Oper.semAt_some
theorem flash_four' {l : List S42} (h : flashOkB l = true) : l.length = 4 := by
 unfold flashOkB at h
 rw [Bool.and_eq_true, decide_eq_true_eq] at h
 omega
theorem freeQ_loop (l : List S39) (hl : l.length ≤ maxLen) : ∀ (n i m : Nat), i + n = l.length → m ≤ i → impl_freePages.l0 (n + 1) (m : Int) l (l.length : Int) (i : Int) = some ((m + freeQ (l.drop i) : Nat) : Int)
 | 0, i, m, h, hm => by
  rw [impl_freePages.l0, if_neg (by omega), List.drop_eq_nil_of_le (by omega)]
  rfl
 | n + 1, i, m, h, hm => by
  have ih1 := freeQ_loop l hl n (i + 1) (m + 1) (by omega) (by omega)
  have ih2 := freeQ_loop l hl n (i + 1) m (by omega) (by omega)
  have e1 : wrap64 ((i : Int) + 1) = ((i + 1 : Nat) : Int) := by simp only [maxLen] at hl; rw [IntWalk.wrap64_in _ (by omega)]; omega
  have e2 : wrap64 ((m : Int) + 1) = ((m + 1 : Nat) : Int) := by simp only [maxLen] at hl; rw [IntWalk.wrap64_in _ (by omega)]; omega
  rw [drop_pg (by omega : i < l.length), freeQ, impl_freePages.l0, if_pos (by omega), if_pos (by omega), if_pos (by omega), e1, e2]
  by_cases hs : (rd_T39 l (i : Int)).f0 = 0
  rotate_left
  · rw [if_neg hs, if_neg hs, Nat.zero_add]
    exact ih2
  rw [if_pos hs, if_pos hs, show m + (1 + freeQ (l.drop (i + 1))) = m + 1 + freeQ (l.drop (i + 1)) by omega]
  exact ih1
def partB (b : S42) : Bool := decide (0 < freeQ b.f0 ∧ freeQ b.f0 < 4)
theorem partlyUsed_ok (b : S42) (hl : b.f0.length ≤ maxLen) : ∃ k, impl_partlyUsed.f k b.f0 b.f1 = some (partB b) := by
 refine ⟨b.f0.length + 1, ?_⟩
 have := freeQ_loop b.f0 hl b.f0.length 0 0 (by omega) (by omega)
 have this2 : impl_freePages.l0 (b.f0.length + 1) 0 b.f0 (b.f0.length : Int) 0 = _ := this
 unfold impl_partlyUsed.f impl_freePages.f partB
 rw [this2, Option.bind_some, List.drop_zero, Nat.zero_add]
 by_cases h : 0 < freeQ b.f0
 rotate_left
 · rw [if_neg (by omega), decide_eq_false (fun q => h q.1)]
 rw [if_pos (by omega)]
 by_cases h4 : freeQ b.f0 < 4
 · rw [decide_eq_true (by omega : ((freeQ b.f0 : Nat) : Int) < 4), decide_eq_true ⟨h, h4⟩]
 rw [decide_eq_false (by omega : ¬ ((freeQ b.f0 : Nat) : Int) < 4), decide_eq_false (fun q => h4 q.2)]
def crossB (a b : Int × Int) : Bool := decide (a.2 > 0 ∧ b.2 > 0 ∧ a.2 ≥ b.1 ∧ b.2 ≥ a.1)
def overI (s : Spans) (i : Nat) : Nat → Bool
 | 0 => false
 | j + 1 => overI s i j || crossB (s i) (s j)
def overN (s : Spans) : Nat → Bool
 | 0 => false
 | i + 1 => overN s i || overI s i i
def newestN (s : Spans) : Nat → Int
 | 0 => 0
 | i + 1 => mx (newestN s i) (s i).2
def partN (l : List S42) : Nat → Nat
 | 0 => 0
 | i + 1 => partN l i + (if partB (rd_T42 l (i : Int)) = true then 1 else 0)
def badN (l : List S42) (s : Spans) (m : Int) : Nat → Bool
 | 0 => false
 | i + 1 => badN l s m i || (partB (rd_T42 l (i : Int)) && decide ((s i).2 > 0 ∧ (s i).2 < m))
theorem partN_le (l : List S42) : ∀ i, partN l i ≤ i
 | 0 => Nat.le_refl _
 | i + 1 => by
  have := partN_le l i
  rw [partN]
  split <;> omega
theorem overI_of {s : Spans} {i j : Nat} (h : crossB (s i) (s j) = true) : ∀ n, j < n → overI s i n = true
 | 0, hn => by omega
 | n + 1, hn => by
  rw [overI, Bool.or_eq_true]
  by_cases e : j = n
  · subst e; exact .inr h
  exact .inl (overI_of h n (by omega))
theorem overN_of {s : Spans} {i : Nat} (h : overI s i i = true) : ∀ n, i < n → overN s n = true
 | 0, hn => by omega
 | n + 1, hn => by
  rw [overN, Bool.or_eq_true]
  by_cases e : i = n
  · subst e; exact .inr h
  exact .inl (overN_of h n (by omega))
theorem badN_of {l : List S42} {s : Spans} {m : Int} {i : Nat} (h : partB (rd_T42 l (i : Int)) = true) (h2 : (s i).2 > 0 ∧ (s i).2 < m) : ∀ n, i < n → badN l s m n = true
 | 0, hn => by omega
 | n + 1, hn => by
  rw [badN, Bool.or_eq_true]
  by_cases e : i = n
  rotate_left
  · exact .inl (badN_of h h2 n (by omega))
  subst e; exact .inr (by rw [h, decide_eq_true h2]; rfl)
theorem overI_step {s : Spans} {i j : Nat} (h : overI s i j = false) (h2 : crossB (s i) (s j) = false) : overI s i (j + 1) = false := by rw [overI, h, h2]; rfl
theorem crossB_false {a b : Int × Int} (h : ¬ (a.2 > 0 ∧ b.2 > 0 ∧ a.2 ≥ b.1 ∧ b.2 ≥ a.1)) : crossB a b = false := decide_eq_false h
def orderI (l : List S42) : Bool := flashOkB l && (!overN (spansF l) 4 && (!badN l (spansF l) (newestN (spansF l) 4) 4 && decide (partN l 4 ≤ 1)))
def impl_FindOrder.f (l0 : List (S42)) : Option (Bool) := some (orderI l0)
theorem impl_FindOrder.calls (A0 : Option Addr) (c0 : Nat) (l0 : List (S42)) (r : Bool) (w : World) (hr0 : Kd.C k42 w A0 l0.length l0) (hc0 : l0.length ≤ c0) (h : impl_FindOrder.f l0 = some r) :
 Calls Try.prog 28 #[.slice A0 l0.length c0] w fun e w' => e = .returned (.bool r) ∧ Below w.heap.size w w' := by
 obtain rfl := Option.some.inj h
 clear h
 refine (callsIn_wide (n := 3)).1 ?_
 have hok := callsIn_wide (n := 2).2 (impl_FlashOk.calls A0 c0 l0 _ w hr0 hc0 rfl)
 have hu := Try.underlying63
 have hu2 := Try.underlying42
 unfold orderI
 cases hf : flashOkB l0 with
 | false =>
  rw [hf] at hok
  refine callsIn_of_wp Try.func28 rfl trivial ?_ rfl
  simp only [Try.ntmps28, List.size_toArray, List.length_cons, List.length_nil, Nat.reduceAdd, Nat.reduceSub, Array.replicate_succ, Array.replicate_zero, List.push_toArray, List.append_toArray, List.nil_append, List.cons_append]
  gi_wp2_with (first | (refine ⟨trivial, ?_⟩; gi_at_call 18; refine hok.mono ?_; rintro e w1 ⟨rfl, hb⟩))
  go_ret
  exact ⟨rfl, hb⟩
 | true =>
  rw [hf] at hok
  have hl := flash_four' hf
  rw [Bool.true_and]
  have hsp : ∀ W, Below w.heap.size w W → CallsIn Fence.wide 2 Try.prog 22 #[.slice A0 4 c0] W fun e w' => ∃ g, e = .returned (.slice (some ⟨g, 0, none⟩) 4 4) ∧ SpansBox w' g (spansF l0) ∧ W.heap.size ≤ g ∧ Below W.heap.size W w' := fun W hb => callsIn_wide.2 (spansOf_any A0 c0 l0 W (Kd.C_below hr0 hb) hl)
  generalize spansF l0 = s at hsp ⊢
  obtain ⟨V, hV⟩ : ∃ V : Bool, (!overN s 4 && (!badN l0 s (newestN s 4) 4 && decide (partN l0 4 ≤ 1))) = V := ⟨_, rfl⟩
  rw [hV]
  have HV := am hV
  clear hV
  rw [hl] at hok ⊢
  refine callsIn_of_wp Try.func28 rfl trivial ?_ rfl
  simp only [Try.ntmps28, List.size_toArray, List.length_cons, List.length_nil, Nat.reduceAdd, Nat.reduceSub, Array.replicate_succ, Array.replicate_zero, List.push_toArray, List.append_toArray, List.nil_append, List.cons_append]
  gi_wp2_with (first | (refine ⟨trivial, ?_⟩; gi_at_call 18; refine hok.mono ?_; rintro e w1 ⟨rfl, hb⟩) | (refine ⟨trivial, ?_⟩; gi_at_call 22; refine (hsp _ hb).mono ?_; rintro e w2 ⟨g, rfl, hsb, hg, hb2⟩))
  have hB0 := below_then hb hb.size hb2
  clear hsp hok
  gi_loopw [19, 4] (fun v19 v4 wr => ∃ i : Nat, v19 = .int .i64 (i : Int) ∧ v4 = .int .i64 (newestN s i) ∧ i ≤ 4 ∧ overN s i = false ∧ SpansBox wr g s ∧ Below w.heap.size w wr) (fun v19 _ _ => 4 - (intOf v19).toNat)
  case atStart => exact ⟨0, rfl, rfl, by omega, rfl, hsb, hB0⟩
  case round =>
   clear hsb hB0
   obtain ⟨i, rfl, rfl, hi, hov, hbx, hB⟩ := hrel
   by_cases ci : i < 4
   · have cib : decide ((i : Int) < 4) = true := decide_eq_true (by omega)
     have p1 : 0 ≤ (i : Int) := by omega
     have q1 : (i : Int) < 4 := by omega
     obtain ⟨h1, h2⟩ := hbx.at_ i ci
     have hglt := blk_lt hbx
     have hst : newestN s (i + 1) = mx (newestN s i) (s i).2 := rfl
     gi_wp2
     all_goals
      have hA := blk_new wr (.cells #[.int .i64 (s i).1, .int .i64 (s i).2] 63)
      have hbx := blk_alloc hbx (.cells #[.int .i64 (s i).1, .int .i64 (s i).2] 63)
      have hB := below_alloc hB (.cells #[.int .i64 (s i).1, .int .i64 (s i).2] 63)
      clear h1 h2 hglt
      generalize wr.heap.size = gA at hA ⊢
      generalize wr.alloc (.cells #[.int .i64 (s i).1, .int .i64 (s i).2] 63) = wa at hA hbx hB ⊢
      gi_loopw [32] (fun v32 w3 => ∃ j : Nat, v32 = .int .i64 (j : Int) ∧ j ≤ i ∧ overI s i j = false ∧ SpansBox w3 g s ∧ w3.heap[gA]? = some (.cells #[.int .i64 (s i).1, .int .i64 (s i).2] 63 (0, 0)) ∧ Below w.heap.size w w3) (fun v32 _ => i - (intOf v32).toNat)
      case atStart => exact ⟨0, rfl, by omega, rfl, hbx, hA, hB⟩
      case round =>
       clear hbx hA hB
       obtain ⟨j, rfl, hj, hoj, hbx, hA, hB⟩ := hrel
       by_cases cj : j < i
       rotate_left
       · obtain rfl : j = i := by omega
         have HC : Aside0 (overN s (j + 1) = false) := ⟨by rw [overN, hov, hoj]; rfl⟩
         have HM : Aside0 (newestN s (j + 1) = mx (newestN s j) (s j).2) := ⟨rfl⟩
         clear hst
         gi_wp2
         refine ⟨⟨j + 1, by simp, ?_, by omega, HC.out, hbx, hB⟩, by simp [intOf]; omega⟩
         rw [HM.out]
         unfold mx
         first
          | (rw [if_pos (by assumption)]; done)
          | (rw [if_pos (by omega)]; done)
          | (rw [if_neg (by omega)]; done)
       have cjb : decide ((j : Int) < (i : Int)) = true := decide_eq_true (by omega)
       have p2 : 0 ≤ (j : Int) := by omega
       have q2 : (j : Int) < (i : Int) := by omega
       obtain ⟨h3, h4⟩ := hbx.at_ j (by omega)
       have hglt := blk_lt hbx
       have hAlt := blk_lt hA
       have ha0 : wr.cell? ⟨gA, 0, none⟩ = some (.int .i64 (s i).1) := (blk_cell hA 0).trans rfl
       have ha1 : wr.cell? ⟨gA, 1, none⟩ = some (.int .i64 (s i).2) := (blk_cell hA 1).trans rfl
       by_cases k1 : 0 < (s i).2
       rotate_left
       · have k1b : decide (0 < (s i).2) = false := decide_eq_false k1
         have HC := am (overI_step hoj (crossB_false (fun q => k1 q.1)))
         gi_wp2
         exact ⟨⟨j + 1, by simp, by omega, HC.out, blk_alloc hbx _, blk_alloc hA _, below_alloc hB _⟩, by simp [intOf]; omega⟩
       have k1b : decide (0 < (s i).2) = true := decide_eq_true k1
       by_cases k2 : 0 < (s j).2
       rotate_left
       · have k2b : decide (0 < (s j).2) = false := decide_eq_false k2
         have HC := am (overI_step hoj (crossB_false (fun q => k2 q.2.1)))
         gi_wp2
         exact ⟨⟨j + 1, by simp, by omega, HC.out, blk_alloc hbx _, blk_alloc hA _, below_alloc hB _⟩, by simp [intOf]; omega⟩
       have k2b : decide (0 < (s j).2) = true := decide_eq_true k2
       by_cases k3 : (s j).1 ≤ (s i).2
       rotate_left
       · have k3b : decide ((s j).1 ≤ (s i).2) = false := decide_eq_false k3
         have HC := am (overI_step hoj (crossB_false (fun q => k3 q.2.2.1)))
         gi_wp2
         exact ⟨⟨j + 1, by simp, by omega, HC.out, blk_alloc hbx _, blk_alloc hA _, below_alloc hB _⟩, by simp [intOf]; omega⟩
       have k3b : decide ((s j).1 ≤ (s i).2) = true := decide_eq_true k3
       by_cases k4 : (s i).1 ≤ (s j).2
       rotate_left
       · have k4b : decide ((s i).1 ≤ (s j).2) = false := decide_eq_false k4
         have HC := am (overI_step hoj (crossB_false (fun q => k4 q.2.2.2)))
         gi_wp2
         exact ⟨⟨j + 1, by simp, by omega, HC.out, blk_alloc hbx _, blk_alloc hA _, below_alloc hB _⟩, by simp [intOf]; omega⟩
       have k4b : decide ((s i).1 ≤ (s j).2) = true := decide_eq_true k4
       have hx : V = false := by rw [← HV.out, overN_of (overI_of (show crossB (s i) (s j) = true from decide_eq_true ⟨k1, k2, k3, k4⟩) i cj) 4 ci]; rfl
       have HX := am hx
       clear hx
       gi_wp2
       go_ret
       exact ⟨by rw [HX.out]; rfl, below_alloc hB _⟩
   obtain rfl : i = 4 := by omega
   generalize newestN s 4 = m at HV ⊢
   gi_wp2
   gi_loopw [62, 9] (fun v62 v9 wr => ∃ i : Nat, v62 = .int .i64 (i : Int) ∧ v9 = .int .i64 ((partN l0 i : Nat) : Int) ∧ i ≤ 4 ∧ badN l0 s m i = false ∧ SpansBox wr g s ∧ Below w.heap.size w wr) (fun v62 _ _ => 4 - (intOf v62).toNat)
   case atStart => exact ⟨0, rfl, rfl, by omega, rfl, hbx, hB⟩
   case round =>
    clear hbx hB
    obtain ⟨i, rfl, rfl, hi, hbad, hbx, hB⟩ := hrel
    have hple := partN_le l0 i
    by_cases ci : i < 4
    rotate_left
    · obtain rfl : i = 4 := by omega
      gi_wp2
      go_ret
      exact ⟨by rw [← HV.out, hov, hbad, Bool.not_false, Bool.true_and, Bool.true_and]; exact congrArg (fun b => Ending.returned (Value.bool b)) (decide_eq_decide.2 (by omega : ((partN l0 4 : Nat) : Int) ≤ 1 ↔ partN l0 4 ≤ 1)), hB⟩
    have cib : decide ((i : Int) < 4) = true := decide_eq_true (by omega)
    have p1 : 0 ≤ (i : Int) := by omega
    have q1 : (i : Int) < 4 := by omega
    obtain ⟨h1, h2⟩ := hbx.at_ i ci
    have hglt := blk_lt hbx
    obtain ⟨ad1, A1, c1, e1, hx1_0, hx1_1, hl1, hi1⟩ := at_T42 hr0 (i : Int) p1 (by omega)
    cases e1
    replace hx1_0 := (hB.cell (World.block_lt_of_cell? w _ hx1_0)).trans hx1_0
    replace hx1_1 := (hB.cell (World.block_lt_of_cell? w _ hx1_1)).trans hx1_1
    have hlm1 := Kd.C_max hi1
    simp only [Int.toNat_natCast] at hx1_0 hx1_1
    obtain ⟨kb, hkb⟩ := partlyUsed_ok (rd_T42 l0 (i : Int)) hlm1
    have hst1 : partN l0 (i + 1) = partN l0 i + (if partB (rd_T42 l0 (i : Int)) = true then 1 else 0) := rfl
    have hst2 : badN l0 s m (i + 1) = (badN l0 s m i || (partB (rd_T42 l0 (i : Int)) && decide ((s i).2 > 0 ∧ (s i).2 < m))) := rfl
    have hbo := fun n => badN_of (l := l0) (s := s) (m := m) (i := i) (h2 := n)
    have hpu : ∀ W, Below w.heap.size w W → CallsIn Fence.wide 2 Try.prog 19 #[.agg #[.slice A1 (rd_T42 l0 (i : Int)).f0.length c1, .int .i64 (rd_T42 l0 (i : Int)).f1]] W fun e w' => e = .returned (.bool (partB (rd_T42 l0 (i : Int)))) ∧ Below W.heap.size W w' := fun W hb => callsIn_wide.2 (impl_partlyUsed.calls kb _ _ _ _ _ W (Kd.C_below hi1 hb) hl1 hkb)
    clear hkb hi1
    generalize rd_T42 l0 (i : Int) = bl at hx1_0 hx1_1 hl1 hlm1 hst1 hst2 hbo hpu
    have hA := blk_new wr (.cells #[.slice A1 bl.f0.length c1, .int .i64 bl.f1] 42)
    have hbx2 := blk_alloc hbx (.cells #[.slice A1 bl.f0.length c1, .int .i64 bl.f1] 42)
    have hB2 := below_alloc hB (.cells #[.slice A1 bl.f0.length c1, .int .i64 bl.f1] 42)
    cases hpb : partB bl with
    | false =>
     rw [hpb] at hpu hst1 hst2
     gi_wp2_with (first | (refine ⟨trivial, ?_⟩; gi_at_call 19; refine (hpu _ hB2).mono ?_; rintro e w3 ⟨rfl, hb3⟩))
     go_roundw
     case rel =>
      (repeat apply Exists.intro)
      refine ⟨?_, rfl⟩
      exact ⟨i + 1, by simp, by rw [hst1]; simp, by omega, by rw [hst2, hbad]; rfl, blk_below hbx2 hb3, below_then hB2 hB2.size hb3⟩
     case measure => simp [intOf]; omega
    | true =>
     rw [hpb] at hpu hst1 hst2
     rw [if_pos rfl] at hst1
     by_cases k1 : 0 < (s i).2
     rotate_left
     · have k1b : decide (0 < (s i).2) = false := decide_eq_false k1
       have HC : Aside0 (badN l0 s m (i + 1) = false) := ⟨by rw [hst2, hbad, decide_eq_false (fun q => k1 q.1)]; rfl⟩
       gi_wp2_with (first | (refine ⟨trivial, ?_⟩; gi_at_call 19; refine (hpu _ hB2).mono ?_; rintro e w3 ⟨rfl, hb3⟩; have hbx3 := SpansBox.at_ (blk_below hbx2 hb3) i ci; have h5 := hbx3.2))
       go_roundw
       case rel =>
        (repeat apply Exists.intro)
        refine ⟨?_, rfl⟩
        exact ⟨i + 1, by simp, by rw [hst1]; simp, by omega, HC.out, blk_below hbx2 hb3, below_then hB2 hB2.size hb3⟩
       case measure => simp [intOf]; omega
     have k1b : decide (0 < (s i).2) = true := decide_eq_true k1
     by_cases k2 : (s i).2 < m
     · have k2b : decide ((s i).2 < m) = true := decide_eq_true k2
       have hx : V = false := by rw [← HV.out, hbo ⟨k1, k2⟩ hpb 4 ci, Bool.not_true, Bool.false_and, Bool.and_false]
       have HX := am hx
       clear hx
       gi_wp2_with (first | (refine ⟨trivial, ?_⟩; gi_at_call 19; refine (hpu _ hB2).mono ?_; rintro e w3 ⟨rfl, hb3⟩; have hbx3 := SpansBox.at_ (blk_below hbx2 hb3) i ci; have h5 := hbx3.2))
       go_ret
       exact ⟨by rw [HX.out]; rfl, below_then hB2 hB2.size hb3⟩
     have k2b : decide ((s i).2 < m) = false := decide_eq_false k2
     have HC : Aside0 (badN l0 s m (i + 1) = false) := ⟨by rw [hst2, hbad, decide_eq_false (fun q => k2 q.2)]; rfl⟩
     gi_wp2_with (first | (refine ⟨trivial, ?_⟩; gi_at_call 19; refine (hpu _ hB2).mono ?_; rintro e w3 ⟨rfl, hb3⟩; have hbx3 := SpansBox.at_ (blk_below hbx2 hb3) i ci; have h5 := hbx3.2))
     go_roundw
     case rel =>
      (repeat apply Exists.intro)
      refine ⟨?_, rfl⟩
      exact ⟨i + 1, by simp, by rw [hst1]; simp, by omega, HC.out, blk_below hbx2 hb3, below_then hB2 hB2.size hb3⟩
     case measure => simp [intOf]; omega
open Go.Proofs.YtenmnclkbleglaaW
attribute [local go_sem] Oper.semAt_some
theorem flash_fourR {l : List S42} (h : flashOkB l = true) : l.length = 4 := by
 unfold flashOkB at h
 rw [Bool.and_eq_true, decide_eq_true_eq] at h
 omega
abbrev RecMap := Int → Option R4
def recOf (r : S32) : R4 := (r.f0, r.f1, r.f2, r.f3)
def mapStep (M : RecMap) (p : S39) : RecMap := if p.f0 = 1 ∧ p.f1.f1 > ((M p.f1.f2).getD (0, 0, 0, 0)).2.1 then putM M p.f1.f2 (recOf p.f1) else M
def lastMap (l : List S42) : RecMap := (pagesL l).foldl mapStep (fun _ => none)
theorem okPage_wf {p : S39} (h : pageB p = true) (h1 : p.f0 = 1) : (Lit.int .i64 p.f1.f2).wf = true := by
 unfold pageB at h
 rw [if_pos h1] at h
 simp only [recOkB, decide_eq_true_eq] at h
 exact WalkArith.wf_i64 ⟨by omega, by omega⟩
theorem okPagesB : ∀ (ps : List S39) (S S' : List Int), pagesB ps S = some S' → ∀ p ∈ ps, pageB p = true
 | [], _, _, _, _, h => by cases h
 | p :: ps, S, S', h, q, hq => by
  rw [pagesB] at h
  by_cases hp : pageB p = true
  rotate_left
  · rw [if_neg hp] at h; cases h
  rw [if_pos hp] at h
  rcases List.mem_cons.1 hq with rfl | hq
  · exact hp
  · by_cases h1 : p.f0 = 1
    rotate_left
    · rw [if_neg h1] at h; exact okPagesB ps _ _ h q hq
    rw [if_pos h1] at h
    by_cases hm : p.f1.f1 ∈ S
    · rw [if_pos hm] at h; cases h
    rw [if_neg hm] at h; exact okPagesB ps _ _ h q hq
theorem okSpotsB (i : Nat) : ∀ (j : Nat) (ps : List S39) (x : Spot), x ∈ spotsB i j ps → x.2.2 ∈ ps
 | _, [], _, h => by cases h
 | j, p :: ps, x, h => by
  rw [spotsB] at h
  rcases List.mem_cons.1 h with rfl | h
  · simp
  · exact List.mem_cons_of_mem _ (okSpotsB i (j + 1) ps x h)
theorem okSpotsF : ∀ (i : Nat) (l : List S42) (S : List Int), blocksB l S = true → ∀ x ∈ spotsF i l, pageB x.2.2 = true
 | _, [], _, _, _, h => by cases h
 | i, b :: bs, S, h, x, hx => by
  rw [blocksB, Bool.and_eq_true] at h
  cases he : pagesB b.f0 S with
  | none => rw [he] at h; exact absurd h.2 (by simp)
  | some S' =>
   rw [he] at h
   rw [spotsF] at hx
   rcases List.mem_append.1 hx with hx | hx
   · exact okPagesB _ _ _ he _ (okSpotsB i 0 _ x hx)
   · exact okSpotsF (i + 1) bs S' h.2 x hx
theorem okSpots {l : List S42} (h : flashOkB l = true) : ∀ x ∈ spotsF 0 l, pageB x.2.2 = true := by
 unfold flashOkB at h
 rw [Bool.and_eq_true] at h
 exact okSpotsF 0 l [] h.2
theorem spotsB_len (i : Nat) : ∀ (j : Nat) (ps : List S39), (spotsB i j ps).length = ps.length
 | _, [] => rfl
 | j, p :: ps => by rw [spotsB, List.length_cons, List.length_cons, spotsB_len i (j + 1) ps]
theorem spotsF_len : ∀ (i : Nat) (l : List S42) (S : List Int), blocksB l S = true → (spotsF i l).length = 4 * l.length
 | _, [], _, _ => rfl
 | i, b :: bs, S, h => by
  rw [blocksB, Bool.and_eq_true] at h
  have hb : b.f0.length = 4 := by
   have := h.1
   unfold blockB at this
   rw [Bool.and_eq_true, decide_eq_true_eq] at this
   omega
  cases he : pagesB b.f0 S with
  | none => rw [he] at h; exact absurd h.2 (by simp)
  | some S' =>
   rw [he] at h
   rw [spotsF, List.length_append, spotsB_len, spotsF_len (i + 1) bs S' h.2, List.length_cons]
   omega
theorem spots_len {l : List S42} (h : flashOkB l = true) : (spotsF 0 l).length = 16 := by
 have hl := flash_fourR h
 unfold flashOkB at h
 rw [Bool.and_eq_true] at h
 rw [spotsF_len 0 l [] h.2, hl]
abbrev OkPage := {x : Spot // pageB x.2.2 = true}
def lastMapOf (pre : List OkPage) : RecMap := pre.foldl (fun m x => mapStep m x.1.2.2) (fun _ => none)
theorem lastMapOf_snoc (pre : List OkPage) (x : OkPage) : lastMapOf (pre ++ [x]) = mapStep (lastMapOf pre) x.1.2.2 := by simp [lastMapOf]
theorem lastMapOf_all {ys : List OkPage} {l0 : List S42} (h : ys.map (·.1) = spotsF 0 l0) : lastMapOf ys = lastMap l0 := by
 unfold lastMapOf lastMap pagesL
 rw [← h, List.foldl_map, List.foldl_map]
theorem RecsIs_own {P : Program} {K : TypeId} {Bq b : Nat} (hb : Bq < b) {β : Type} (f : β → RecMap) (g : β → Nat) : OwnFrom b (fun (s : β) W => ∃ n, n ≤ g s ∧ RecsIs P K W Bq n (f s)) := fun s X Y row hs hg hr => by
 obtain ⟨n, hn, h⟩ := hs
 exact ⟨n, hn, h.kept hg (fun e => by have := (hr _ e.symm).1; omega)⟩
theorem field_seq (a b c d : Value) (W : World) : (Instr.field 32 (.agg #[a, b, c, d]) 1).run Try.prog W = .ok b W := by
 have hu := Try.underlying32
 unfold Instr.field
 simp [run_underlying hu]
 go_simp
 rfl
theorem lastRecords_any (A0 : Option Addr) (c0 : Nat) (l0 : List (S42)) (w : World) (hr0 : Kd.C k42 w A0 l0.length l0) (hf : flashOkB l0 = true) :
 Calls Try.prog 29 #[.slice A0 l0.length c0] w fun e w' => ∃ B n, e = .returned (.map (some B)) ∧ RecsIs Try.prog 3 w' B n (lastMap l0) ∧ w.heap.size ≤ B ∧ Below w.heap.size w w' := by
 refine (callsIn_wide (n := 3)).1 ?_
 have hmm := @run_makeMap Try.prog
 have hlen := spots_len hf
 refine callsIn_of_wp_marks Try.func29 rfl trivial ?_ rfl
 simp only [Try.ntmps29, List.size_toArray, List.length_cons, List.length_nil, Nat.reduceAdd, Nat.reduceSub, Array.replicate_succ, Array.replicate_zero, List.push_toArray, List.append_toArray, List.nil_append, List.cons_append]
 gi_wp2_with (first | (refine ⟨trivial, ?_⟩; gi_at_call 21; refine (eachPage_in Fence.wide 2 trivial rfl _ _ _ _).mono ?_; rintro e w2 ⟨rfl, rfl⟩))
 have bM : RecsIs Try.prog 3 (((w.alloc (.map #[] 0)).alloc (.cells #[.map (some w.heap.size)] 72)).alloc (.cells #[.slice A0 l0.length c0] 23)) w.heap.size 0 (fun _ => none) := ((RecsIs.made w).alloc _).alloc _
 have bV : Boxed (((w.alloc (.map #[] 0)).alloc (.cells #[.map (some w.heap.size)] 72)).alloc (.cells #[.slice A0 l0.length c0] 23)) (w.heap.size + 1) 72 (.map (some w.heap.size)) := by
  have := blk_alloc (blk_new (w.alloc (.map #[] 0)) (.cells #[.map (some w.heap.size)] 72)) (.cells #[.slice A0 l0.length c0] 23)
  rw [World.size_alloc] at this
  exact this
 have bN : Boxed (((w.alloc (.map #[] 0)).alloc (.cells #[.map (some w.heap.size)] 72)).alloc (.cells #[.slice A0 l0.length c0] 23)) (w.heap.size + 1 + 1) 23 (.slice A0 l0.length c0) := by
  have := blk_new ((w.alloc (.map #[] 0)).alloc (.cells #[.map (some w.heap.size)] 72)) (.cells #[.slice A0 l0.length c0] 23)
  rw [World.size_alloc, World.size_alloc] at this
  exact this
 have hB0 : Below w.heap.size w (((w.alloc (.map #[] 0)).alloc (.cells #[.map (some w.heap.size)] 72)).alloc (.cells #[.slice A0 l0.length c0] 23)) := below_alloc (below_alloc (below_alloc (Below.refl _ w) _) _) _
 have hsz : (((w.alloc (.map #[] 0)).alloc (.cells #[.map (some w.heap.size)] 72)).alloc (.cells #[.slice A0 l0.length c0] 23)).heap.size = w.heap.size + 3 := by simp [World.size_alloc]
 generalize hW0 : ((w.alloc (.map #[] 0)).alloc (.cells #[.map (some w.heap.size)] 72)).alloc (.cells #[.slice A0 l0.length c0] 23) = W0 at *
 refine wpIn_rangeFunc_ownH (F := Fence.wide) rfl (by decide) (gf := 42) (lb := #[.pointer (some ⟨w.heap.size + 1 + 1, 0, none⟩)]) rfl trivial (enters_of Try.func42 (by kernel_rfl) rfl)
  (eachPage_stops Fence.wide 2 trivial rfl (by decide) (fun x => pageB x.2.2 = true) (w.heap.size + 1 + 1) A0 c0 l0 w _ hr0 (okSpots hf) hB0 bN.cell) belowK_t (belowK_b hB0.size) (Below.refl _ _) (fun _ => rfl)
  (fun pre W => (∃ n, n ≤ pre.length ∧ RecsIs Try.prog 3 W w.heap.size n (lastMapOf pre)) ∧ Boxed W (w.heap.size + 1) 72 (.map (some w.heap.size)) ∧ Below w.heap.size w W) (fun _ _ _ => False)
  (OwnFrom.and (RecsIs_own (by omega) _ _) (OwnFrom.and (Own.from (boxed_own _ _ (fun _ => _)) _) (ownFrom_below (Nat.le_refl _) hB0.size))) (fun _ _ _ _ _ hs _ _ => hs)
  ⟨⟨0, Nat.le_refl _, bM⟩, bV, hB0⟩
  (fun x a' W => ∃ Bx, w.heap.size + 1 < Bx ∧ PageBox W Bx x.1.2.2 ∧ a' = { tmps := #[.slice A0 l0.length c0, undef, .map none, .pointer (some ⟨w.heap.size + 1, 0, none⟩), undef, .pointer (some ⟨Bx, 0, none⟩), .map (some w.heap.size), .slice A0 l0.length c0, .func (.func 42) #[] #[.pointer (some ⟨w.heap.size + 1 + 1, 0, none⟩)], .agg #[.int .i64 (x.1.1 : Int), .int .i64 (x.1.2.1 : Int)], .agg #[.int .i64 x.1.2.2.f0, .int .i64 x.1.2.2.f1.f0, .int .i64 x.1.2.2.f1.f1, .int .i64 x.1.2.2.f1.f2, .int .i64 x.1.2.2.f1.f3], undef, undef, undef, undef, undef, undef, undef, undef, undef, undef, undef, undef, undef, undef, undef, undef, undef, undef, undef, undef, undef, undef], defers := [] })
  (fun x a' s X Y row hs hg hr => by obtain ⟨Bx, h1, h2, h3⟩ := hs; exact ⟨Bx, h1, PageBox.own Bx _ _ () X Y row h2 hg hr, h3⟩) ?assign ?body ?done ?stop
 case assign =>
  rintro l pre x W K ⟨⟨n, hn, hm⟩, hbv, hB⟩ hK
  gi_wp2
  exact hK _ _ ((KeepsOthers.alloc _ _).from _) ((Below.refl _ W).alloc hB.size _) ⟨⟨n, hn, hm.alloc _⟩, hbv.alloc _, hB.alloc hB.size _⟩ ⟨W.heap.size, hbv.lt, blk_new W _, rfl⟩
 case body =>
  rintro l pre x a' W hl ⟨r, hr⟩ ⟨⟨n, hn, hm⟩, hbv, hB⟩ ⟨Bx, hBx, bX, rfl⟩ hlt
  obtain ⟨hc0_, hc1_, hc2_, hc3_, hc4_⟩ := bX.cells
  have hcv := hbv.cell
  have hsn := lastMapOf_snoc pre x
  by_cases hs1 : x.1.2.2.f0 = 1
  rotate_left
  · have hs2 : (x.1.2.2.f0 == 1) = false := by simp [hs1]
    unfold mapStep at hsn
    rw [if_neg (fun h => hs1 h.1)] at hsn
    gi_wp2
    exact ⟨KeepsFrom.refl _ _, Below.refl _ _, ⟨n, by rw [List.length_append]; omega, by rw [hsn]; exact hm⟩, hbv, hB⟩
  have hs2 : (x.1.2.2.f0 == 1) = true := by simp [hs1]
  have hwf := okPage_wf x.2 hs1
  have hlk : (Instr.lookup 72 (.map (some w.heap.size)) (.int .i64 x.1.2.2.f1.f2) false).run Try.prog W = .ok (recVal ((lastMapOf pre x.1.2.2.f1.f2).getD (0, 0, 0, 0))) W := hm.look Try.underlying3 Try.underlying72 (by go_simp; rfl) hwf
  unfold recVal at hlk
  unfold mapStep at hsn
  generalize (lastMapOf pre x.1.2.2.f1.f2).getD (0, 0, 0, 0) = q at hlk hsn
  have hfd := field_seq (.int .i64 q.1) (.int .i64 q.2.1) (.int .i64 q.2.2.1) (.int .i64 q.2.2.2)
  by_cases hv : q.2.1 < x.1.2.2.f1.f1
  rotate_left
  · have hv2 : decide (q.2.1 < x.1.2.2.f1.f1) = false := decide_eq_false hv
    rw [if_neg (fun h => hv h.2)] at hsn
    have HSN := am hsn
    clear hsn
    gi_wp2
    exact ⟨KeepsFrom.refl _ _, Below.refl _ _, ⟨n, by rw [List.length_append]; omega, by rw [HSN.out]; exact hm⟩, hbv, hB⟩
  have hv2 : decide (q.2.1 < x.1.2.2.f1.f1) = true := decide_eq_true hv
  rw [if_pos ⟨hs1, hv⟩] at hsn
  obtain ⟨w1, hrun, hm1, hg1⟩ := hm.put (E := 32) (T := 72) Try.underlying3 Try.underlying72 (by simp only [maxLen]; omega) hwf (recOf x.1.2.2.f1)
  unfold recVal recOf at hrun
  have OK1 := am (KeepsFrom.of_grownBy (B := w.heap.size + 3) hg1 (fun j e => by cases e; omega))
  have OK2 := am ((Below.refl w.heap.size W).grown hg1 hB.size (fun j e => by cases e; exact Nat.le_refl _))
  have OK3 := am (hbv.kept hg1 (by intro e; injection e with e; omega))
  have OK4 := am (hB.grown hg1 hB.size (fun j e => by cases e; exact Nat.le_refl _))
  have OK5 := am hm1
  have HSN := am hsn
  clear hm1 hg1 hsn
  gi_wp2
  exact ⟨OK1.out, OK2.out, ⟨n + 1, by rw [List.length_append]; simp; omega, by rw [HSN.out]; exact OK5.out⟩, OK3.out, OK4.out⟩
 case done =>
  rintro D ys W hD hys ⟨⟨n, hn, hm⟩, hbv, hB⟩ hK
  rw [lastMapOf_all hys] at hm
  have hcv := hbv.cell
  gi_wp2
  refine ⟨by simp, .inl ⟨_, _, rfl, run_takeDeferred hK, ?_⟩⟩
  have hm2 := hm.kept (grownBy_putObj' W D (.deferred none)) (fun e => by injection e with e; omega)
  exact ⟨_, results_tmp rfl _ _ _, w.heap.size, n, rfl, hm2, Nat.le_refl _, hB.trans (belowK_b (w := w) (Nat.le_refl _) W D _ _ (by have := hB0.size; omega) hK rfl rfl)⟩
 case stop =>
  rintro D c pre W _ _ h _
  exact h.elim
open Go.Proofs.YtenmnclkbleglaaW
attribute [local go_sem] Oper.semAt_some
theorem isDirty_any (a b c d : Int) (w : World) : CallsIn Fence.wide 2 Try.prog 30 #[.agg #[.int .i64 a, .int .i64 b, .int .i64 c, .int .i64 d]] w fun e w' => e = .returned (.bool (a == 1)) ∧ w' = w.alloc (.cells #[.int .i64 a, .int .i64 b, .int .i64 c, .int .i64 d] 32) := by
 have hu := Try.underlying32
 refine callsIn_of_wp Try.func30 rfl trivial ?_ rfl
 simp only [Try.ntmps30, List.size_toArray, List.length_cons, List.length_nil, Nat.reduceAdd, Nat.reduceSub, Array.replicate_succ, Array.replicate_zero, List.push_toArray, List.append_toArray, List.nil_append, List.cons_append]
 gi_wp2
 go_ret
 exact ⟨rfl, rfl⟩
def okAt (M : RecMap) (d : Int) (i : Nat) : Bool := valB d && (match M ((i : Int) + 1) with
 | none => true
 | some r => decide (r.1 = 1 ∨ r.2.2.2 = d))
def diskN (M : RecMap) (l1 : List Int) : Nat → Bool
 | 0 => true
 | i + 1 => diskN M l1 i && okAt M (rd l1 (i : Int)) i
theorem diskN_no {M : RecMap} {l1 : List Int} {i : Nat} (h : okAt M (rd l1 (i : Int)) i = false) : ∀ n, i < n → diskN M l1 n = false
 | 0, hn => by omega
 | n + 1, hn => by
  rw [diskN]
  by_cases e : i = n
  · subst e; rw [h, Bool.and_false]
  rw [diskN_no h n (by omega), Bool.false_and]
def storeOkB (l0 : List S42) (l1 : List Int) : Bool := decide ((l1.length : Int) = 6) && (orderI l0 && diskN (lastMap l0) l1 6)
def impl_StoreOk.f (l0_0 : List (S42)) (l0_1 : List Int) : Option (Bool) := some (storeOkB l0_0 l0_1)
theorem order_flash {l : List S42} (h : orderI l = true) : flashOkB l = true := by
 unfold orderI at h
 rw [Bool.and_eq_true] at h
 exact h.1
theorem impl_StoreOk.calls (A0_0 : Option Addr) (c0_0 : Nat) (l0_0 : List (S42)) (A0_1 : Option Addr) (c0_1 : Nat) (l0_1 : List Int) (r : Bool) (w : World) (hr0_0 : Kd.C k42 w A0_0 l0_0.length l0_0) (hc0_0 : l0_0.length ≤ c0_0) (hr0_1 : Kd.C (Kd.int .i64) w A0_1 l0_1.length l0_1) (hc0_1 : l0_1.length ≤ c0_1) (h : impl_StoreOk.f l0_0 l0_1 = some r) :
 Calls Try.prog 14 #[.agg #[.slice A0_0 l0_0.length c0_0, .slice A0_1 l0_1.length c0_1]] w fun e w' => e = .returned (.bool r) ∧ Below w.heap.size w w' := by
 obtain rfl := Option.some.inj h
 clear h
 refine (callsIn_wide (n := 3)).1 ?_
 have hu := Try.underlying26
 have hu2 := Try.underlying32
 have hor : ∀ W, Below w.heap.size w W → CallsIn Fence.wide 2 Try.prog 28 #[.slice A0_0 l0_0.length c0_0] W fun e w' => e = .returned (.bool (orderI l0_0)) ∧ Below W.heap.size W w' := fun W hb => callsIn_wide.2 (impl_FindOrder.calls A0_0 c0_0 l0_0 _ W (Kd.C_below hr0_0 hb) hc0_0 rfl)
 have hbox := blk_new w (.cells #[.slice A0_0 l0_0.length c0_0, .slice A0_1 l0_1.length c0_1] 26)
 have hB1 := below_alloc (Below.refl _ w) (.cells #[.slice A0_0 l0_0.length c0_0, .slice A0_1 l0_1.length c0_1] 26)
 unfold storeOkB
 by_cases c6 : (l0_1.length : Int) = 6
 rotate_left
 · have c6b : ((l0_1.length : Int) != 6) = true := by simp [c6]
   rw [decide_eq_false c6, Bool.false_and]
   refine callsIn_of_wp Try.func14 rfl trivial ?_ rfl
   simp only [Try.ntmps14, List.size_toArray, List.length_cons, List.length_nil, Nat.reduceAdd, Nat.reduceSub, Array.replicate_succ, Array.replicate_zero, List.push_toArray, List.append_toArray, List.nil_append, List.cons_append]
   gi_wp2_with (first | (refine And.intro (show Fence.wide.fn 28 from trivial) ?_))
   go_ret
   exact ⟨rfl, hB1⟩
 have c6b : ((l0_1.length : Int) != 6) = false := by simp [c6]
 rw [decide_eq_true c6, Bool.true_and]
 cases ho : orderI l0_0 with
 | false =>
  rw [ho] at hor
  refine callsIn_of_wp Try.func14 rfl trivial ?_ rfl
  simp only [Try.ntmps14, List.size_toArray, List.length_cons, List.length_nil, Nat.reduceAdd, Nat.reduceSub, Array.replicate_succ, Array.replicate_zero, List.push_toArray, List.append_toArray, List.nil_append, List.cons_append]
  gi_wp2_with (first | (refine ⟨trivial, ?_⟩; gi_at_call 28; refine (hor _ hB1).mono ?_; rintro e w1 ⟨rfl, hb⟩))
  go_ret
  exact ⟨rfl, below_then hB1 hB1.size hb⟩
 | true =>
  rw [ho] at hor
  have hf := order_flash ho
  have hl : l0_1.length = 6 := by omega
  have hlr : ∀ W, Below w.heap.size w W → CallsIn Fence.wide 2 Try.prog 29 #[.slice A0_0 l0_0.length c0_0] W fun e w' => ∃ B n, e = .returned (.map (some B)) ∧ RecsIs Try.prog 3 w' B n (lastMap l0_0) ∧ W.heap.size ≤ B ∧ Below W.heap.size W w' := fun W hb => callsIn_wide.2 (lastRecords_any A0_0 c0_0 l0_0 W (Kd.C_below hr0_0 hb) hf)
  generalize lastMap l0_0 = M at hlr ⊢
  rw [Bool.true_and]
  obtain ⟨V, hV⟩ : ∃ V : Bool, diskN M l0_1 6 = V := ⟨_, rfl⟩
  rw [hV]
  have HV := am hV
  clear hV
  rw [hl] at hbox hB1 ⊢
  refine callsIn_of_wp Try.func14 rfl trivial ?_ rfl
  simp only [Try.ntmps14, List.size_toArray, List.length_cons, List.length_nil, Nat.reduceAdd, Nat.reduceSub, Array.replicate_succ, Array.replicate_zero, List.push_toArray, List.append_toArray, List.nil_append, List.cons_append]
  gi_wp2_with (first | (refine ⟨trivial, ?_⟩; gi_at_call 28; refine (hor _ hB1).mono ?_; rintro e w1 ⟨rfl, hb⟩; have hbox1 := blk_below hbox hb; have hB2 := below_then hB1 hB1.size hb; have hq0 : w1.cell? ⟨w.heap.size, 0, none⟩ = some (.slice A0_0 l0_0.length c0_0) := (blk_cell hbox1 0).trans rfl) | (refine ⟨trivial, ?_⟩; gi_at_call 29; refine (hlr _ hB2).mono ?_; rintro e w2 ⟨B, n, rfl, hm, hBq, hb2⟩; have hB3 := below_then hB2 hB2.size hb2; have hbox2 := blk_below hbox1 hb2; have hq1 : w2.cell? ⟨w.heap.size, 1, none⟩ = some (.slice A0_1 6 c0_1) := (blk_cell hbox2 1).trans rfl))
  clear hor hlr
  gi_loopw [25] (fun v25 wr => ∃ i : Nat, v25 = .int .i64 (i : Int) ∧ i ≤ 6 ∧ Aside0 (diskN M l0_1 i = true) ∧ Aside0 (RecsIs Try.prog 3 wr B n M) ∧ Aside0 (Below w.heap.size w wr)) (fun v25 _ => 6 - (intOf v25).toNat)
  case atStart => exact ⟨0, rfl, by omega, ⟨rfl⟩, ⟨hm⟩, ⟨hB3⟩⟩
  case round =>
   clear hm hB3 hB2 hB1 hbox hbox1 hbox2 hq0 hq1
   obtain ⟨i, rfl, hi, hd, hm, hB⟩ := hrel
   by_cases ci : i < 6
   rotate_left
   · obtain rfl : i = 6 := by omega
     gi_wp2
     go_ret
     exact ⟨by rw [← HV.out, hd.out]; rfl, hB.out⟩
   have cib : decide ((i : Int) < 6) = true := decide_eq_true (by omega)
   have p1 : 0 ≤ (i : Int) := by omega
   have q1 : (i : Int) < 6 := by omega
   obtain ⟨ad1, e1, hx1⟩ := Kd.at_int hr0_1 (i : Int) p1 (by omega)
   cases e1
   replace hx1 := (hB.out.cell (World.block_lt_of_cell? w _ hx1)).trans hx1
   simp only [Int.toNat_natCast] at hx1
   have hno := fun h => diskN_no (M := M) (l1 := l0_1) (i := i) h 6 ci
   have hst : diskN M l0_1 (i + 1) = (diskN M l0_1 i && okAt M (rd l0_1 (i : Int)) i) := rfl
   rw [hd.out, Bool.true_and] at hst
   have hva : ∀ W, CallsIn Fence.wide 2 Try.prog 31 #[.int .i64 (rd l0_1 (i : Int))] W fun e w' => e = .returned (.bool (valB (rd l0_1 (i : Int)))) ∧ W = w' := fun W => callsIn_wide.2 (valOk_any _ W)
   generalize rd l0_1 (i : Int) = d at hx1 hno hst hva
   have hwf : (Lit.int .i64 ((i : Int) + 1)).wf = true := WalkArith.wf_i64 ⟨by omega, by omega⟩
   have hlk := hm.out.look_ok (T := 72) (E := 32) Try.underlying3 Try.underlying72 (by go_simp; rfl) hwf
   unfold okAt at hno hst
   cases hv : valB d with
   | false =>
    rw [hv] at hva hno
    have hx : V = false := by rw [← HV.out, hno (by rw [Bool.false_and])]
    have HX := am hx
    clear hx hlk hno hst hwf
    gi_wp2_with (first | (refine ⟨trivial, ?_⟩; gi_at_call 31; refine (hva _).mono ?_; rintro e w3 ⟨rfl, rfl⟩))
    go_ret
    exact ⟨by rw [HX.out]; rfl, hB.out⟩
   | true =>
    rw [hv, Bool.true_and] at hno hst
    rw [hv] at hva
    cases hM : M ((i : Int) + 1) with
    | none =>
     rw [hM] at hlk hst
     have HST := am hst
     simp only [Option.getD_none, Option.isSome_none, recVal] at hlk
     clear hst hno hwf
     gi_wp2_with (first | (refine ⟨trivial, ?_⟩; gi_at_call 31; refine (hva _).mono ?_; rintro e w3 ⟨rfl, rfl⟩))
     refine ⟨fun _ h => (by cases h), ?_⟩
     gi_wp2
     exact ⟨⟨i + 1, by simp, by omega, HST, ⟨hm.out.alloc _⟩, ⟨below_alloc hB.out _⟩⟩, by simp [intOf]; omega⟩
    | some q =>
     obtain ⟨qa, qb, qc, qd⟩ := q
     rw [hM] at hlk hst hno
     simp only [Option.getD_some, Option.isSome_some, recVal] at hlk
     dsimp only at hst hno
     have hdi := isDirty_any qa qb qc qd
     by_cases k1 : qa = 1
     · have k1b : (qa == 1) = true := by simp [k1]
       have HST : Aside0 (diskN M l0_1 (i + 1) = true) := ⟨by rw [hst, decide_eq_true (Or.inl k1)]⟩
       rw [k1b] at hdi
       subst k1
       clear hst hno hwf
       gi_wp2_with (first | (refine ⟨trivial, ?_⟩; gi_at_call 31; refine (hva _).mono ?_; rintro e w3 ⟨rfl, rfl⟩) | (refine ⟨trivial, ?_⟩; gi_at_call 30; refine (hdi _).mono ?_; rintro e w3 ⟨rfl, rfl⟩))
       exact ⟨⟨i + 1, by simp, by omega, HST, ⟨(hm.out.alloc _).alloc _⟩, ⟨below_alloc (below_alloc hB.out _) _⟩⟩, by simp [intOf]; omega⟩
     have k1b : (qa == 1) = false := by simp [k1]
     rw [k1b] at hdi
     by_cases k2 : qd = d
     rotate_left
     · have k2b : (qd != d) = true := by simp [k2]
       have hx : V = false := by rw [← HV.out, hno (decide_eq_false (fun h => h.elim k1 k2))]
       have HX := am hx
       clear hx hst hno hwf
       gi_wp2_with (first | (refine ⟨trivial, ?_⟩; gi_at_call 31; refine (hva _).mono ?_; rintro e w3 ⟨rfl, rfl⟩) | (refine ⟨trivial, ?_⟩; gi_at_call 30; refine (hdi _).mono ?_; rintro e w3 ⟨rfl, rfl⟩))
       go_ret
       exact ⟨by rw [HX.out]; rfl, below_alloc (below_alloc hB.out _) _⟩
     have k2b : (qd != d) = false := by simp [k2]
     have HST : Aside0 (diskN M l0_1 (i + 1) = true) := ⟨by rw [hst, decide_eq_true (Or.inr k2)]⟩
     subst k2
     clear hst hno hwf
     gi_wp2_with (first | (refine ⟨trivial, ?_⟩; gi_at_call 31; refine (hva _).mono ?_; rintro e w3 ⟨rfl, rfl⟩) | (refine ⟨trivial, ?_⟩; gi_at_call 30; refine (hdi _).mono ?_; rintro e w3 ⟨rfl, rfl⟩))
     exact ⟨⟨i + 1, by simp, by omega, HST, ⟨(hm.out.alloc _).alloc _⟩, ⟨below_alloc (below_alloc hB.out _) _⟩⟩, by simp [intOf]; omega⟩
mutual
def impl_FindOpen.l0 : Nat → List (S42) → List (S42) → Int → Int → Option (Int × Bool)
 | 0, _, _, _, _ => none
 | k + 1, x0, x13, x14, x15 => if x15 < x14 then (if 0 ≤ x15 then (if x15 < (x13.length : Int) then ((impl_partlyUsed.f k ((rd_T42 x13 x15).f0) ((rd_T42 x13 x15).f1)).bind fun t391 => (if t391 = true then (some (x15, true)) else (impl_FindOpen.l0 k x0 x13 x14 (wrap64 (x15 + 1))))) else (none)) else (none)) else (impl_FindOpen.l1 k x0 0 false x0 (x0.length : Int) 0)
def impl_FindOpen.l1 : Nat → List (S42) → Int → Bool → List (S42) → Int → Int → Option (Int × Bool)
 | 0, _, _, _, _, _, _ => none
 | k + 1, x0, x6, x7, x24, x25, x26 => if x26 < x25 then (if 0 ≤ x26 then (if x26 < (x24.length : Int) then ((impl_freePages.f k ((rd_T42 x24 x26).f0) ((rd_T42 x24 x26).f1)).bind fun t394 => (if t394 = 4 then (if x7 = true then (if 0 ≤ x6 then (if x6 < (x0.length : Int) then (if ((rd_T42 x24 x26).f1) < ((rd_T42 x0 x6).f1) then (impl_FindOpen.l1 k x0 x26 true x24 x25 (wrap64 (x26 + 1))) else (impl_FindOpen.l1 k x0 x6 x7 x24 x25 (wrap64 (x26 + 1)))) else (none)) else (none)) else (impl_FindOpen.l1 k x0 x26 true x24 x25 (wrap64 (x26 + 1)))) else (impl_FindOpen.l1 k x0 x6 x7 x24 x25 (wrap64 (x26 + 1))))) else (none)) else (none)) else (some (x6, x7))
end
def impl_FindOpen.f (k : Nat) (l0 : List (S42)) : Option (Int × Bool) := (impl_FlashOk.f l0).bind fun t388 => (if t388 = true then (impl_FindOpen.l0 k l0 l0 (l0.length : Int) 0) else (some (0, false)))
def impl_FindOpen.T13 : Bool × List (List Nat × List Nat) := (true, [([], []), ([0], [0]), ([1], [1]), ([2, 1], [2]), ([3], [3]), ([4, 3], [3, 4]), ([5, 3, 3], [3, 5]), ([6], [6]), ([7, 6], [6, 7]), ([6], [6]), ([6], [6]), ([9, 10, 6], [6, 9, 10]), ([11, 6], [6, 11]), ([12, 6], [6, 12]), ([8, 13, 6], [6, 8, 13]), ([6, 14, 3], [3, 6, 14]), ([3, 15], [3, 15])])
def impl_FindOpen.B13 : List Nat := [0, 1, 3, 7, 15, 31, 63, 127, 255, 127, 127, 1663, 3711, 7807, 16383, 32767, 65535]
theorem impl_FindOpen.tab13 : rtab .any (opsOf Try.f7 13) = impl_FindOpen.T13 := by kernel_rfl
theorem impl_FindOpen.bits13 : waitsOk impl_FindOpen.T13.2 impl_FindOpen.B13 = true := by kernel_rfl
theorem impl_FindOpen.calls (k : Nat) (A0 : Option Addr) (c0 : Nat) (l0 : List (S42)) (r1 : Int) (r2 : Bool) (w : World) (hr0 : Kd.C k42 w A0 l0.length l0) (hc0 : l0.length ≤ c0) (h : impl_FindOpen.f k l0 = some (r1, r2)) :
 Calls Try.prog 7 #[.slice A0 l0.length c0] w fun e w' => e = .returned (.tuple #[.int .i64 r1, .bool r2]) ∧ Below w.heap.size w w' := by
 have hu42 := Try.underlying42
 have HR0 := am hr0
 have HC0 := am hc0
 clear hr0 hc0
 have HB := am (Below.refl w.heap.size w)
 have H : ((impl_FlashOk.f l0).bind fun t388 => (if t388 = true then (impl_FindOpen.l0 k l0 l0 (l0.length : Int) 0) else (some (0, false)))) = some (r1, r2) := h
 clear h
 replace H := Option.bind_eq_some_iff.mp H
 obtain ⟨t388, A20, H⟩ := H
 have A2 := am A20
 clear A20
 by_cases c3 : t388 = true
 rotate_left
 · replace c3 := Bool.eq_false_iff.mpr c3
   subst c3
   rw [if_neg (show ¬ (false = true) by decide)] at H
   simp only [Option.some.injEq, Prod.mk.injEq] at H
   obtain ⟨rfl, rfl⟩ := H
   go_enter Try.func7, Try.ntmps7
   go_wp2_with (first | (refine gl 11 Try.func18 #[.slice A0 l0.length c0] rfl ?_; (with_reducible refine (impl_FlashOk.calls _ _ l0 false _ ?side1 ?side2 A2.out).mono ?_); (case side1 => exact pc HR0.out); (case side2 => exact HC0.out); rintro e w45 ⟨rfl, hb⟩; refine ⟨_, rfl, ?_⟩; replace HB := am (below_step (ph HB.out) hb); clear hb))
   go_ret2
   exact (rq (ph HB.out))
 subst c3
 rw [if_pos rfl] at H
 have H' := am H
 clear H
 go_enter Try.func7, Try.ntmps7
 go_wp2_with (first | (refine gl 11 Try.func18 #[.slice A0 l0.length c0] rfl ?_; (with_reducible refine (impl_FlashOk.calls _ _ l0 true _ ?side1 ?side2 A2.out).mono ?_); (case side1 => exact pc HR0.out); (case side2 => exact HC0.out); rintro e w4 ⟨rfl, hb⟩; refine ⟨_, rfl, ?_⟩; replace HB := am (below_step (ph HB.out) hb); clear hb))
 go_loopg [15] k (fun kq v15 w' => ∃ (x15_1 : Int), v15 = .int .i64 x15_1 ∧ Aside0 (impl_FindOpen.l0 kq l0 l0 (l0.length : Int) x15_1 = some (r1, r2)) ∧ Aside0 (kq ≤ k) ∧ Aside0 (Below w.heap.size w w'))
 case atStart => exact ⟨(0), rf, H', ⟨Nat.le_refl _⟩, ⟨ph HB.out⟩⟩
 case round =>
  clear H'
  obtain ⟨x15_1, rfl, HA, HK1, HB⟩ := hrel
  cases gk with
  | zero => exact absurd HA.out (by simp [impl_FindOpen.l0])
  | succ k1 =>
   have H := HA.out
   clear HA
   simp only [impl_FindOpen.l0] at H
   by_cases c5 : x15_1 < (l0.length : Int)
   · rw [if_pos c5] at H
     have c5b0 := decide_eq_true c5
     clear c5
     obtain ⟨c6b0, H⟩ := ifd H
     obtain ⟨c7b0, H⟩ := ifd H
     replace H := Option.bind_eq_some_iff.mp H
     obtain ⟨t391, A80, H⟩ := H
     have A8 := am A80
     clear A80
     by_cases c9 : t391 = true
     · subst c9
       rw [if_pos rfl] at H
       simp only [Option.some.injEq, Prod.mk.injEq] at H
       obtain ⟨rfl, rfl⟩ := H
       have p389 : 0 ≤ (x15_1 : Int) := ofb
       have q389 : x15_1 < (l0.length : Int) := ofb
       obtain ⟨ad389, A389_0, c389_0, e389, hx389_0, hx389_1, hl389_0, hi389_0⟩ := at_T42 HR0.out x15_1 p389 q389
       cases e389
       replace hx389_0 := up HB.out hx389_0
       replace hx389_1 := up HB.out hx389_1
       have HR389_0 := am hi389_0
       have HC389_0 := am hl389_0
       clear hi389_0 hl389_0
       replace p389 := eq_true p389
       replace q389 := eq_true q389
       go_wp2_with (first | (refine bx 5 #[.slice none 0 0, .int .i64 0] 42 rfl ?_; intro gb390 hg w10 hbox hb; have BK390 := am (hbox); have GW390 := am (ge hg (ph HB.out)); have GE390 := GW390; replace HB := am (below_step (ph HB.out) hb); clear hb hbox hg; obtain ⟨hcz11_0, hcz11_1⟩ := b2 BK390.out; obtain ⟨hfz11_0, hfz11_1⟩ := f2 BK390.out) | (refine gl 21 Try.func19 #[.agg #[.slice A389_0 ((rd_T42 l0 x15_1).f0).length c389_0, .int .i64 ((rd_T42 l0 x15_1).f1)]] rfl ?_; (with_reducible refine (impl_partlyUsed.calls k1 _ _ ((rd_T42 l0 x15_1).f0) ((rd_T42 l0 x15_1).f1) true _ ?side1 ?side2 A8.out).mono ?_); (case side1 => exact Kd.C_below HR389_0.out (bg1 HB.out GE390.out)); (case side2 => exact HC389_0.out); rintro e w12 ⟨rfl, hb⟩; refine ⟨_, rfl, ?_⟩; replace BK390 := am (blk_below (bp2 (pb BK390.out)) hb); replace HB := am (below_step (bg1 HB.out GE390.out) hb); clear hb))
       go_ret2
       exact (rq (bg1 HB.out GE390.out))
     replace c9 := Bool.eq_false_iff.mpr c9
     subst c9
     rw [if_neg (show ¬ (false = true) by decide)] at H
     have H' := am H
     clear H
     have p389 : 0 ≤ (x15_1 : Int) := ofb
     have q389 : x15_1 < (l0.length : Int) := ofb
     obtain ⟨ad389, A389_0, c389_0, e389, hx389_0, hx389_1, hl389_0, hi389_0⟩ := at_T42 HR0.out x15_1 p389 q389
     cases e389
     replace hx389_0 := up HB.out hx389_0
     replace hx389_1 := up HB.out hx389_1
     have HR389_0 := am hi389_0
     have HC389_0 := am hl389_0
     clear hi389_0 hl389_0
     replace p389 := eq_true p389
     replace q389 := eq_true q389
     go_wp2_with (first | (refine bx 5 #[.slice none 0 0, .int .i64 0] 42 rfl ?_; intro gb390 hg w13 hbox hb; have BK390 := am (hbox); have GW390 := am (ge hg (ph HB.out)); have GE390 := GW390; replace HB := am (below_step (ph HB.out) hb); clear hb hbox hg; obtain ⟨hcz14_0, hcz14_1⟩ := b2 BK390.out; obtain ⟨hfz14_0, hfz14_1⟩ := f2 BK390.out) | (refine gl 21 Try.func19 #[.agg #[.slice A389_0 ((rd_T42 l0 x15_1).f0).length c389_0, .int .i64 ((rd_T42 l0 x15_1).f1)]] rfl ?_; (with_reducible refine (impl_partlyUsed.calls k1 _ _ ((rd_T42 l0 x15_1).f0) ((rd_T42 l0 x15_1).f1) false _ ?side1 ?side2 A8.out).mono ?_); (case side1 => exact Kd.C_below HR389_0.out (bg1 HB.out GE390.out)); (case side2 => exact HC389_0.out); rintro e w15 ⟨rfl, hb⟩; refine ⟨_, rfl, ?_⟩; replace BK390 := am (blk_below (bp2 (pb BK390.out)) hb); replace HB := am (below_step (bg1 HB.out GE390.out) hb); clear hb))
     go_roundg k1
     case measure => have := HK1.out; omega
     case rel => exact ⟨(wrap64 (x15_1 + 1)), rf, H', ⟨by have := HK1.out; omega⟩, ⟨bg1 HB.out GE390.out⟩⟩
   rw [if_neg c5] at H
   have c5b0 := decide_eq_false c5
   clear c5
   have H' := am H
   clear H
   go_wp2
   go_loopg [6, 7, 26] k1 (fun kq v6 v7 v26 w' => ∃ (x6_2 : Int) (x7_2 : Bool) (x26_2 : Int), v6 = .int .i64 x6_2 ∧ v7 = .bool x7_2 ∧ v26 = .int .i64 x26_2 ∧ Aside0 (impl_FindOpen.l1 kq l0 x6_2 x7_2 l0 (l0.length : Int) x26_2 = some (r1, r2)) ∧ Aside0 (kq ≤ k1) ∧ Aside0 (Below w.heap.size w w'))
   case atStart => exact ⟨(0), (false), (0), rf, rf, rf, H', ⟨Nat.le_refl _⟩, ⟨ph HB.out⟩⟩
   case round =>
    clear H'
    obtain ⟨x6_2, x7_2, x26_2, rfl, rfl, rfl, HA, HK2, HB⟩ := hrel
    cases gk with
    | zero => exact absurd HA.out (by simp [impl_FindOpen.l1])
    | succ k2 =>
     have H := HA.out
     clear HA
     simp only [impl_FindOpen.l1] at H
     by_cases c16 : x26_2 < (l0.length : Int)
     rotate_left
     · rw [if_neg c16] at H
       have c16b0 := decide_eq_false c16
       clear c16
       simp only [Option.some.injEq, Prod.mk.injEq] at H
       obtain ⟨rfl, rfl⟩ := H
       go_wp2
       go_ret2
       exact (rq (ph HB.out))
     rw [if_pos c16] at H
     have c16b0 := decide_eq_true c16
     clear c16
     obtain ⟨c17b0, H⟩ := ifd H
     obtain ⟨c18b0, H⟩ := ifd H
     replace H := Option.bind_eq_some_iff.mp H
     obtain ⟨t394, A190, H⟩ := H
     have A19 := am A190
     clear A190
     by_cases c20 : t394 = 4
     rotate_left
     · rw [if_neg c20] at H
       have c20b0 : (t394 == 4) = false := beq_eq_false_iff_ne.mpr c20
       have c20b1 : (t394 != 4) = true := bne_iff_ne.mpr c20
       have H' := am H
       clear H
       have p392 : 0 ≤ (x26_2 : Int) := ofb
       have q392 : x26_2 < (l0.length : Int) := ofb
       obtain ⟨ad392, A392_0, c392_0, e392, hx392_0, hx392_1, hl392_0, hi392_0⟩ := at_T42 HR0.out x26_2 p392 q392
       cases e392
       replace hx392_0 := up HB.out hx392_0
       replace hx392_1 := up HB.out hx392_1
       have HR392_0 := am hi392_0
       have HC392_0 := am hl392_0
       clear hi392_0 hl392_0
       replace p392 := eq_true p392
       replace q392 := eq_true q392
       try go_wp2_with (first | (refine bx 9 #[.slice none 0 0, .int .i64 0] 42 rfl ?_; intro gb393 hg w40 hbox hb; have BK393 := am (hbox); have GW393 := am (ge hg (ph HB.out)); have GE393 := GW393; replace HB := am (below_step (ph HB.out) hb); clear hb hbox hg; obtain ⟨hcz41_0, hcz41_1⟩ := b2 BK393.out; obtain ⟨hfz41_0, hfz41_1⟩ := f2 BK393.out))
       have n0_ : Aside0 (((w40.setCell ⟨gb393, 0, none⟩ (.slice A392_0 ((rd_T42 l0 x26_2).f0).length c392_0)).setCell ⟨gb393, 1, none⟩ (.int .i64 ((rd_T42 l0 x26_2).f1))).heap[gb393]? = some (.cells #[.slice A392_0 ((rd_T42 l0 x26_2).f0).length c392_0, .int .i64 ((rd_T42 l0 x26_2).f1)] 42 (0, 0))) := ⟨bp2 (pb BK393.out)⟩
       have n1_ : Aside0 (Below w.heap.size w ((w40.setCell ⟨gb393, 0, none⟩ (.slice A392_0 ((rd_T42 l0 x26_2).f0).length c392_0)).setCell ⟨gb393, 1, none⟩ (.int .i64 ((rd_T42 l0 x26_2).f1)))) := ⟨bg1 HB.out GE393.out⟩
       (try clear BK393)
       (try clear HB)
       generalize ((w40.setCell ⟨gb393, 0, none⟩ (.slice A392_0 ((rd_T42 l0 x26_2).f0).length c392_0)).setCell ⟨gb393, 1, none⟩ (.int .i64 ((rd_T42 l0 x26_2).f1))) = w42 at n0_ n1_ ⊢
       have BK393 := n0_
       have HB := n1_
       clear n0_ n1_
       replace BK393 := am (blk_drew BK393.out)
       replace HB := am (below_drew1 HB.out)
       refine start_ (n := 17) (S := fun w' => w'.cell? ⟨gb393, 0, none⟩ = some (.slice A392_0 ((rd_T42 l0 x26_2).f0).length c392_0) ∧ w'.cell? ⟨gb393, 1, none⟩ = some (.int .i64 ((rd_T42 l0 x26_2).f1))) (ds := []) (bt 17 0) (by kernel_rfl) rfl rfl ⟨(blk_cell BK393.out 0).trans rfl, (blk_cell BK393.out 1).trans rfl⟩ (fun hHeld => ?_); refine with_tabW impl_FindOpen.tab13 impl_FindOpen.bits13 (fun HT_ HW_ => ?_)
       generalize w42.drew = w43 at BK393 HB hHeld ⊢
       refine qm 0 31 (bt 17 1) rfl rfl HT_.out HW_.out hHeld ?_
       refine qo 1 (some 32) (bt 17 3) rfl rfl HT_.out fun K hK => ?_
       refine qg Try.func20 #[.agg #[.slice A392_0 ((rd_T42 l0 x26_2).f0).length c392_0, .int .i64 ((rd_T42 l0 x26_2).f1)]] rfl rfl ?_
       with_reducible refine (impl_freePages.calls k2 _ _ ((rd_T42 l0 x26_2).f0) ((rd_T42 l0 x26_2).f1) t394 _ ?side1 ?side2 A19.out).mono ?_
       (case side1 => exact pc (Kd.C_below HR392_0.out HB.out))
       (case side2 => exact HC392_0.out)
       rintro e w44 ⟨rfl, hb⟩
       refine ⟨_, rfl, ?_⟩
       replace BK393 := am (blk_below (pb BK393.out) hb)
       replace HB := am (below_step (bg1 HB.out GE393.out) hb)
       clear hb
       refine hK.out _ _ ⟨(blk_cell BK393.out 0).trans rfl, (blk_cell BK393.out 1).trans rfl⟩ (fun hHeld => ?_)
       clear hK K
       refine qn (some 32) ?_
       refine qj 2 33 (bt 17 7) rfl rfl HT_.out ?_
       refine qj 3 34 (bt 17 15) rfl rfl HT_.out ?_
       refine qv 4 35 (bt 17 31) rfl rfl HT_.out ?_
       refine qv 5 36 (bt 17 63) rfl rfl HT_.out ?_
       refine qv 6 37 (bt 17 127) rfl rfl HT_.out ?_
       refine qv 7 38 (bt 17 255) rfl rfl HT_.out ?_
       refine qv 8 39 (bt 17 511) rfl rfl HT_.out ?_
       refine qv 9 40 (bt 17 1023) rfl rfl HT_.out ?_
       refine qv 10 41 (bt 17 2047) rfl rfl HT_.out ?_
       refine qv 11 42 (bt 17 4095) rfl rfl HT_.out ?_
       refine qv 12 43 (bt 17 8191) rfl rfl HT_.out ?_
       refine qv 13 44 (bt 17 16383) rfl rfl HT_.out ?_
       refine qv 14 45 (bt 17 32767) rfl rfl HT_.out ?_
       refine qv 15 46 (bt 17 65535) rfl rfl HT_.out ?_
       refine qj 16 47 (bt 17 131071) rfl rfl HT_.out ?_
       refine done_ (done_of HT_.out (by kernel_rfl)) ?_
       try go_wp2
       go_roundg k2
       case measure => have := HK1.out; have := HK2.out; omega
       case rel => exact ⟨(x6_2), (x7_2), (wrap64 (x26_2 + 1)), rf, rf, rf, H', ⟨by have := HK1.out; have := HK2.out; omega⟩, ⟨bg1 HB.out GE393.out⟩⟩
     rw [if_pos c20] at H
     have c20b0 : (t394 == 4) = true := beq_iff_eq.mpr c20
     have c20b1 : (t394 != 4) = false := bne_eq_false_iff_eq.mpr c20
     clear c20
     by_cases c21 : x7_2 = true
     rotate_left
     · replace c21 := Bool.eq_false_iff.mpr c21
       subst c21
       rw [if_neg (show ¬ (false = true) by decide)] at H
       have H' := am H
       clear H
       have p392 : 0 ≤ (x26_2 : Int) := ofb
       have q392 : x26_2 < (l0.length : Int) := ofb
       obtain ⟨ad392, A392_0, c392_0, e392, hx392_0, hx392_1, hl392_0, hi392_0⟩ := at_T42 HR0.out x26_2 p392 q392
       cases e392
       replace hx392_0 := up HB.out hx392_0
       replace hx392_1 := up HB.out hx392_1
       have HR392_0 := am hi392_0
       have HC392_0 := am hl392_0
       clear hi392_0 hl392_0
       replace p392 := eq_true p392
       replace q392 := eq_true q392
       try go_wp2_with (first | (refine bx 9 #[.slice none 0 0, .int .i64 0] 42 rfl ?_; intro gb393 hg w35 hbox hb; have BK393 := am (hbox); have GW393 := am (ge hg (ph HB.out)); have GE393 := GW393; replace HB := am (below_step (ph HB.out) hb); clear hb hbox hg; obtain ⟨hcz36_0, hcz36_1⟩ := b2 BK393.out; obtain ⟨hfz36_0, hfz36_1⟩ := f2 BK393.out))
       have n0_ : Aside0 (((w35.setCell ⟨gb393, 0, none⟩ (.slice A392_0 ((rd_T42 l0 x26_2).f0).length c392_0)).setCell ⟨gb393, 1, none⟩ (.int .i64 ((rd_T42 l0 x26_2).f1))).heap[gb393]? = some (.cells #[.slice A392_0 ((rd_T42 l0 x26_2).f0).length c392_0, .int .i64 ((rd_T42 l0 x26_2).f1)] 42 (0, 0))) := ⟨bp2 (pb BK393.out)⟩
       have n1_ : Aside0 (Below w.heap.size w ((w35.setCell ⟨gb393, 0, none⟩ (.slice A392_0 ((rd_T42 l0 x26_2).f0).length c392_0)).setCell ⟨gb393, 1, none⟩ (.int .i64 ((rd_T42 l0 x26_2).f1)))) := ⟨bg1 HB.out GE393.out⟩
       (try clear BK393)
       (try clear HB)
       generalize ((w35.setCell ⟨gb393, 0, none⟩ (.slice A392_0 ((rd_T42 l0 x26_2).f0).length c392_0)).setCell ⟨gb393, 1, none⟩ (.int .i64 ((rd_T42 l0 x26_2).f1))) = w37 at n0_ n1_ ⊢
       have BK393 := n0_
       have HB := n1_
       clear n0_ n1_
       replace BK393 := am (blk_drew BK393.out)
       replace HB := am (below_drew1 HB.out)
       refine start_ (n := 17) (S := fun w' => w'.cell? ⟨gb393, 0, none⟩ = some (.slice A392_0 ((rd_T42 l0 x26_2).f0).length c392_0) ∧ w'.cell? ⟨gb393, 1, none⟩ = some (.int .i64 ((rd_T42 l0 x26_2).f1))) (ds := []) (bt 17 0) (by kernel_rfl) rfl rfl ⟨(blk_cell BK393.out 0).trans rfl, (blk_cell BK393.out 1).trans rfl⟩ (fun hHeld => ?_); refine with_tabW impl_FindOpen.tab13 impl_FindOpen.bits13 (fun HT_ HW_ => ?_)
       generalize w37.drew = w38 at BK393 HB hHeld ⊢
       refine qm 0 31 (bt 17 1) rfl rfl HT_.out HW_.out hHeld ?_
       refine qo 1 (some 32) (bt 17 3) rfl rfl HT_.out fun K hK => ?_
       refine qg Try.func20 #[.agg #[.slice A392_0 ((rd_T42 l0 x26_2).f0).length c392_0, .int .i64 ((rd_T42 l0 x26_2).f1)]] rfl rfl ?_
       with_reducible refine (impl_freePages.calls k2 _ _ ((rd_T42 l0 x26_2).f0) ((rd_T42 l0 x26_2).f1) t394 _ ?side1 ?side2 A19.out).mono ?_
       (case side1 => exact pc (Kd.C_below HR392_0.out HB.out))
       (case side2 => exact HC392_0.out)
       rintro e w39 ⟨rfl, hb⟩
       refine ⟨_, rfl, ?_⟩
       replace BK393 := am (blk_below (pb BK393.out) hb)
       replace HB := am (below_step (bg1 HB.out GE393.out) hb)
       clear hb
       refine hK.out _ _ ⟨(blk_cell BK393.out 0).trans rfl, (blk_cell BK393.out 1).trans rfl⟩ (fun hHeld => ?_)
       clear hK K
       refine qn (some 32) ?_
       refine qj 2 33 (bt 17 7) rfl rfl HT_.out ?_
       refine qj 3 34 (bt 17 15) rfl rfl HT_.out ?_
       refine qj 4 35 (bt 17 31) rfl rfl HT_.out ?_
       refine qj 5 36 (bt 17 63) rfl rfl HT_.out ?_
       refine qj 6 37 (bt 17 127) rfl rfl HT_.out ?_
       refine qv 7 38 (bt 17 255) rfl rfl HT_.out ?_
       refine qv 8 39 (bt 17 511) rfl rfl HT_.out ?_
       refine qv 9 40 (bt 17 1023) rfl rfl HT_.out ?_
       refine qv 10 41 (bt 17 2047) rfl rfl HT_.out ?_
       refine qv 11 42 (bt 17 4095) rfl rfl HT_.out ?_
       refine qv 12 43 (bt 17 8191) rfl rfl HT_.out ?_
       refine qv 13 44 (bt 17 16383) rfl rfl HT_.out ?_
       refine qv 14 45 (bt 17 32767) rfl rfl HT_.out ?_
       refine qj 15 46 (bt 17 65535) rfl rfl HT_.out ?_
       refine qj 16 47 (bt 17 131071) rfl rfl HT_.out ?_
       refine done_ (done_of HT_.out (by kernel_rfl)) ?_
       try go_wp2
       go_roundg k2
       case measure => have := HK1.out; have := HK2.out; omega
       case rel => exact ⟨(x26_2), (true), (wrap64 (x26_2 + 1)), rf, rf, rf, H', ⟨by have := HK1.out; have := HK2.out; omega⟩, ⟨bg1 HB.out GE393.out⟩⟩
     subst c21
     rw [if_pos rfl] at H
     obtain ⟨c22b0, H⟩ := ifd H
     obtain ⟨c23b0, H⟩ := ifd H
     by_cases c24 : ((rd_T42 l0 x26_2).f1) < ((rd_T42 l0 x6_2).f1)
     rotate_left
     · rw [if_neg c24] at H
       have c24b0 := decide_eq_false c24
       clear c24
       have H' := am H
       clear H
       have p392 : 0 ≤ (x26_2 : Int) := ofb
       have q392 : x26_2 < (l0.length : Int) := ofb
       obtain ⟨ad392, A392_0, c392_0, e392, hx392_0, hx392_1, hl392_0, hi392_0⟩ := at_T42 HR0.out x26_2 p392 q392
       cases e392
       replace hx392_0 := up HB.out hx392_0
       replace hx392_1 := up HB.out hx392_1
       have HR392_0 := am hi392_0
       have HC392_0 := am hl392_0
       clear hi392_0 hl392_0
       replace p392 := eq_true p392
       replace q392 := eq_true q392
       try go_wp2_with (first | (refine bx 9 #[.slice none 0 0, .int .i64 0] 42 rfl ?_; intro gb393 hg w30 hbox hb; have BK393 := am (hbox); have GW393 := am (ge hg (ph HB.out)); have GE393 := GW393; replace HB := am (below_step (ph HB.out) hb); clear hb hbox hg; obtain ⟨hcz31_0, hcz31_1⟩ := b2 BK393.out; obtain ⟨hfz31_0, hfz31_1⟩ := f2 BK393.out))
       have n0_ : Aside0 (((w30.setCell ⟨gb393, 0, none⟩ (.slice A392_0 ((rd_T42 l0 x26_2).f0).length c392_0)).setCell ⟨gb393, 1, none⟩ (.int .i64 ((rd_T42 l0 x26_2).f1))).heap[gb393]? = some (.cells #[.slice A392_0 ((rd_T42 l0 x26_2).f0).length c392_0, .int .i64 ((rd_T42 l0 x26_2).f1)] 42 (0, 0))) := ⟨bp2 (pb BK393.out)⟩
       have n1_ : Aside0 (Below w.heap.size w ((w30.setCell ⟨gb393, 0, none⟩ (.slice A392_0 ((rd_T42 l0 x26_2).f0).length c392_0)).setCell ⟨gb393, 1, none⟩ (.int .i64 ((rd_T42 l0 x26_2).f1)))) := ⟨bg1 HB.out GE393.out⟩
       (try clear BK393)
       (try clear HB)
       generalize ((w30.setCell ⟨gb393, 0, none⟩ (.slice A392_0 ((rd_T42 l0 x26_2).f0).length c392_0)).setCell ⟨gb393, 1, none⟩ (.int .i64 ((rd_T42 l0 x26_2).f1))) = w32 at n0_ n1_ ⊢
       have BK393 := n0_
       have HB := n1_
       clear n0_ n1_
       replace BK393 := am (blk_drew BK393.out)
       replace HB := am (below_drew1 HB.out)
       have p395 : 0 ≤ (x6_2 : Int) := ofb
       have q395 : x6_2 < (l0.length : Int) := ofb
       obtain ⟨ad395, A395_0, c395_0, e395, hx395_0, hx395_1, hl395_0, hi395_0⟩ := at_T42 HR0.out x6_2 p395 q395
       have hw395_1 := hx395_1
       have hw395_0 := hx395_0
       obtain rfl : ad392 = ad395 := (by injection e395)
       replace hx395_0 := up HB.out hx395_0
       replace hx395_1 := up HB.out hx395_1
       have HR395_0 := am hi395_0
       have HC395_0 := am hl395_0
       clear hi395_0 hl395_0
       replace p395 := eq_true p395
       replace q395 := eq_true q395
       refine start_ (n := 17) (S := fun w' => w'.cell? ⟨gb393, 0, none⟩ = some (.slice A392_0 ((rd_T42 l0 x26_2).f0).length c392_0) ∧ w'.cell? ⟨gb393, 1, none⟩ = some (.int .i64 ((rd_T42 l0 x26_2).f1)) ∧ w'.cell? (ad392.add ((x6_2).toNat * 2)) = some (.slice A395_0 ((rd_T42 l0 x6_2).f0).length c395_0) ∧ w'.cell? ⟨(ad392.add ((x6_2).toNat * 2)).block, (ad392.add ((x6_2).toNat * 2)).off + 1, none⟩ = some (.int .i64 ((rd_T42 l0 x6_2).f1))) (ds := []) (bt 17 0) (by kernel_rfl) rfl rfl ⟨(blk_cell BK393.out 0).trans rfl, (blk_cell BK393.out 1).trans rfl, ((HB.out.cell (World.block_lt_of_cell? w _ hw395_0)).trans hw395_0), ((HB.out.cell (World.block_lt_of_cell? w _ hw395_1)).trans hw395_1)⟩ (fun hHeld => ?_); refine with_tabW impl_FindOpen.tab13 impl_FindOpen.bits13 (fun HT_ HW_ => ?_)
       generalize w32.drew = w33 at BK393 HB HR395_0 hx395_0 hx395_1 hHeld ⊢
       refine qm 0 31 (bt 17 1) rfl rfl HT_.out HW_.out hHeld ?_
       refine qo 1 (some 32) (bt 17 3) rfl rfl HT_.out fun K hK => ?_
       refine qg Try.func20 #[.agg #[.slice A392_0 ((rd_T42 l0 x26_2).f0).length c392_0, .int .i64 ((rd_T42 l0 x26_2).f1)]] rfl rfl ?_
       with_reducible refine (impl_freePages.calls k2 _ _ ((rd_T42 l0 x26_2).f0) ((rd_T42 l0 x26_2).f1) t394 _ ?side1 ?side2 A19.out).mono ?_
       (case side1 => exact pc (Kd.C_below HR392_0.out HB.out))
       (case side2 => exact HC392_0.out)
       rintro e w34 ⟨rfl, hb⟩
       refine ⟨_, rfl, ?_⟩
       replace BK393 := am (blk_below (pb BK393.out) hb)
       replace HB := am (below_step (bg1 HB.out GE393.out) hb)
       clear hb
       refine hK.out _ _ ⟨(blk_cell BK393.out 0).trans rfl, (blk_cell BK393.out 1).trans rfl, ((HB.out.cell (World.block_lt_of_cell? w _ hw395_0)).trans hw395_0), ((HB.out.cell (World.block_lt_of_cell? w _ hw395_1)).trans hw395_1)⟩ (fun hHeld => ?_)
       clear hK K
       refine qn (some 32) ?_
       refine qj 2 33 (bt 17 7) rfl rfl HT_.out ?_
       refine qj 3 34 (bt 17 15) rfl rfl HT_.out ?_
       refine qj 4 35 (bt 17 31) rfl rfl HT_.out ?_
       refine qj 5 36 (bt 17 63) rfl rfl HT_.out ?_
       refine qj 6 37 (bt 17 127) rfl rfl HT_.out ?_
       refine qj 7 38 (bt 17 255) rfl rfl HT_.out ?_
       refine qj 9 40 (bt 17 767) rfl rfl HT_.out ?_
       refine qj 10 41 (bt 17 1791) rfl rfl HT_.out ?_
       refine qj 11 42 (bt 17 3839) rfl rfl HT_.out ?_
       refine qj 12 43 (bt 17 7935) rfl rfl HT_.out ?_
       refine qm 8 39 (bt 17 8191) rfl rfl HT_.out HW_.out hHeld ?_
       refine qm 13 44 (bt 17 16383) rfl rfl HT_.out HW_.out hHeld ?_
       refine qj 14 45 (bt 17 32767) rfl rfl HT_.out ?_
       refine qj 15 46 (bt 17 65535) rfl rfl HT_.out ?_
       refine qj 16 47 (bt 17 131071) rfl rfl HT_.out ?_
       refine done_ (done_of HT_.out (by kernel_rfl)) ?_
       try go_wp2
       go_roundg k2
       case measure => have := HK1.out; have := HK2.out; omega
       case rel => exact ⟨(x6_2), (true), (wrap64 (x26_2 + 1)), rf, rf, rf, H', ⟨by have := HK1.out; have := HK2.out; omega⟩, ⟨bg1 HB.out GE393.out⟩⟩
     rw [if_pos c24] at H
     have c24b0 := decide_eq_true c24
     clear c24
     have H' := am H
     clear H
     have p392 : 0 ≤ (x26_2 : Int) := ofb
     have q392 : x26_2 < (l0.length : Int) := ofb
     obtain ⟨ad392, A392_0, c392_0, e392, hx392_0, hx392_1, hl392_0, hi392_0⟩ := at_T42 HR0.out x26_2 p392 q392
     cases e392
     replace hx392_0 := up HB.out hx392_0
     replace hx392_1 := up HB.out hx392_1
     have HR392_0 := am hi392_0
     have HC392_0 := am hl392_0
     clear hi392_0 hl392_0
     replace p392 := eq_true p392
     replace q392 := eq_true q392
     try go_wp2_with (first | (refine bx 9 #[.slice none 0 0, .int .i64 0] 42 rfl ?_; intro gb393 hg w25 hbox hb; have BK393 := am (hbox); have GW393 := am (ge hg (ph HB.out)); have GE393 := GW393; replace HB := am (below_step (ph HB.out) hb); clear hb hbox hg; obtain ⟨hcz26_0, hcz26_1⟩ := b2 BK393.out; obtain ⟨hfz26_0, hfz26_1⟩ := f2 BK393.out))
     have n0_ : Aside0 (((w25.setCell ⟨gb393, 0, none⟩ (.slice A392_0 ((rd_T42 l0 x26_2).f0).length c392_0)).setCell ⟨gb393, 1, none⟩ (.int .i64 ((rd_T42 l0 x26_2).f1))).heap[gb393]? = some (.cells #[.slice A392_0 ((rd_T42 l0 x26_2).f0).length c392_0, .int .i64 ((rd_T42 l0 x26_2).f1)] 42 (0, 0))) := ⟨bp2 (pb BK393.out)⟩
     have n1_ : Aside0 (Below w.heap.size w ((w25.setCell ⟨gb393, 0, none⟩ (.slice A392_0 ((rd_T42 l0 x26_2).f0).length c392_0)).setCell ⟨gb393, 1, none⟩ (.int .i64 ((rd_T42 l0 x26_2).f1)))) := ⟨bg1 HB.out GE393.out⟩
     (try clear BK393)
     (try clear HB)
     generalize ((w25.setCell ⟨gb393, 0, none⟩ (.slice A392_0 ((rd_T42 l0 x26_2).f0).length c392_0)).setCell ⟨gb393, 1, none⟩ (.int .i64 ((rd_T42 l0 x26_2).f1))) = w27 at n0_ n1_ ⊢
     have BK393 := n0_
     have HB := n1_
     clear n0_ n1_
     replace BK393 := am (blk_drew BK393.out)
     replace HB := am (below_drew1 HB.out)
     have p395 : 0 ≤ (x6_2 : Int) := ofb
     have q395 : x6_2 < (l0.length : Int) := ofb
     obtain ⟨ad395, A395_0, c395_0, e395, hx395_0, hx395_1, hl395_0, hi395_0⟩ := at_T42 HR0.out x6_2 p395 q395
     have hw395_1 := hx395_1
     have hw395_0 := hx395_0
     obtain rfl : ad392 = ad395 := (by injection e395)
     replace hx395_0 := up HB.out hx395_0
     replace hx395_1 := up HB.out hx395_1
     have HR395_0 := am hi395_0
     have HC395_0 := am hl395_0
     clear hi395_0 hl395_0
     replace p395 := eq_true p395
     replace q395 := eq_true q395
     refine start_ (n := 17) (S := fun w' => w'.cell? ⟨gb393, 0, none⟩ = some (.slice A392_0 ((rd_T42 l0 x26_2).f0).length c392_0) ∧ w'.cell? ⟨gb393, 1, none⟩ = some (.int .i64 ((rd_T42 l0 x26_2).f1)) ∧ w'.cell? (ad392.add ((x6_2).toNat * 2)) = some (.slice A395_0 ((rd_T42 l0 x6_2).f0).length c395_0) ∧ w'.cell? ⟨(ad392.add ((x6_2).toNat * 2)).block, (ad392.add ((x6_2).toNat * 2)).off + 1, none⟩ = some (.int .i64 ((rd_T42 l0 x6_2).f1))) (ds := []) (bt 17 0) (by kernel_rfl) rfl rfl ⟨(blk_cell BK393.out 0).trans rfl, (blk_cell BK393.out 1).trans rfl, ((HB.out.cell (World.block_lt_of_cell? w _ hw395_0)).trans hw395_0), ((HB.out.cell (World.block_lt_of_cell? w _ hw395_1)).trans hw395_1)⟩ (fun hHeld => ?_); refine with_tabW impl_FindOpen.tab13 impl_FindOpen.bits13 (fun HT_ HW_ => ?_)
     generalize w27.drew = w28 at BK393 HB HR395_0 hx395_0 hx395_1 hHeld ⊢
     refine qm 0 31 (bt 17 1) rfl rfl HT_.out HW_.out hHeld ?_
     refine qo 1 (some 32) (bt 17 3) rfl rfl HT_.out fun K hK => ?_
     refine qg Try.func20 #[.agg #[.slice A392_0 ((rd_T42 l0 x26_2).f0).length c392_0, .int .i64 ((rd_T42 l0 x26_2).f1)]] rfl rfl ?_
     with_reducible refine (impl_freePages.calls k2 _ _ ((rd_T42 l0 x26_2).f0) ((rd_T42 l0 x26_2).f1) t394 _ ?side1 ?side2 A19.out).mono ?_
     (case side1 => exact pc (Kd.C_below HR392_0.out HB.out))
     (case side2 => exact HC392_0.out)
     rintro e w29 ⟨rfl, hb⟩
     refine ⟨_, rfl, ?_⟩
     replace BK393 := am (blk_below (pb BK393.out) hb)
     replace HB := am (below_step (bg1 HB.out GE393.out) hb)
     clear hb
     refine hK.out _ _ ⟨(blk_cell BK393.out 0).trans rfl, (blk_cell BK393.out 1).trans rfl, ((HB.out.cell (World.block_lt_of_cell? w _ hw395_0)).trans hw395_0), ((HB.out.cell (World.block_lt_of_cell? w _ hw395_1)).trans hw395_1)⟩ (fun hHeld => ?_)
     clear hK K
     refine qn (some 32) ?_
     refine qj 2 33 (bt 17 7) rfl rfl HT_.out ?_
     refine qj 3 34 (bt 17 15) rfl rfl HT_.out ?_
     refine qj 4 35 (bt 17 31) rfl rfl HT_.out ?_
     refine qj 5 36 (bt 17 63) rfl rfl HT_.out ?_
     refine qj 6 37 (bt 17 127) rfl rfl HT_.out ?_
     refine qj 7 38 (bt 17 255) rfl rfl HT_.out ?_
     refine qj 9 40 (bt 17 767) rfl rfl HT_.out ?_
     refine qj 10 41 (bt 17 1791) rfl rfl HT_.out ?_
     refine qj 11 42 (bt 17 3839) rfl rfl HT_.out ?_
     refine qj 12 43 (bt 17 7935) rfl rfl HT_.out ?_
     refine qm 8 39 (bt 17 8191) rfl rfl HT_.out HW_.out hHeld ?_
     refine qm 13 44 (bt 17 16383) rfl rfl HT_.out HW_.out hHeld ?_
     refine qj 14 45 (bt 17 32767) rfl rfl HT_.out ?_
     refine qj 15 46 (bt 17 65535) rfl rfl HT_.out ?_
     refine qj 16 47 (bt 17 131071) rfl rfl HT_.out ?_
     refine done_ (done_of HT_.out (by kernel_rfl)) ?_
     try go_wp2
     go_roundg k2
     case measure => have := HK1.out; have := HK2.out; omega
     case rel => exact ⟨(x26_2), (true), (wrap64 (x26_2 + 1)), rf, rf, rf, H', ⟨by have := HK1.out; have := HK2.out; omega⟩, ⟨bg1 HB.out GE393.out⟩⟩
end Go.Proofs.Ytenmnclkbleglaa.P2
