-- printed by wip/pp/pp.py
import Derived.Test.YtpldeopbdilipaaP10
import Derived.Test.YtpldeopbdilipaaP11
import Derived.Test.YtpldeopbdilipaaP113
import Derived.RangeFuncNested
import Derived.RangeFuncBound
import Derived.RangeFuncCalls
import Derived.RangeFuncLeaves
import Derived.Shelf.Abstract
import Derived.WalkKit
import Derived.OwnWalkIn
import Derived.TacticsInMore
import Derived.LoopNIn
import Derived.LoopIn
import Derived.IntWalk
import Derived.Test.YtpldeopbdilipaaWMap
import Derived.Maps.OwnOps
import Derived.Maps.Own
import Derived.Maps.OwnIn
import Derived.WalkArith
import Derived.Test.YtpldeopbdilipaaP112
namespace Go.Proofs.Ytpldeopbdilipaa.P1
open Go.RowKit Go.Proofs.YtpldeopbdilipaaW.PrintWords Go.Proofs.YtpldeopbdilipaaW.PrintLast Go.Proofs.YtpldeopbdilipaaW.PrintMore
attribute [local go_sem] max2_int min2_int max_two min_two max_three min_three max_four min_four
set_option linter.unusedVariables false
set_option linter.unusedSimpArgs false
attribute [local go_sem] Oper.semAt_some
theorem flash_four' {l : List S63} (h : flashOkB l = true) : l.length = 4 := by
 unfold flashOkB at h
 rw [Bool.and_eq_true, decide_eq_true_eq] at h
 omega
theorem freeQ_loop (l : List S65) (hl : l.length ≤ maxLen) : ∀ (n i m : Nat), i + n = l.length → m ≤ i → impl_freePages.l0 (n + 1) (m : Int) l (l.length : Int) (i : Int) = some ((m + freeQ (l.drop i) : Nat) : Int)
 | 0, i, m, h, hm => by
  rw [impl_freePages.l0, if_neg (by omega), List.drop_eq_nil_of_le (by omega)]
  rfl
 | n + 1, i, m, h, hm => by
  have ih1 := freeQ_loop l hl n (i + 1) (m + 1) (by omega) (by omega)
  have ih2 := freeQ_loop l hl n (i + 1) m (by omega) (by omega)
  have e1 : wrap64 ((i : Int) + 1) = ((i + 1 : Nat) : Int) := by simp only [maxLen] at hl; rw [IntWalk.wrap64_in _ (by omega)]; omega
  have e2 : wrap64 ((m : Int) + 1) = ((m + 1 : Nat) : Int) := by simp only [maxLen] at hl; rw [IntWalk.wrap64_in _ (by omega)]; omega
  rw [drop_pg (by omega : i < l.length), freeQ, impl_freePages.l0, if_pos (by omega), if_pos (by omega), if_pos (by omega), e1, e2]
  by_cases hs : (rd_T65 l (i : Int)).f0 = 0
  rotate_left
  · rw [if_neg hs, if_neg hs, Nat.zero_add]
    exact ih2
  rw [if_pos hs, if_pos hs, show m + (1 + freeQ (l.drop (i + 1))) = m + 1 + freeQ (l.drop (i + 1)) by omega]
  exact ih1
def partB (b : S63) : Bool := decide (0 < freeQ b.f0 ∧ freeQ b.f0 < 4)
theorem partlyUsed_ok (b : S63) (hl : b.f0.length ≤ maxLen) : ∃ k, impl_partlyUsed.f k b.f0 b.f1 = some (partB b) := by
 refine ⟨b.f0.length + 1, ?_⟩
 have := freeQ_loop b.f0 hl b.f0.length 0 0 (by omega) (by omega)
 have this2 : impl_freePages.l0 (b.f0.length + 1) 0 b.f0 (b.f0.length : Int) 0 = _ := this
 unfold impl_partlyUsed.f impl_freePages.f partB
 rw [this2, Option.bind_some, List.drop_zero, Nat.zero_add]
 by_cases h : 0 < freeQ b.f0
 rotate_left
 · rw [if_neg (by omega), decide_eq_false (fun q => h q.1)]
 rw [if_pos (by omega)]
 by_cases h4 : freeQ b.f0 < 4
 · rw [decide_eq_true (by omega : ((freeQ b.f0 : Nat) : Int) < 4), decide_eq_true ⟨h, h4⟩]
 rw [decide_eq_false (by omega : ¬ ((freeQ b.f0 : Nat) : Int) < 4), decide_eq_false (fun q => h4 q.2)]
def crossB (a b : Int × Int) : Bool := decide (a.2 > 0 ∧ b.2 > 0 ∧ a.2 ≥ b.1 ∧ b.2 ≥ a.1)
def overI (s : Spans) (i : Nat) : Nat → Bool
 | 0 => false
 | j + 1 => overI s i j || crossB (s i) (s j)
def overN (s : Spans) : Nat → Bool
 | 0 => false
 | i + 1 => overN s i || overI s i i
def newestN (s : Spans) : Nat → Int
 | 0 => 0
 | i + 1 => mx (newestN s i) (s i).2
def partN (l : List S63) : Nat → Nat
 | 0 => 0
 | i + 1 => partN l i + (if partB (rd_T63 l (i : Int)) = true then 1 else 0)
def badN (l : List S63) (s : Spans) (m : Int) : Nat → Bool
 | 0 => false
 | i + 1 => badN l s m i || (partB (rd_T63 l (i : Int)) && decide ((s i).2 > 0 ∧ (s i).2 < m))
theorem partN_le (l : List S63) : ∀ i, partN l i ≤ i
 | 0 => Nat.le_refl _
 | i + 1 => by
  have := partN_le l i
  rw [partN]
  split <;> omega
theorem overI_of {s : Spans} {i j : Nat} (h : crossB (s i) (s j) = true) : ∀ n, j < n → overI s i n = true
 | 0, hn => by omega
 | n + 1, hn => by
  rw [overI, Bool.or_eq_true]
  by_cases e : j = n
  · subst e; exact .inr h
  exact .inl (overI_of h n (by omega))
theorem overN_of {s : Spans} {i : Nat} (h : overI s i i = true) : ∀ n, i < n → overN s n = true
 | 0, hn => by omega
 | n + 1, hn => by
  rw [overN, Bool.or_eq_true]
  by_cases e : i = n
  · subst e; exact .inr h
  exact .inl (overN_of h n (by omega))
theorem badN_of {l : List S63} {s : Spans} {m : Int} {i : Nat} (h : partB (rd_T63 l (i : Int)) = true) (h2 : (s i).2 > 0 ∧ (s i).2 < m) : ∀ n, i < n → badN l s m n = true
 | 0, hn => by omega
 | n + 1, hn => by
  rw [badN, Bool.or_eq_true]
  by_cases e : i = n
  rotate_left
  · exact .inl (badN_of h h2 n (by omega))
  subst e; exact .inr (by rw [h, decide_eq_true h2]; rfl)
theorem overI_step {s : Spans} {i j : Nat} (h : overI s i j = false) (h2 : crossB (s i) (s j) = false) : overI s i (j + 1) = false := by rw [overI, h, h2]; rfl
theorem crossB_false {a b : Int × Int} (h : ¬ (a.2 > 0 ∧ b.2 > 0 ∧ a.2 ≥ b.1 ∧ b.2 ≥ a.1)) : crossB a b = false := decide_eq_false h
def orderI (l : List S63) : Bool := flashOkB l && (!overN (spansF l) 4 && (!badN l (spansF l) (newestN (spansF l) 4) 4 && decide (partN l 4 ≤ 1)))
def impl_FindOrder.f (l0 : List (S63)) : Option (Bool) := some (orderI l0)
set_option maxRecDepth 100000 in
set_option maxHeartbeats 8000000 in
theorem impl_FindOrder.calls (A0 : Option Addr) (c0 : Nat) (l0 : List (S63)) (r : Bool) (w : World) (hr0 : Kd.C k63 w A0 l0.length l0) (hc0 : l0.length ≤ c0) (h : impl_FindOrder.f l0 = some r) :
 Calls Try.prog 21 #[.slice A0 l0.length c0] w fun e w' => e = .returned (.bool r) ∧ Below w.heap.size w w' := by
 obtain rfl := Option.some.inj h
 clear h
 refine (callsIn_wide (n := 3)).1 ?_
 have hok := callsIn_wide (n := 2).2 (impl_FlashOk.calls A0 c0 l0 _ w hr0 hc0 rfl)
 have hu := Try.underlying86
 have hu2 := Try.underlying63
 unfold orderI
 cases hf : flashOkB l0 with
 | false =>
  rw [hf] at hok
  refine callsIn_of_wp Try.func21 rfl trivial ?_ rfl
  simp only [Try.ntmps21, List.size_toArray, List.length_cons, List.length_nil, Nat.reduceAdd, Nat.reduceSub, Array.replicate_succ, Array.replicate_zero, List.push_toArray, List.append_toArray, List.nil_append, List.cons_append]
  gi_wp2_with (first | (refine ⟨trivial, ?_⟩; gi_at_call 36; refine hok.mono ?_; rintro e w1 ⟨rfl, hb⟩))
  go_ret
  exact ⟨rfl, hb⟩
 | true =>
  rw [hf] at hok
  have hl := flash_four' hf
  rw [Bool.true_and]
  have hsp : ∀ W, Below w.heap.size w W → CallsIn Fence.wide 2 Try.prog 44 #[.slice A0 4 c0] W fun e w' => ∃ g, e = .returned (.slice (some ⟨g, 0, none⟩) 4 4) ∧ SpansBox w' g (spansF l0) ∧ W.heap.size ≤ g ∧ Below W.heap.size W w' := fun W hb => callsIn_wide.2 (spansOf_any A0 c0 l0 W (Kd.C_below hr0 hb) hl)
  generalize spansF l0 = s at hsp ⊢
  obtain ⟨V, hV⟩ : ∃ V : Bool, (!overN s 4 && (!badN l0 s (newestN s 4) 4 && decide (partN l0 4 ≤ 1))) = V := ⟨_, rfl⟩
  rw [hV]
  have HV := am hV
  clear hV
  rw [hl] at hok ⊢
  refine callsIn_of_wp Try.func21 rfl trivial ?_ rfl
  simp only [Try.ntmps21, List.size_toArray, List.length_cons, List.length_nil, Nat.reduceAdd, Nat.reduceSub, Array.replicate_succ, Array.replicate_zero, List.push_toArray, List.append_toArray, List.nil_append, List.cons_append]
  gi_wp2_with (first | (refine ⟨trivial, ?_⟩; gi_at_call 36; refine hok.mono ?_; rintro e w1 ⟨rfl, hb⟩) | (refine ⟨trivial, ?_⟩; gi_at_call 44; refine (hsp _ hb).mono ?_; rintro e w2 ⟨g, rfl, hsb, hg, hb2⟩))
  have hB0 := below_then hb hb.size hb2
  clear hsp hok
  gi_loopw [19, 4] (fun v19 v4 wr => ∃ i : Nat, v19 = .int .i64 (i : Int) ∧ v4 = .int .i64 (newestN s i) ∧ i ≤ 4 ∧ overN s i = false ∧ SpansBox wr g s ∧ Below w.heap.size w wr) (fun v19 _ _ => 4 - (intOf v19).toNat)
  case atStart => exact ⟨0, rfl, rfl, by omega, rfl, hsb, hB0⟩
  case round =>
   clear hsb hB0
   obtain ⟨i, rfl, rfl, hi, hov, hbx, hB⟩ := hrel
   by_cases ci : i < 4
   · have cib : decide ((i : Int) < 4) = true := decide_eq_true (by omega)
     have p1 : 0 ≤ (i : Int) := by omega
     have q1 : (i : Int) < 4 := by omega
     obtain ⟨h1, h2⟩ := hbx.at_ i ci
     have hglt := blk_lt hbx
     have hst : newestN s (i + 1) = mx (newestN s i) (s i).2 := rfl
     gi_wp2
     all_goals
      have hA := blk_new wr (.cells #[.int .i64 (s i).1, .int .i64 (s i).2] 86)
      have hbx := blk_alloc hbx (.cells #[.int .i64 (s i).1, .int .i64 (s i).2] 86)
      have hB := below_alloc hB (.cells #[.int .i64 (s i).1, .int .i64 (s i).2] 86)
      clear h1 h2 hglt
      generalize wr.heap.size = gA at hA ⊢
      generalize wr.alloc (.cells #[.int .i64 (s i).1, .int .i64 (s i).2] 86) = wa at hA hbx hB ⊢
      gi_loopw [32] (fun v32 w3 => ∃ j : Nat, v32 = .int .i64 (j : Int) ∧ j ≤ i ∧ overI s i j = false ∧ SpansBox w3 g s ∧ w3.heap[gA]? = some (.cells #[.int .i64 (s i).1, .int .i64 (s i).2] 86 (0, 0)) ∧ Below w.heap.size w w3) (fun v32 _ => i - (intOf v32).toNat)
      case atStart => exact ⟨0, rfl, by omega, rfl, hbx, hA, hB⟩
      case round =>
       clear hbx hA hB
       obtain ⟨j, rfl, hj, hoj, hbx, hA, hB⟩ := hrel
       by_cases cj : j < i
       rotate_left
       · obtain rfl : j = i := by omega
         have HC : Aside0 (overN s (j + 1) = false) := ⟨by rw [overN, hov, hoj]; rfl⟩
         have HM : Aside0 (newestN s (j + 1) = mx (newestN s j) (s j).2) := ⟨rfl⟩
         clear hst
         gi_wp2
         refine ⟨⟨j + 1, by simp, ?_, by omega, HC.out, hbx, hB⟩, by simp [intOf]; omega⟩
         rw [HM.out]
         unfold mx
         first
          | (rw [if_pos (by assumption)]; done)
          | (rw [if_pos (by omega)]; done)
          | (rw [if_neg (by omega)]; done)
       have cjb : decide ((j : Int) < (i : Int)) = true := decide_eq_true (by omega)
       have p2 : 0 ≤ (j : Int) := by omega
       have q2 : (j : Int) < (i : Int) := by omega
       obtain ⟨h3, h4⟩ := hbx.at_ j (by omega)
       have hglt := blk_lt hbx
       have hAlt := blk_lt hA
       have ha0 : wr.cell? ⟨gA, 0, none⟩ = some (.int .i64 (s i).1) := (blk_cell hA 0).trans rfl
       have ha1 : wr.cell? ⟨gA, 1, none⟩ = some (.int .i64 (s i).2) := (blk_cell hA 1).trans rfl
       by_cases k1 : 0 < (s i).2
       rotate_left
       · have k1b : decide (0 < (s i).2) = false := decide_eq_false k1
         have HC := am (overI_step hoj (crossB_false (fun q => k1 q.1)))
         gi_wp2
         exact ⟨⟨j + 1, by simp, by omega, HC.out, blk_alloc hbx _, blk_alloc hA _, below_alloc hB _⟩, by simp [intOf]; omega⟩
       have k1b : decide (0 < (s i).2) = true := decide_eq_true k1
       by_cases k2 : 0 < (s j).2
       rotate_left
       · have k2b : decide (0 < (s j).2) = false := decide_eq_false k2
         have HC := am (overI_step hoj (crossB_false (fun q => k2 q.2.1)))
         gi_wp2
         exact ⟨⟨j + 1, by simp, by omega, HC.out, blk_alloc hbx _, blk_alloc hA _, below_alloc hB _⟩, by simp [intOf]; omega⟩
       have k2b : decide (0 < (s j).2) = true := decide_eq_true k2
       by_cases k3 : (s j).1 ≤ (s i).2
       rotate_left
       · have k3b : decide ((s j).1 ≤ (s i).2) = false := decide_eq_false k3
         have HC := am (overI_step hoj (crossB_false (fun q => k3 q.2.2.1)))
         gi_wp2
         exact ⟨⟨j + 1, by simp, by omega, HC.out, blk_alloc hbx _, blk_alloc hA _, below_alloc hB _⟩, by simp [intOf]; omega⟩
       have k3b : decide ((s j).1 ≤ (s i).2) = true := decide_eq_true k3
       by_cases k4 : (s i).1 ≤ (s j).2
       rotate_left
       · have k4b : decide ((s i).1 ≤ (s j).2) = false := decide_eq_false k4
         have HC := am (overI_step hoj (crossB_false (fun q => k4 q.2.2.2)))
         gi_wp2
         exact ⟨⟨j + 1, by simp, by omega, HC.out, blk_alloc hbx _, blk_alloc hA _, below_alloc hB _⟩, by simp [intOf]; omega⟩
       have k4b : decide ((s i).1 ≤ (s j).2) = true := decide_eq_true k4
       have hx : V = false := by rw [← HV.out, overN_of (overI_of (show crossB (s i) (s j) = true from decide_eq_true ⟨k1, k2, k3, k4⟩) i cj) 4 ci]; rfl
       have HX := am hx
       clear hx
       gi_wp2
       go_ret
       exact ⟨by rw [HX.out]; rfl, below_alloc hB _⟩
   obtain rfl : i = 4 := by omega
   generalize newestN s 4 = m at HV ⊢
   gi_wp2
   gi_loopw [62, 9] (fun v62 v9 wr => ∃ i : Nat, v62 = .int .i64 (i : Int) ∧ v9 = .int .i64 ((partN l0 i : Nat) : Int) ∧ i ≤ 4 ∧ badN l0 s m i = false ∧ SpansBox wr g s ∧ Below w.heap.size w wr) (fun v62 _ _ => 4 - (intOf v62).toNat)
   case atStart => exact ⟨0, rfl, rfl, by omega, rfl, hbx, hB⟩
   case round =>
    clear hbx hB
    obtain ⟨i, rfl, rfl, hi, hbad, hbx, hB⟩ := hrel
    have hple := partN_le l0 i
    by_cases ci : i < 4
    rotate_left
    · obtain rfl : i = 4 := by omega
      gi_wp2
      go_ret
      exact ⟨by rw [← HV.out, hov, hbad, Bool.not_false, Bool.true_and, Bool.true_and]; exact congrArg (fun b => Ending.returned (Value.bool b)) (decide_eq_decide.2 (by omega : ((partN l0 4 : Nat) : Int) ≤ 1 ↔ partN l0 4 ≤ 1)), hB⟩
    have cib : decide ((i : Int) < 4) = true := decide_eq_true (by omega)
    have p1 : 0 ≤ (i : Int) := by omega
    have q1 : (i : Int) < 4 := by omega
    obtain ⟨h1, h2⟩ := hbx.at_ i ci
    have hglt := blk_lt hbx
    obtain ⟨ad1, A1, c1, e1, hx1_0, hx1_1, hl1, hi1⟩ := at_T63 hr0 (i : Int) p1 (by omega)
    cases e1
    replace hx1_0 := (hB.cell (World.block_lt_of_cell? w _ hx1_0)).trans hx1_0
    replace hx1_1 := (hB.cell (World.block_lt_of_cell? w _ hx1_1)).trans hx1_1
    have hlm1 := Kd.C_max hi1
    simp only [Int.toNat_natCast] at hx1_0 hx1_1
    obtain ⟨kb, hkb⟩ := partlyUsed_ok (rd_T63 l0 (i : Int)) hlm1
    have hst1 : partN l0 (i + 1) = partN l0 i + (if partB (rd_T63 l0 (i : Int)) = true then 1 else 0) := rfl
    have hst2 : badN l0 s m (i + 1) = (badN l0 s m i || (partB (rd_T63 l0 (i : Int)) && decide ((s i).2 > 0 ∧ (s i).2 < m))) := rfl
    have hbo := fun n => badN_of (l := l0) (s := s) (m := m) (i := i) (h2 := n)
    have hpu : ∀ W, Below w.heap.size w W → CallsIn Fence.wide 2 Try.prog 45 #[.agg #[.slice A1 (rd_T63 l0 (i : Int)).f0.length c1, .int .i64 (rd_T63 l0 (i : Int)).f1]] W fun e w' => e = .returned (.bool (partB (rd_T63 l0 (i : Int)))) ∧ Below W.heap.size W w' := fun W hb => callsIn_wide.2 (impl_partlyUsed.calls kb _ _ _ _ _ W (Kd.C_below hi1 hb) hl1 hkb)
    clear hkb hi1
    generalize rd_T63 l0 (i : Int) = bl at hx1_0 hx1_1 hl1 hlm1 hst1 hst2 hbo hpu
    have hA := blk_new wr (.cells #[.slice A1 bl.f0.length c1, .int .i64 bl.f1] 63)
    have hbx2 := blk_alloc hbx (.cells #[.slice A1 bl.f0.length c1, .int .i64 bl.f1] 63)
    have hB2 := below_alloc hB (.cells #[.slice A1 bl.f0.length c1, .int .i64 bl.f1] 63)
    cases hpb : partB bl with
    | false =>
     rw [hpb] at hpu hst1 hst2
     gi_wp2_with (first | (refine ⟨trivial, ?_⟩; gi_at_call 45; refine (hpu _ hB2).mono ?_; rintro e w3 ⟨rfl, hb3⟩))
     go_roundw
     case rel =>
      (repeat apply Exists.intro)
      refine ⟨?_, rfl⟩
      exact ⟨i + 1, by simp, by rw [hst1]; simp, by omega, by rw [hst2, hbad]; rfl, blk_below hbx2 hb3, below_then hB2 hB2.size hb3⟩
     case measure => simp [intOf]; omega
    | true =>
     rw [hpb] at hpu hst1 hst2
     rw [if_pos rfl] at hst1
     by_cases k1 : 0 < (s i).2
     rotate_left
     · have k1b : decide (0 < (s i).2) = false := decide_eq_false k1
       have HC : Aside0 (badN l0 s m (i + 1) = false) := ⟨by rw [hst2, hbad, decide_eq_false (fun q => k1 q.1)]; rfl⟩
       gi_wp2_with (first | (refine ⟨trivial, ?_⟩; gi_at_call 45; refine (hpu _ hB2).mono ?_; rintro e w3 ⟨rfl, hb3⟩; have hbx3 := SpansBox.at_ (blk_below hbx2 hb3) i ci; have h5 := hbx3.2))
       go_roundw
       case rel =>
        (repeat apply Exists.intro)
        refine ⟨?_, rfl⟩
        exact ⟨i + 1, by simp, by rw [hst1]; simp, by omega, HC.out, blk_below hbx2 hb3, below_then hB2 hB2.size hb3⟩
       case measure => simp [intOf]; omega
     have k1b : decide (0 < (s i).2) = true := decide_eq_true k1
     by_cases k2 : (s i).2 < m
     · have k2b : decide ((s i).2 < m) = true := decide_eq_true k2
       have hx : V = false := by rw [← HV.out, hbo ⟨k1, k2⟩ hpb 4 ci, Bool.not_true, Bool.false_and, Bool.and_false]
       have HX := am hx
       clear hx
       gi_wp2_with (first | (refine ⟨trivial, ?_⟩; gi_at_call 45; refine (hpu _ hB2).mono ?_; rintro e w3 ⟨rfl, hb3⟩; have hbx3 := SpansBox.at_ (blk_below hbx2 hb3) i ci; have h5 := hbx3.2))
       go_ret
       exact ⟨by rw [HX.out]; rfl, below_then hB2 hB2.size hb3⟩
     have k2b : decide ((s i).2 < m) = false := decide_eq_false k2
     have HC : Aside0 (badN l0 s m (i + 1) = false) := ⟨by rw [hst2, hbad, decide_eq_false (fun q => k2 q.2)]; rfl⟩
     gi_wp2_with (first | (refine ⟨trivial, ?_⟩; gi_at_call 45; refine (hpu _ hB2).mono ?_; rintro e w3 ⟨rfl, hb3⟩; have hbx3 := SpansBox.at_ (blk_below hbx2 hb3) i ci; have h5 := hbx3.2))
     go_roundw
     case rel =>
      (repeat apply Exists.intro)
      refine ⟨?_, rfl⟩
      exact ⟨i + 1, by simp, by rw [hst1]; simp, by omega, HC.out, blk_below hbx2 hb3, below_then hB2 hB2.size hb3⟩
     case measure => simp [intOf]; omega
open Go.Proofs.YtpldeopbdilipaaW
attribute [local go_sem] Oper.semAt_some
theorem flash_fourR {l : List S63} (h : flashOkB l = true) : l.length = 4 := by
 unfold flashOkB at h
 rw [Bool.and_eq_true, decide_eq_true_eq] at h
 omega
abbrev RecMap := Int → Option R4
def recOf (r : S32) : R4 := (r.f0, r.f1, r.f2, r.f3)
def mapStep (M : RecMap) (p : S65) : RecMap := if p.f0 = 1 ∧ p.f1.f1 > ((M p.f1.f2).getD (0, 0, 0, 0)).2.1 then putM M p.f1.f2 (recOf p.f1) else M
def lastMap (l : List S63) : RecMap := (pagesL l).foldl mapStep (fun _ => none)
theorem okPage_wf {p : S65} (h : pageB p = true) (h1 : p.f0 = 1) : (Lit.int .i64 p.f1.f2).wf = true := by
 unfold pageB at h
 rw [if_pos h1] at h
 simp only [recOkB, decide_eq_true_eq] at h
 exact WalkArith.wf_i64 ⟨by omega, by omega⟩
theorem okPagesB : ∀ (ps : List S65) (S S' : List Int), pagesB ps S = some S' → ∀ p ∈ ps, pageB p = true
 | [], _, _, _, _, h => by cases h
 | p :: ps, S, S', h, q, hq => by
  rw [pagesB] at h
  by_cases hp : pageB p = true
  rotate_left
  · rw [if_neg hp] at h; cases h
  rw [if_pos hp] at h
  rcases List.mem_cons.1 hq with rfl | hq
  · exact hp
  · by_cases h1 : p.f0 = 1
    rotate_left
    · rw [if_neg h1] at h; exact okPagesB ps _ _ h q hq
    rw [if_pos h1] at h
    by_cases hm : p.f1.f1 ∈ S
    · rw [if_pos hm] at h; cases h
    rw [if_neg hm] at h; exact okPagesB ps _ _ h q hq
theorem okSpotsB (i : Nat) : ∀ (j : Nat) (ps : List S65) (x : Spot), x ∈ spotsB i j ps → x.2.2 ∈ ps
 | _, [], _, h => by cases h
 | j, p :: ps, x, h => by
  rw [spotsB] at h
  rcases List.mem_cons.1 h with rfl | h
  · simp
  · exact List.mem_cons_of_mem _ (okSpotsB i (j + 1) ps x h)
theorem okSpotsF : ∀ (i : Nat) (l : List S63) (S : List Int), blocksB l S = true → ∀ x ∈ spotsF i l, pageB x.2.2 = true
 | _, [], _, _, _, h => by cases h
 | i, b :: bs, S, h, x, hx => by
  rw [blocksB, Bool.and_eq_true] at h
  cases he : pagesB b.f0 S with
  | none => rw [he] at h; exact absurd h.2 (by simp)
  | some S' =>
   rw [he] at h
   rw [spotsF] at hx
   rcases List.mem_append.1 hx with hx | hx
   · exact okPagesB _ _ _ he _ (okSpotsB i 0 _ x hx)
   · exact okSpotsF (i + 1) bs S' h.2 x hx
theorem okSpots {l : List S63} (h : flashOkB l = true) : ∀ x ∈ spotsF 0 l, pageB x.2.2 = true := by
 unfold flashOkB at h
 rw [Bool.and_eq_true] at h
 exact okSpotsF 0 l [] h.2
theorem spotsB_len (i : Nat) : ∀ (j : Nat) (ps : List S65), (spotsB i j ps).length = ps.length
 | _, [] => rfl
 | j, p :: ps => by rw [spotsB, List.length_cons, List.length_cons, spotsB_len i (j + 1) ps]
theorem spotsF_len : ∀ (i : Nat) (l : List S63) (S : List Int), blocksB l S = true → (spotsF i l).length = 4 * l.length
 | _, [], _, _ => rfl
 | i, b :: bs, S, h => by
  rw [blocksB, Bool.and_eq_true] at h
  have hb : b.f0.length = 4 := by
   have := h.1
   unfold blockB at this
   rw [Bool.and_eq_true, decide_eq_true_eq] at this
   omega
  cases he : pagesB b.f0 S with
  | none => rw [he] at h; exact absurd h.2 (by simp)
  | some S' =>
   rw [he] at h
   rw [spotsF, List.length_append, spotsB_len, spotsF_len (i + 1) bs S' h.2, List.length_cons]
   omega
theorem spots_len {l : List S63} (h : flashOkB l = true) : (spotsF 0 l).length = 16 := by
 have hl := flash_fourR h
 unfold flashOkB at h
 rw [Bool.and_eq_true] at h
 rw [spotsF_len 0 l [] h.2, hl]
abbrev OkPage := {x : Spot // pageB x.2.2 = true}
def lastMapOf (pre : List OkPage) : RecMap := pre.foldl (fun m x => mapStep m x.1.2.2) (fun _ => none)
theorem lastMapOf_snoc (pre : List OkPage) (x : OkPage) : lastMapOf (pre ++ [x]) = mapStep (lastMapOf pre) x.1.2.2 := by simp [lastMapOf]
theorem lastMapOf_all {ys : List OkPage} {l0 : List S63} (h : ys.map (·.1) = spotsF 0 l0) : lastMapOf ys = lastMap l0 := by
 unfold lastMapOf lastMap pagesL
 rw [← h, List.foldl_map, List.foldl_map]
theorem RecsIs_own {P : Program} {K : TypeId} {Bq b : Nat} (hb : Bq < b) {β : Type} (f : β → RecMap) (g : β → Nat) : OwnFrom b (fun (s : β) W => ∃ n, n ≤ g s ∧ RecsIs P K W Bq n (f s)) := fun s X Y row hs hg hr => by
 obtain ⟨n, hn, h⟩ := hs
 exact ⟨n, hn, h.kept hg (fun e => by have := (hr _ e.symm).1; omega)⟩
theorem field_seq (a b c d : Value) (W : World) : (Instr.field 32 (.agg #[a, b, c, d]) 1).run Try.prog W = .ok b W := by
 have hu := Try.underlying32
 unfold Instr.field
 simp [run_underlying hu]
 go_simp
 rfl
set_option maxRecDepth 100000 in
set_option maxHeartbeats 8000000 in
theorem lastRecords_any (A0 : Option Addr) (c0 : Nat) (l0 : List (S63)) (w : World) (hr0 : Kd.C k63 w A0 l0.length l0) (hf : flashOkB l0 = true) :
 Calls Try.prog 22 #[.slice A0 l0.length c0] w fun e w' => ∃ B n, e = .returned (.map (some B)) ∧ RecsIs Try.prog 3 w' B n (lastMap l0) ∧ w.heap.size ≤ B ∧ Below w.heap.size w w' := by
 refine (callsIn_wide (n := 3)).1 ?_
 have hmm := @run_makeMap Try.prog
 have hlen := spots_len hf
 refine callsIn_of_wp_marks Try.func22 rfl trivial ?_ rfl
 simp only [Try.ntmps22, List.size_toArray, List.length_cons, List.length_nil, Nat.reduceAdd, Nat.reduceSub, Array.replicate_succ, Array.replicate_zero, List.push_toArray, List.append_toArray, List.nil_append, List.cons_append]
 gi_wp2_with (first | (refine ⟨trivial, ?_⟩; gi_at_call 37; refine (eachPage_in Fence.wide 2 trivial rfl _ _ _ _).mono ?_; rintro e w2 ⟨rfl, rfl⟩))
 have bM : RecsIs Try.prog 3 (((w.alloc (.map #[] 0)).alloc (.cells #[.map (some w.heap.size)] 56)).alloc (.cells #[.slice A0 l0.length c0] 23)) w.heap.size 0 (fun _ => none) := ((RecsIs.made w).alloc _).alloc _
 have bV : Boxed (((w.alloc (.map #[] 0)).alloc (.cells #[.map (some w.heap.size)] 56)).alloc (.cells #[.slice A0 l0.length c0] 23)) (w.heap.size + 1) 56 (.map (some w.heap.size)) := by
  have := blk_alloc (blk_new (w.alloc (.map #[] 0)) (.cells #[.map (some w.heap.size)] 56)) (.cells #[.slice A0 l0.length c0] 23)
  rw [World.size_alloc] at this
  exact this
 have bN : Boxed (((w.alloc (.map #[] 0)).alloc (.cells #[.map (some w.heap.size)] 56)).alloc (.cells #[.slice A0 l0.length c0] 23)) (w.heap.size + 1 + 1) 23 (.slice A0 l0.length c0) := by
  have := blk_new ((w.alloc (.map #[] 0)).alloc (.cells #[.map (some w.heap.size)] 56)) (.cells #[.slice A0 l0.length c0] 23)
  rw [World.size_alloc, World.size_alloc] at this
  exact this
 have hB0 : Below w.heap.size w (((w.alloc (.map #[] 0)).alloc (.cells #[.map (some w.heap.size)] 56)).alloc (.cells #[.slice A0 l0.length c0] 23)) := below_alloc (below_alloc (below_alloc (Below.refl _ w) _) _) _
 have hsz : (((w.alloc (.map #[] 0)).alloc (.cells #[.map (some w.heap.size)] 56)).alloc (.cells #[.slice A0 l0.length c0] 23)).heap.size = w.heap.size + 3 := by simp [World.size_alloc]
 generalize hW0 : ((w.alloc (.map #[] 0)).alloc (.cells #[.map (some w.heap.size)] 56)).alloc (.cells #[.slice A0 l0.length c0] 23) = W0 at *
 refine wpIn_rangeFunc_ownH (F := Fence.wide) rfl (by decide) (gf := 56) (lb := #[.pointer (some ⟨w.heap.size + 1 + 1, 0, none⟩)]) rfl trivial (enters_of Try.func56 (by kernel_rfl) rfl)
  (eachPage_stops Fence.wide 2 trivial rfl (by decide) (fun x => pageB x.2.2 = true) (w.heap.size + 1 + 1) A0 c0 l0 w _ hr0 (okSpots hf) hB0 bN.cell) belowK_t (belowK_b hB0.size) (Below.refl _ _) (fun _ => rfl)
  (fun pre W => (∃ n, n ≤ pre.length ∧ RecsIs Try.prog 3 W w.heap.size n (lastMapOf pre)) ∧ Boxed W (w.heap.size + 1) 56 (.map (some w.heap.size)) ∧ Below w.heap.size w W) (fun _ _ _ => False)
  (OwnFrom.and (RecsIs_own (by omega) _ _) (OwnFrom.and (Own.from (boxed_own _ _ (fun _ => _)) _) (ownFrom_below (Nat.le_refl _) hB0.size))) (fun _ _ _ _ _ hs _ _ => hs)
  ⟨⟨0, Nat.le_refl _, bM⟩, bV, hB0⟩
  (fun x a' W => ∃ Bx, w.heap.size + 1 < Bx ∧ PageBox W Bx x.1.2.2 ∧ a' = { tmps := #[.slice A0 l0.length c0, undef, .map none, .pointer (some ⟨w.heap.size + 1, 0, none⟩), undef, .pointer (some ⟨Bx, 0, none⟩), .map (some w.heap.size), .slice A0 l0.length c0, .func (.func 56) #[] #[.pointer (some ⟨w.heap.size + 1 + 1, 0, none⟩)], .agg #[.int .i64 (x.1.1 : Int), .int .i64 (x.1.2.1 : Int)], .agg #[.int .i64 x.1.2.2.f0, .int .i64 x.1.2.2.f1.f0, .int .i64 x.1.2.2.f1.f1, .int .i64 x.1.2.2.f1.f2, .int .i64 x.1.2.2.f1.f3], undef, undef, undef, undef, undef, undef, undef, undef, undef, undef, undef, undef, undef, undef, undef, undef, undef, undef, undef, undef, undef, undef], defers := [] })
  (fun x a' s X Y row hs hg hr => by obtain ⟨Bx, h1, h2, h3⟩ := hs; exact ⟨Bx, h1, PageBox.own Bx _ _ () X Y row h2 hg hr, h3⟩) ?assign ?body ?done ?stop
 case assign =>
  rintro l pre x W K ⟨⟨n, hn, hm⟩, hbv, hB⟩ hK
  gi_wp2
  exact hK _ _ ((KeepsOthers.alloc _ _).from _) ((Below.refl _ W).alloc hB.size _) ⟨⟨n, hn, hm.alloc _⟩, hbv.alloc _, hB.alloc hB.size _⟩ ⟨W.heap.size, hbv.lt, blk_new W _, rfl⟩
 case body =>
  rintro l pre x a' W hl ⟨r, hr⟩ ⟨⟨n, hn, hm⟩, hbv, hB⟩ ⟨Bx, hBx, bX, rfl⟩ hlt
  obtain ⟨hc0_, hc1_, hc2_, hc3_, hc4_⟩ := bX.cells
  have hcv := hbv.cell
  have hsn := lastMapOf_snoc pre x
  by_cases hs1 : x.1.2.2.f0 = 1
  rotate_left
  · have hs2 : (x.1.2.2.f0 == 1) = false := by simp [hs1]
    unfold mapStep at hsn
    rw [if_neg (fun h => hs1 h.1)] at hsn
    gi_wp2
    exact ⟨KeepsFrom.refl _ _, Below.refl _ _, ⟨n, by rw [List.length_append]; omega, by rw [hsn]; exact hm⟩, hbv, hB⟩
  have hs2 : (x.1.2.2.f0 == 1) = true := by simp [hs1]
  have hwf := okPage_wf x.2 hs1
  have hlk : (Instr.lookup 56 (.map (some w.heap.size)) (.int .i64 x.1.2.2.f1.f2) false).run Try.prog W = .ok (recVal ((lastMapOf pre x.1.2.2.f1.f2).getD (0, 0, 0, 0))) W := hm.look Try.underlying3 Try.underlying56 (by go_simp; rfl) hwf
  unfold recVal at hlk
  unfold mapStep at hsn
  generalize (lastMapOf pre x.1.2.2.f1.f2).getD (0, 0, 0, 0) = q at hlk hsn
  have hfd := field_seq (.int .i64 q.1) (.int .i64 q.2.1) (.int .i64 q.2.2.1) (.int .i64 q.2.2.2)
  by_cases hv : q.2.1 < x.1.2.2.f1.f1
  rotate_left
  · have hv2 : decide (q.2.1 < x.1.2.2.f1.f1) = false := decide_eq_false hv
    rw [if_neg (fun h => hv h.2)] at hsn
    have HSN := am hsn
    clear hsn
    gi_wp2
    exact ⟨KeepsFrom.refl _ _, Below.refl _ _, ⟨n, by rw [List.length_append]; omega, by rw [HSN.out]; exact hm⟩, hbv, hB⟩
  have hv2 : decide (q.2.1 < x.1.2.2.f1.f1) = true := decide_eq_true hv
  rw [if_pos ⟨hs1, hv⟩] at hsn
  obtain ⟨w1, hrun, hm1, hg1⟩ := hm.put (E := 32) (T := 56) Try.underlying3 Try.underlying56 (by simp only [maxLen]; omega) hwf (recOf x.1.2.2.f1)
  unfold recVal recOf at hrun
  have OK1 := am (KeepsFrom.of_grownBy (B := w.heap.size + 3) hg1 (fun j e => by cases e; omega))
  have OK2 := am ((Below.refl w.heap.size W).grown hg1 hB.size (fun j e => by cases e; exact Nat.le_refl _))
  have OK3 := am (hbv.kept hg1 (by intro e; injection e with e; omega))
  have OK4 := am (hB.grown hg1 hB.size (fun j e => by cases e; exact Nat.le_refl _))
  have OK5 := am hm1
  have HSN := am hsn
  clear hm1 hg1 hsn
  gi_wp2
  exact ⟨OK1.out, OK2.out, ⟨n + 1, by rw [List.length_append]; simp; omega, by rw [HSN.out]; exact OK5.out⟩, OK3.out, OK4.out⟩
 case done =>
  rintro D ys W hD hys ⟨⟨n, hn, hm⟩, hbv, hB⟩ hK
  rw [lastMapOf_all hys] at hm
  have hcv := hbv.cell
  gi_wp2
  refine ⟨by simp, .inl ⟨_, _, rfl, run_takeDeferred hK, ?_⟩⟩
  have hm2 := hm.kept (grownBy_putObj' W D (.deferred none)) (fun e => by injection e with e; omega)
  exact ⟨_, results_tmp rfl _ _ _, w.heap.size, n, rfl, hm2, Nat.le_refl _, hB.trans (belowK_b (w := w) (Nat.le_refl _) W D _ _ (by have := hB0.size; omega) hK rfl rfl)⟩
 case stop =>
  rintro D c pre W _ _ h _
  exact h.elim
open Go.Proofs.YtpldeopbdilipaaW
attribute [local go_sem] Oper.semAt_some
theorem isDirty_any (a b c d : Int) (w : World) : CallsIn Fence.wide 2 Try.prog 16 #[.agg #[.int .i64 a, .int .i64 b, .int .i64 c, .int .i64 d]] w fun e w' => e = .returned (.bool (a == 1)) ∧ w' = w.alloc (.cells #[.int .i64 a, .int .i64 b, .int .i64 c, .int .i64 d] 32) := by
 have hu := Try.underlying32
 refine callsIn_of_wp Try.func16 rfl trivial ?_ rfl
 simp only [Try.ntmps16, List.size_toArray, List.length_cons, List.length_nil, Nat.reduceAdd, Nat.reduceSub, Array.replicate_succ, Array.replicate_zero, List.push_toArray, List.append_toArray, List.nil_append, List.cons_append]
 gi_wp2
 go_ret
 exact ⟨rfl, rfl⟩
def okAt (M : RecMap) (d : Int) (i : Nat) : Bool := valB d && (match M ((i : Int) + 1) with
 | none => true
 | some r => decide (r.1 = 1 ∨ r.2.2.2 = d))
def diskN (M : RecMap) (l1 : List Int) : Nat → Bool
 | 0 => true
 | i + 1 => diskN M l1 i && okAt M (rd l1 (i : Int)) i
theorem diskN_no {M : RecMap} {l1 : List Int} {i : Nat} (h : okAt M (rd l1 (i : Int)) i = false) : ∀ n, i < n → diskN M l1 n = false
 | 0, hn => by omega
 | n + 1, hn => by
  rw [diskN]
  by_cases e : i = n
  · subst e; rw [h, Bool.and_false]
  rw [diskN_no h n (by omega), Bool.false_and]
def storeOkB (l0 : List S63) (l1 : List Int) : Bool := decide ((l1.length : Int) = 6) && (orderI l0 && diskN (lastMap l0) l1 6)
def impl_StoreOk.f (l0_0 : List (S63)) (l0_1 : List Int) : Option (Bool) := some (storeOkB l0_0 l0_1)
theorem order_flash {l : List S63} (h : orderI l = true) : flashOkB l = true := by
 unfold orderI at h
 rw [Bool.and_eq_true] at h
 exact h.1
set_option maxRecDepth 100000 in
set_option maxHeartbeats 8000000 in
theorem impl_StoreOk.calls (A0_0 : Option Addr) (c0_0 : Nat) (l0_0 : List (S63)) (A0_1 : Option Addr) (c0_1 : Nat) (l0_1 : List Int) (r : Bool) (w : World) (hr0_0 : Kd.C k63 w A0_0 l0_0.length l0_0) (hc0_0 : l0_0.length ≤ c0_0) (hr0_1 : Kd.C (Kd.int .i64) w A0_1 l0_1.length l0_1) (hc0_1 : l0_1.length ≤ c0_1) (h : impl_StoreOk.f l0_0 l0_1 = some r) :
 Calls Try.prog 11 #[.agg #[.slice A0_0 l0_0.length c0_0, .slice A0_1 l0_1.length c0_1]] w fun e w' => e = .returned (.bool r) ∧ Below w.heap.size w w' := by
 obtain rfl := Option.some.inj h
 clear h
 refine (callsIn_wide (n := 3)).1 ?_
 have hu := Try.underlying26
 have hu2 := Try.underlying32
 have hor : ∀ W, Below w.heap.size w W → CallsIn Fence.wide 2 Try.prog 21 #[.slice A0_0 l0_0.length c0_0] W fun e w' => e = .returned (.bool (orderI l0_0)) ∧ Below W.heap.size W w' := fun W hb => callsIn_wide.2 (impl_FindOrder.calls A0_0 c0_0 l0_0 _ W (Kd.C_below hr0_0 hb) hc0_0 rfl)
 have hbox := blk_new w (.cells #[.slice A0_0 l0_0.length c0_0, .slice A0_1 l0_1.length c0_1] 26)
 have hB1 := below_alloc (Below.refl _ w) (.cells #[.slice A0_0 l0_0.length c0_0, .slice A0_1 l0_1.length c0_1] 26)
 unfold storeOkB
 by_cases c6 : (l0_1.length : Int) = 6
 rotate_left
 · have c6b : ((l0_1.length : Int) != 6) = true := by simp [c6]
   rw [decide_eq_false c6, Bool.false_and]
   refine callsIn_of_wp Try.func11 rfl trivial ?_ rfl
   simp only [Try.ntmps11, List.size_toArray, List.length_cons, List.length_nil, Nat.reduceAdd, Nat.reduceSub, Array.replicate_succ, Array.replicate_zero, List.push_toArray, List.append_toArray, List.nil_append, List.cons_append]
   gi_wp2_with (first | (refine And.intro (show Fence.wide.fn 21 from trivial) ?_))
   go_ret
   exact ⟨rfl, hB1⟩
 have c6b : ((l0_1.length : Int) != 6) = false := by simp [c6]
 rw [decide_eq_true c6, Bool.true_and]
 cases ho : orderI l0_0 with
 | false =>
  rw [ho] at hor
  refine callsIn_of_wp Try.func11 rfl trivial ?_ rfl
  simp only [Try.ntmps11, List.size_toArray, List.length_cons, List.length_nil, Nat.reduceAdd, Nat.reduceSub, Array.replicate_succ, Array.replicate_zero, List.push_toArray, List.append_toArray, List.nil_append, List.cons_append]
  gi_wp2_with (first | (refine ⟨trivial, ?_⟩; gi_at_call 21; refine (hor _ hB1).mono ?_; rintro e w1 ⟨rfl, hb⟩))
  go_ret
  exact ⟨rfl, below_then hB1 hB1.size hb⟩
 | true =>
  rw [ho] at hor
  have hf := order_flash ho
  have hl : l0_1.length = 6 := by omega
  have hlr : ∀ W, Below w.heap.size w W → CallsIn Fence.wide 2 Try.prog 22 #[.slice A0_0 l0_0.length c0_0] W fun e w' => ∃ B n, e = .returned (.map (some B)) ∧ RecsIs Try.prog 3 w' B n (lastMap l0_0) ∧ W.heap.size ≤ B ∧ Below W.heap.size W w' := fun W hb => callsIn_wide.2 (lastRecords_any A0_0 c0_0 l0_0 W (Kd.C_below hr0_0 hb) hf)
  generalize lastMap l0_0 = M at hlr ⊢
  rw [Bool.true_and]
  obtain ⟨V, hV⟩ : ∃ V : Bool, diskN M l0_1 6 = V := ⟨_, rfl⟩
  rw [hV]
  have HV := am hV
  clear hV
  rw [hl] at hbox hB1 ⊢
  refine callsIn_of_wp Try.func11 rfl trivial ?_ rfl
  simp only [Try.ntmps11, List.size_toArray, List.length_cons, List.length_nil, Nat.reduceAdd, Nat.reduceSub, Array.replicate_succ, Array.replicate_zero, List.push_toArray, List.append_toArray, List.nil_append, List.cons_append]
  gi_wp2_with (first | (refine ⟨trivial, ?_⟩; gi_at_call 21; refine (hor _ hB1).mono ?_; rintro e w1 ⟨rfl, hb⟩; have hbox1 := blk_below hbox hb; have hB2 := below_then hB1 hB1.size hb; have hq0 : w1.cell? ⟨w.heap.size, 0, none⟩ = some (.slice A0_0 l0_0.length c0_0) := (blk_cell hbox1 0).trans rfl) | (refine ⟨trivial, ?_⟩; gi_at_call 22; refine (hlr _ hB2).mono ?_; rintro e w2 ⟨B, n, rfl, hm, hBq, hb2⟩; have hB3 := below_then hB2 hB2.size hb2; have hbox2 := blk_below hbox1 hb2; have hq1 : w2.cell? ⟨w.heap.size, 1, none⟩ = some (.slice A0_1 6 c0_1) := (blk_cell hbox2 1).trans rfl))
  clear hor hlr
  gi_loopw [25] (fun v25 wr => ∃ i : Nat, v25 = .int .i64 (i : Int) ∧ i ≤ 6 ∧ Aside0 (diskN M l0_1 i = true) ∧ Aside0 (RecsIs Try.prog 3 wr B n M) ∧ Aside0 (Below w.heap.size w wr)) (fun v25 _ => 6 - (intOf v25).toNat)
  case atStart => exact ⟨0, rfl, by omega, ⟨rfl⟩, ⟨hm⟩, ⟨hB3⟩⟩
  case round =>
   clear hm hB3 hB2 hB1 hbox hbox1 hbox2 hq0 hq1
   obtain ⟨i, rfl, hi, hd, hm, hB⟩ := hrel
   by_cases ci : i < 6
   rotate_left
   · obtain rfl : i = 6 := by omega
     gi_wp2
     go_ret
     exact ⟨by rw [← HV.out, hd.out]; rfl, hB.out⟩
   have cib : decide ((i : Int) < 6) = true := decide_eq_true (by omega)
   have p1 : 0 ≤ (i : Int) := by omega
   have q1 : (i : Int) < 6 := by omega
   obtain ⟨ad1, e1, hx1⟩ := Kd.at_int hr0_1 (i : Int) p1 (by omega)
   cases e1
   replace hx1 := (hB.out.cell (World.block_lt_of_cell? w _ hx1)).trans hx1
   simp only [Int.toNat_natCast] at hx1
   have hno := fun h => diskN_no (M := M) (l1 := l0_1) (i := i) h 6 ci
   have hst : diskN M l0_1 (i + 1) = (diskN M l0_1 i && okAt M (rd l0_1 (i : Int)) i) := rfl
   rw [hd.out, Bool.true_and] at hst
   have hva : ∀ W, CallsIn Fence.wide 2 Try.prog 23 #[.int .i64 (rd l0_1 (i : Int))] W fun e w' => e = .returned (.bool (valB (rd l0_1 (i : Int)))) ∧ W = w' := fun W => callsIn_wide.2 (valOk_any _ W)
   generalize rd l0_1 (i : Int) = d at hx1 hno hst hva
   have hwf : (Lit.int .i64 ((i : Int) + 1)).wf = true := WalkArith.wf_i64 ⟨by omega, by omega⟩
   have hlk := hm.out.look_ok (T := 56) (E := 32) Try.underlying3 Try.underlying56 (by go_simp; rfl) hwf
   unfold okAt at hno hst
   cases hv : valB d with
   | false =>
    rw [hv] at hva hno
    have hx : V = false := by rw [← HV.out, hno (by rw [Bool.false_and])]
    have HX := am hx
    clear hx hlk hno hst hwf
    gi_wp2_with (first | (refine ⟨trivial, ?_⟩; gi_at_call 23; refine (hva _).mono ?_; rintro e w3 ⟨rfl, rfl⟩))
    go_ret
    exact ⟨by rw [HX.out]; rfl, hB.out⟩
   | true =>
    rw [hv, Bool.true_and] at hno hst
    rw [hv] at hva
    cases hM : M ((i : Int) + 1) with
    | none =>
     rw [hM] at hlk hst
     have HST := am hst
     simp only [Option.getD_none, Option.isSome_none, recVal] at hlk
     clear hst hno hwf
     gi_wp2_with (first | (refine ⟨trivial, ?_⟩; gi_at_call 23; refine (hva _).mono ?_; rintro e w3 ⟨rfl, rfl⟩))
     refine ⟨fun _ h => (by cases h), ?_⟩
     gi_wp2
     exact ⟨⟨i + 1, by simp, by omega, HST, ⟨hm.out.alloc _⟩, ⟨below_alloc hB.out _⟩⟩, by simp [intOf]; omega⟩
    | some q =>
     obtain ⟨qa, qb, qc, qd⟩ := q
     rw [hM] at hlk hst hno
     simp only [Option.getD_some, Option.isSome_some, recVal] at hlk
     dsimp only at hst hno
     have hdi := isDirty_any qa qb qc qd
     by_cases k1 : qa = 1
     · have k1b : (qa == 1) = true := by simp [k1]
       have HST : Aside0 (diskN M l0_1 (i + 1) = true) := ⟨by rw [hst, decide_eq_true (Or.inl k1)]⟩
       rw [k1b] at hdi
       subst k1
       clear hst hno hwf
       gi_wp2_with (first | (refine ⟨trivial, ?_⟩; gi_at_call 23; refine (hva _).mono ?_; rintro e w3 ⟨rfl, rfl⟩) | (refine ⟨trivial, ?_⟩; gi_at_call 16; refine (hdi _).mono ?_; rintro e w3 ⟨rfl, rfl⟩))
       exact ⟨⟨i + 1, by simp, by omega, HST, ⟨(hm.out.alloc _).alloc _⟩, ⟨below_alloc (below_alloc hB.out _) _⟩⟩, by simp [intOf]; omega⟩
     have k1b : (qa == 1) = false := by simp [k1]
     rw [k1b] at hdi
     by_cases k2 : qd = d
     rotate_left
     · have k2b : (qd != d) = true := by simp [k2]
       have hx : V = false := by rw [← HV.out, hno (decide_eq_false (fun h => h.elim k1 k2))]
       have HX := am hx
       clear hx hst hno hwf
       gi_wp2_with (first | (refine ⟨trivial, ?_⟩; gi_at_call 23; refine (hva _).mono ?_; rintro e w3 ⟨rfl, rfl⟩) | (refine ⟨trivial, ?_⟩; gi_at_call 16; refine (hdi _).mono ?_; rintro e w3 ⟨rfl, rfl⟩))
       go_ret
       exact ⟨by rw [HX.out]; rfl, below_alloc (below_alloc hB.out _) _⟩
     have k2b : (qd != d) = false := by simp [k2]
     have HST : Aside0 (diskN M l0_1 (i + 1) = true) := ⟨by rw [hst, decide_eq_true (Or.inr k2)]⟩
     subst k2
     clear hst hno hwf
     gi_wp2_with (first | (refine ⟨trivial, ?_⟩; gi_at_call 23; refine (hva _).mono ?_; rintro e w3 ⟨rfl, rfl⟩) | (refine ⟨trivial, ?_⟩; gi_at_call 16; refine (hdi _).mono ?_; rintro e w3 ⟨rfl, rfl⟩))
     exact ⟨⟨i + 1, by simp, by omega, HST, ⟨(hm.out.alloc _).alloc _⟩, ⟨below_alloc (below_alloc hB.out _) _⟩⟩, by simp [intOf]; omega⟩
def impl_Rec_isDirty.f (a0_0 : Int) (a0_1 : Int) (a0_2 : Int) (a0_3 : Int) : Option (Bool) := some (a0_0 == 1)
set_option maxHeartbeats 8000000 in
set_option maxRecDepth 100000 in
theorem impl_Rec_isDirty.calls (a0_0 : Int) (a0_1 : Int) (a0_2 : Int) (a0_3 : Int) (r : Bool) (w : World) (h : impl_Rec_isDirty.f a0_0 a0_1 a0_2 a0_3 = some r) :
 Calls Try.prog 16 #[.agg #[.int .i64 a0_0, .int .i64 a0_1, .int .i64 a0_2, .int .i64 a0_3]] w fun e w' => e = .returned (.bool r) ∧ Below w.heap.size w w' := by
 have hu32 := Try.underlying32
 have HB := am (Below.refl w.heap.size w)
 have H : (some (a0_0 == 1)) = some r := h
 clear h
 obtain rfl := Option.some.inj H
 go_enter Try.func16, Try.ntmps16
 go_wp2_with (first | (refine bx 1 #[.int .i64 a0_0, .int .i64 a0_1, .int .i64 a0_2, .int .i64 a0_3] 32 rfl ?_; intro gb388 hg w2 hbox hb; have BK388 := am (hbox); have GW388 := am (ge hg (ph HB.out)); have GE388 := GW388; replace HB := am (below_step (ph HB.out) hb); clear hb hbox hg; obtain ⟨hcz3_0, hcz3_1, hcz3_2, hcz3_3⟩ := b4 BK388.out; obtain ⟨hfz3_0, hfz3_1, hfz3_2, hfz3_3⟩ := f4 BK388.out))
 go_ret
 exact (rq (bg1 HB.out GE388.out))
def impl_diskStep.f (a0_0 : Int) (a0_1 : Int) (a0_2 : Int) (a0_3 : Int) : Option (Int × Int × Int × Int × Int × Int × Int × Int) := some (1, a0_2, a0_3, 0, 0, 0, 0, 0)
set_option maxHeartbeats 8000000 in
set_option maxRecDepth 100000 in
theorem impl_diskStep.calls (a0_0 : Int) (a0_1 : Int) (a0_2 : Int) (a0_3 : Int) (r1 : Int) (r2 : Int) (r3 : Int) (r4 : Int) (r5 : Int) (r6 : Int) (r7 : Int) (r8 : Int) (w : World) (h : impl_diskStep.f a0_0 a0_1 a0_2 a0_3 = some (r1, r2, r3, r4, r5, r6, r7, r8)) :
 Calls Try.prog 17 #[.agg #[.int .i64 a0_0, .int .i64 a0_1, .int .i64 a0_2, .int .i64 a0_3]] w fun e w' => e = .returned (.agg #[.int .i64 r1, .int .i64 r2, .int .i64 r3, .int .i64 r4, .int .i64 r5, .int .i64 r6, .int .i64 r7, .int .i64 r8]) ∧ Below w.heap.size w w' := by
 have hu32 := Try.underlying32
 have hu34 := Try.underlying34
 have HB := am (Below.refl w.heap.size w)
 have H : (some (1, a0_2, a0_3, 0, 0, 0, 0, 0)) = some (r1, r2, r3, r4, r5, r6, r7, r8) := h
 clear h
 simp only [Option.some.injEq, Prod.mk.injEq] at H
 obtain ⟨rfl, rfl, rfl, rfl, rfl, rfl, rfl, rfl⟩ := H
 go_enter Try.func17, Try.ntmps17
 go_wp2_with (first | (refine bx 1 #[.int .i64 a0_0, .int .i64 a0_1, .int .i64 a0_2, .int .i64 a0_3] 32 rfl ?_; intro gb389 hg w2 hbox hb; have BK389 := am (hbox); have GW389 := am (ge hg (ph HB.out)); have GE389 := GW389; replace HB := am (below_step (ph HB.out) hb); clear hb hbox hg) | (refine bx 2 #[.int .i64 0, .int .i64 0, .int .i64 0, .int .i64 0, .int .i64 0, .int .i64 0, .int .i64 0, .int .i64 0] 34 rfl ?_; intro gb390 hg w3 hbox hb; have BK390 := am (hbox); have GW390 := am (ge hg (bg1 HB.out GE389.out)); have GE390 := GW390; replace HB := am (below_step (bg1 HB.out GE389.out) hb); have NB389_390 := am (nb hg (pb BK389.out)); have NB390_389 := am (Ne.symm NB389_390.out); replace BK389 := am (blk_below (pb BK389.out) hb); clear hb hbox hg; have hnb4 := NB389_390.out; have hnc4 := NB390_389.out; obtain ⟨hcz5_0, hcz5_1, hcz5_2, hcz5_3⟩ := b4 BK389.out; obtain ⟨hfz5_0, hfz5_1, hfz5_2, hfz5_3⟩ := f4 BK389.out; obtain ⟨hcz6_0, hcz6_1, hcz6_2, hcz6_3, hcz6_4, hcz6_5, hcz6_6, hcz6_7⟩ := b8 BK390.out; obtain ⟨hfz6_0, hfz6_1, hfz6_2, hfz6_3, hfz6_4, hfz6_5, hfz6_6, hfz6_7⟩ := f8 BK390.out))
 refine bodyPost_ret (results_cell_row rfl _ _ gb390 34 #[.int .i64 1, .int .i64 a0_2, .int .i64 a0_3, .int .i64 0, .int .i64 0, .int .i64 0, .int .i64 0, .int .i64 0] (0, 0) _ rfl (by (with_reducible repeat (first | refine blk_drewN ?_ _ | refine blk_drew ?_ | refine blk_alloc ?_ _)); refine blk_put (cs := #[.int .i64 1, .int .i64 a0_2, .int .i64 a0_3, .int .i64 0, .int .i64 0, .int .i64 0, .int .i64 0, .int .i64 0]) ?_ 7 _ rfl; (with_reducible repeat (first | refine blk_drewN ?_ _ | refine blk_drew ?_ | refine blk_alloc ?_ _)); refine blk_put (cs := #[.int .i64 1, .int .i64 a0_2, .int .i64 a0_3, .int .i64 0, .int .i64 0, .int .i64 0, .int .i64 0, .int .i64 0]) ?_ 6 _ rfl; (with_reducible repeat (first | refine blk_drewN ?_ _ | refine blk_drew ?_ | refine blk_alloc ?_ _)); refine blk_put (cs := #[.int .i64 1, .int .i64 a0_2, .int .i64 a0_3, .int .i64 0, .int .i64 0, .int .i64 0, .int .i64 0, .int .i64 0]) ?_ 5 _ rfl; (with_reducible repeat (first | refine blk_drewN ?_ _ | refine blk_drew ?_ | refine blk_alloc ?_ _)); refine blk_put (cs := #[.int .i64 1, .int .i64 a0_2, .int .i64 a0_3, .int .i64 0, .int .i64 0, .int .i64 0, .int .i64 0, .int .i64 0]) ?_ 4 _ rfl; (with_reducible repeat (first | refine blk_drewN ?_ _ | refine blk_drew ?_ | refine blk_alloc ?_ _)); refine blk_put (cs := #[.int .i64 1, .int .i64 a0_2, .int .i64 a0_3, .int .i64 0, .int .i64 0, .int .i64 0, .int .i64 0, .int .i64 0]) ?_ 3 _ rfl; (with_reducible repeat (first | refine blk_drewN ?_ _ | refine blk_drew ?_ | refine blk_alloc ?_ _)); refine blk_put (cs := #[.int .i64 1, .int .i64 a0_2, .int .i64 0, .int .i64 0, .int .i64 0, .int .i64 0, .int .i64 0, .int .i64 0]) ?_ 2 _ rfl; (with_reducible repeat (first | refine blk_drewN ?_ _ | refine blk_drew ?_ | refine blk_alloc ?_ _)); refine blk_put (cs := #[.int .i64 1, .int .i64 0, .int .i64 0, .int .i64 0, .int .i64 0, .int .i64 0, .int .i64 0, .int .i64 0]) ?_ 1 _ rfl; (with_reducible repeat (first | refine blk_drewN ?_ _ | refine blk_drew ?_ | refine blk_alloc ?_ _)); refine blk_put (cs := #[.int .i64 0, .int .i64 0, .int .i64 0, .int .i64 0, .int .i64 0, .int .i64 0, .int .i64 0, .int .i64 0]) ?_ 0 _ rfl; (with_reducible repeat (first | refine blk_drewN ?_ _ | refine blk_drew ?_ | refine blk_alloc ?_ _)); exact BK390.out) Try.underlying34 rfl (by kernel_rfl)) rfl ?_
 exact (rq (bg2 HB.out GE389.out GE390.out))
attribute [local go_sem] Oper.semAt_some
def stepNext (m : Int) (p : S65) : Int := if p.f0 = 1 then mx m p.f1.f1 else m
def impl_FindNext.f (l0 : List (S63)) : Option (Int) := some (if flashOkB l0 = true then wrap64 ((pagesL l0).foldl stepNext 0 + 1) else 0)
def nextOf (pre : List AnyPage) : Int := pre.foldl (fun m x => stepNext m x.1.2.2) 0
theorem nextOf_snoc (pre : List AnyPage) (x : AnyPage) : nextOf (pre ++ [x]) = stepNext (nextOf pre) x.1.2.2 := by simp [nextOf]
theorem nextOf_all {ys : List AnyPage} {l0 : List S63} (h : ys.map (·.1) = spotsF 0 l0) : nextOf ys = (pagesL l0).foldl stepNext 0 := by
 unfold nextOf pagesL
 rw [← h, List.foldl_map, List.foldl_map]
set_option maxRecDepth 100000 in
set_option maxHeartbeats 4000000 in
theorem impl_FindNext.calls (A0 : Option Addr) (c0 : Nat) (l0 : List (S63)) (r : Int) (w : World) (hr0 : Kd.C k63 w A0 l0.length l0) (hc0 : l0.length ≤ c0) (h : impl_FindNext.f l0 = some r) :
 Calls Try.prog 24 #[.slice A0 l0.length c0] w fun e w' => e = .returned (.int .i64 r) ∧ Below w.heap.size w w' := by
 obtain rfl := Option.some.inj h
 clear h
 refine (callsIn_wide (n := 3)).1 ?_
 have hok := callsIn_wide (n := 2).2 (impl_FlashOk.calls A0 c0 l0 _ w hr0 hc0 rfl)
 cases hf : flashOkB l0 with
 | false =>
  refine callsIn_of_wp_marks Try.func24 rfl trivial ?_ rfl
  simp only [Try.ntmps24, List.size_toArray, List.length_cons, List.length_nil, Nat.reduceAdd, Nat.reduceSub, Array.replicate_succ, Array.replicate_zero, List.push_toArray, List.append_toArray, List.nil_append, List.cons_append]
  rw [hf] at hok
  gi_wp2_with (first | (refine ⟨trivial, ?_⟩; gi_at_call 36; refine hok.mono ?_; rintro e w1 ⟨rfl, hb⟩))
  exact ⟨_, results_tmp rfl _ _ _, rfl, hb⟩
 | true =>
  refine callsIn_of_wp_marks Try.func24 rfl trivial ?_ rfl
  simp only [Try.ntmps24, List.size_toArray, List.length_cons, List.length_nil, Nat.reduceAdd, Nat.reduceSub, Array.replicate_succ, Array.replicate_zero, List.push_toArray, List.append_toArray, List.nil_append, List.cons_append]
  rw [hf] at hok
  gi_wp2_with (first | (refine ⟨trivial, ?_⟩; gi_at_call 36; refine hok.mono ?_; rintro e w1 ⟨rfl, hb⟩) | (refine ⟨trivial, ?_⟩; gi_at_call 37; refine (eachPage_in Fence.wide 2 trivial rfl _ _ _ _).mono ?_; rintro e w2 ⟨rfl, rfl⟩))
  have bL := Boxed.new w1 3 (.int .i64 0)
  have bN := Boxed.new (w1.alloc (.cells #[.int .i64 0] 3)) 23 (.slice A0 l0.length c0)
  rw [World.size_alloc] at bN
  have bL2 := bL.alloc (.cells #[.slice A0 l0.length c0] 23)
  have hB0 : Below w.heap.size w ((w1.alloc (.cells #[.int .i64 0] 3)).alloc (.cells #[.slice A0 l0.length c0] 23)) := (hb.alloc hb.size _).alloc (hb.alloc hb.size _).size _
  refine wpIn_rangeFunc_ownH (F := Fence.wide) rfl (by decide) (gf := 56) (lb := #[.pointer (some ⟨w1.heap.size + 1, 0, none⟩)]) rfl trivial (enters_of Try.func56 (by kernel_rfl) rfl)
   (eachPage_stops Fence.wide 2 trivial rfl (by decide) (fun _ => True) (w1.heap.size + 1) A0 c0 l0 w _ hr0 (fun _ _ => trivial) hB0 bN.cell) belowK_t (belowK_b hB0.size) (Below.refl _ _) (fun _ => rfl)
   (fun pre W => Boxed W w1.heap.size 3 (.int .i64 (nextOf pre)) ∧ Below w.heap.size w W) (fun _ _ _ => False)
   (OwnFrom.and (Own.from (boxed_own _ _ _) _) (ownFrom_below (Nat.le_refl _) hB0.size)) (fun _ _ _ _ _ hs _ _ => hs) ⟨bL2, hB0⟩
   (fun x a' W => ∃ Bx, w1.heap.size < Bx ∧ PageBox W Bx x.1.2.2 ∧ a' = { tmps := #[.slice A0 l0.length c0, undef, .int .i64 0, .pointer (some ⟨w1.heap.size, 0, none⟩), undef, .pointer (some ⟨Bx, 0, none⟩), .slice A0 l0.length c0, .bool true, .bool false, .slice A0 l0.length c0, .func (.func 56) #[] #[.pointer (some ⟨w1.heap.size + 1, 0, none⟩)], .agg #[.int .i64 (x.1.1 : Int), .int .i64 (x.1.2.1 : Int)], .agg #[.int .i64 x.1.2.2.f0, .int .i64 x.1.2.2.f1.f0, .int .i64 x.1.2.2.f1.f1, .int .i64 x.1.2.2.f1.f2, .int .i64 x.1.2.2.f1.f3], undef, undef, undef, undef, undef, undef, undef, undef, undef, undef], defers := [] })
   (fun x a' s X Y row hs hg hr => by obtain ⟨Bx, h1, h2, h3⟩ := hs; exact ⟨Bx, h1, PageBox.own Bx _ _ () X Y row h2 hg hr, h3⟩) ?assign ?body ?done ?stop
  case assign =>
   rintro l pre x W K ⟨hbx, hB⟩ hK
   gi_wp2
   exact hK _ _ ((KeepsOthers.alloc _ _).from _) ((Below.refl _ W).alloc hB.size _) ⟨hbx.alloc _, hB.alloc hB.size _⟩ ⟨W.heap.size, hbx.lt, blk_new W _, rfl⟩
  case body =>
   rintro l pre x a' W hl ⟨r, hr⟩ ⟨hbx, hB⟩ ⟨Bx, hBx, bX, rfl⟩ hlt
   obtain ⟨hc0_, hc1_, hc2_, hc3_, hc4_⟩ := bX.cells
   have hcl := hbx.cell
   have hfl := hbx.frozen
   have hsn := nextOf_snoc pre x
   by_cases hs1 : x.1.2.2.f0 = 1
   rotate_left
   · have hs2 : (x.1.2.2.f0 == 1) = false := by simp [hs1]
     rw [stepNext, if_neg hs1] at hsn
     gi_wp2
     exact ⟨KeepsFrom.refl _ _, Below.refl _ _, by rw [hsn]; exact hbx, hB⟩
   have hs2 : (x.1.2.2.f0 == 1) = true := by simp [hs1]
   rw [stepNext, if_pos hs1] at hsn
   gi_wp2
   all_goals
    refine ⟨(KeepsOthers.setCell _ _ _).from _, (Below.refl _ W).setCell (p := ⟨w1.heap.size, 0, none⟩) hb.size _, ?_, hB.setCell (p := ⟨w1.heap.size, 0, none⟩) hb.size _⟩
    rw [hsn]
    unfold mx
    first
     | (rw [if_pos (by omega)]; exact hbx.set _)
     | (rw [if_neg (by omega)]; exact hbx.set _)
  case done =>
   rintro D ys W hD hys ⟨hbx, hB⟩ hK
   have hcl := hbx.cell
   gi_wp2
   refine ⟨by simp, .inl ⟨_, _, rfl, run_takeDeferred hK, ?_⟩⟩
   exact ⟨_, results_tmp rfl _ _ _, by rw [← nextOf_all hys]; rfl, hB.trans (belowK_b (w := w) (Nat.le_refl _) W D _ _ (by have := hB0.size; omega) hK rfl rfl)⟩
  case stop =>
   rintro D c pre W _ _ h _
   exact h.elim
end Go.Proofs.Ytpldeopbdilipaa.P1
