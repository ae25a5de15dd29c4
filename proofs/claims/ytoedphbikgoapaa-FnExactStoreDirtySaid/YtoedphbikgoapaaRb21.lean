-- printed by wip/pp/pp.py
import Derived.Test.YtoedphbikgoapaaRb0
import Derived.Test.YtoedphbikgoapaaRb2
import Derived.Test.YtoedphbikgoapaaRb5
import Derived.Test.YtoedphbikgoapaaRb16
import Derived.Test.YtoedphbikgoapaaRb18
import Derived.Test.YtoedphbikgoapaaRb19
namespace Go.Proofs.Ytoedphbikgoapaa.Rb
open Go.RowKit Go.Proofs.YtoedphbikgoapaaW.PrintWords Go.Proofs.YtoedphbikgoapaaW.PrintLast Go.Proofs.YtoedphbikgoapaaW.PrintMore
attribute [local go_sem] max2_int min2_int max_two min_two max_three min_three max_four min_four   -- for this text's walks alone
set_option linter.unusedVariables false
set_option linter.unusedSimpArgs false

-- ALONE
attribute [local go_sem] Oper.semAt_some
theorem flash_four' {l : List S65} (h : flashOkB l = true) : l.length = 4 := by
  unfold flashOkB at h
  rw [Bool.and_eq_true, decide_eq_true_eq] at h
  omega
theorem freeQ_loop (l : List S71) (hl : l.length ≤ maxLen) : ∀ (n i m : Nat), i + n = l.length → m ≤ i → impl_freePages.l0 (n + 1) (m : Int) l (l.length : Int) (i : Int) = some ((m + freeQ (l.drop i) : Nat) : Int)
  | 0, i, m, h, hm => by
    rw [impl_freePages.l0, if_neg (by omega), List.drop_eq_nil_of_le (by omega)]
    rfl
  | n + 1, i, m, h, hm => by
    have ih1 := freeQ_loop l hl n (i + 1) (m + 1) (by omega) (by omega)
    have ih2 := freeQ_loop l hl n (i + 1) m (by omega) (by omega)
    have e1 : wrap64 ((i : Int) + 1) = ((i + 1 : Nat) : Int) := by simp only [maxLen] at hl; rw [IntWalk.wrap64_in _ (by omega)]; omega
    have e2 : wrap64 ((m : Int) + 1) = ((m + 1 : Nat) : Int) := by simp only [maxLen] at hl; rw [IntWalk.wrap64_in _ (by omega)]; omega
    rw [drop_pg (by omega : i < l.length), freeQ, impl_freePages.l0, if_pos (by omega), if_pos (by omega), if_pos (by omega), e1, e2]
    by_cases hs : (rd_T71 l (i : Int)).f0 = 0
    rotate_left
    · rw [if_neg hs, if_neg hs, Nat.zero_add]
      exact ih2
    rw [if_pos hs, if_pos hs, show m + (1 + freeQ (l.drop (i + 1))) = m + 1 + freeQ (l.drop (i + 1)) by omega]
    exact ih1
def partB (b : S65) : Bool := decide (0 < freeQ b.f0 ∧ freeQ b.f0 < 4)
theorem partlyUsed_ok (b : S65) (hl : b.f0.length ≤ maxLen) : ∃ k, impl_partlyUsed.f k b.f0 b.f1 = some (partB b) := by
  refine ⟨b.f0.length + 1, ?_⟩
  have := freeQ_loop b.f0 hl b.f0.length 0 0 (by omega) (by omega)
  have this2 : impl_freePages.l0 (b.f0.length + 1) 0 b.f0 (b.f0.length : Int) 0 = _ := this
  unfold impl_partlyUsed.f impl_freePages.f partB
  rw [this2, Option.bind_some, List.drop_zero, Nat.zero_add]
  by_cases h : 0 < freeQ b.f0
  rotate_left
  · rw [if_neg (by omega), decide_eq_false (fun q => h q.1)]
  rw [if_pos (by omega)]
  by_cases h4 : freeQ b.f0 < 4
  · rw [decide_eq_true (by omega : ((freeQ b.f0 : Nat) : Int) < 4), decide_eq_true ⟨h, h4⟩]
  rw [decide_eq_false (by omega : ¬ ((freeQ b.f0 : Nat) : Int) < 4), decide_eq_false (fun q => h4 q.2)]
def crossB (a b : Int × Int) : Bool := decide (a.2 > 0 ∧ b.2 > 0 ∧ a.2 ≥ b.1 ∧ b.2 ≥ a.1)
def overI (s : Spans) (i : Nat) : Nat → Bool
  | 0 => false
  | j + 1 => overI s i j || crossB (s i) (s j)
def overN (s : Spans) : Nat → Bool
  | 0 => false
  | i + 1 => overN s i || overI s i i
def newestN (s : Spans) : Nat → Int
  | 0 => 0
  | i + 1 => mx (newestN s i) (s i).2
def partN (l : List S65) : Nat → Nat
  | 0 => 0
  | i + 1 => partN l i + (if partB (rd_T65 l (i : Int)) = true then 1 else 0)
def badN (l : List S65) (s : Spans) (m : Int) : Nat → Bool
  | 0 => false
  | i + 1 => badN l s m i || (partB (rd_T65 l (i : Int)) && decide ((s i).2 > 0 ∧ (s i).2 < m))
theorem partN_le (l : List S65) : ∀ i, partN l i ≤ i
  | 0 => Nat.le_refl _
  | i + 1 => by
    have := partN_le l i
    rw [partN]
    split <;> omega
theorem overI_of {s : Spans} {i j : Nat} (h : crossB (s i) (s j) = true) : ∀ n, j < n → overI s i n = true
  | 0, hn => by omega
  | n + 1, hn => by
    rw [overI, Bool.or_eq_true]
    by_cases e : j = n
    · subst e; exact .inr h
    exact .inl (overI_of h n (by omega))
theorem overN_of {s : Spans} {i : Nat} (h : overI s i i = true) : ∀ n, i < n → overN s n = true
  | 0, hn => by omega
  | n + 1, hn => by
    rw [overN, Bool.or_eq_true]
    by_cases e : i = n
    · subst e; exact .inr h
    exact .inl (overN_of h n (by omega))
theorem badN_of {l : List S65} {s : Spans} {m : Int} {i : Nat} (h : partB (rd_T65 l (i : Int)) = true) (h2 : (s i).2 > 0 ∧ (s i).2 < m) : ∀ n, i < n → badN l s m n = true
  | 0, hn => by omega
  | n + 1, hn => by
    rw [badN, Bool.or_eq_true]
    by_cases e : i = n
    rotate_left
    · exact .inl (badN_of h h2 n (by omega))
    subst e; exact .inr (by rw [h, decide_eq_true h2]; rfl)
theorem overI_step {s : Spans} {i j : Nat} (h : overI s i j = false) (h2 : crossB (s i) (s j) = false) : overI s i (j + 1) = false := by rw [overI, h, h2]; rfl
theorem crossB_false {a b : Int × Int} (h : ¬ (a.2 > 0 ∧ b.2 > 0 ∧ a.2 ≥ b.1 ∧ b.2 ≥ a.1)) : crossB a b = false := decide_eq_false h
def orderI (l : List S65) : Bool := flashOkB l && (!overN (spansF l) 4 && (!badN l (spansF l) (newestN (spansF l) 4) 4 && decide (partN l 4 ≤ 1)))
def impl_FindOrder.f (l0 : List (S65)) : Option (Bool) := some (orderI l0)
set_option maxRecDepth 100000 in
set_option maxHeartbeats 8000000 in
theorem impl_FindOrder.calls (A0 : Option Addr) (c0 : Nat) (l0 : List (S65)) (r : Bool) (w : World) (hr0 : Kd.C k65 w A0 l0.length l0) (hc0 : l0.length ≤ c0) (h : impl_FindOrder.f l0 = some r) :
    Calls Try.prog 82 #[.slice A0 l0.length c0] w fun e w' => e = .returned (.bool r) ∧ Below w.heap.size w w' := by
  obtain rfl := Option.some.inj h
  clear h
  refine (callsIn_wide (n := 3)).1 ?_
  have hok := callsIn_wide (n := 2).2 (impl_FlashOk.calls A0 c0 l0 _ w hr0 hc0 rfl)
  have hu := Try.underlying124
  have hu2 := Try.underlying65
  unfold orderI
  cases hf : flashOkB l0 with
  | false =>
    rw [hf] at hok
    refine callsIn_of_wp Try.func82 rfl trivial ?_ rfl
    simp only [Try.ntmps82, List.size_toArray, List.length_cons, List.length_nil, Nat.reduceAdd, Nat.reduceSub, Array.replicate_succ, Array.replicate_zero, List.push_toArray, List.append_toArray, List.nil_append, List.cons_append]
    gi_wp2_with (first | (refine ⟨trivial, ?_⟩; gi_at_call 44; refine hok.mono ?_; rintro e w1 ⟨rfl, hb⟩))
    go_ret
    exact ⟨rfl, hb⟩
  | true =>
    rw [hf] at hok
    have hl := flash_four' hf
    rw [Bool.true_and]
    have hsp : ∀ W, Below w.heap.size w W → CallsIn Fence.wide 2 Try.prog 95 #[.slice A0 4 c0] W fun e w' => ∃ g, e = .returned (.slice (some ⟨g, 0, none⟩) 4 4) ∧ SpansBox w' g (spansF l0) ∧ W.heap.size ≤ g ∧ Below W.heap.size W w' := fun W hb => callsIn_wide.2 (spansOf_any A0 c0 l0 W (Kd.C_below hr0 hb) hl)
    generalize spansF l0 = s at hsp ⊢
    obtain ⟨V, hV⟩ : ∃ V : Bool, (!overN s 4 && (!badN l0 s (newestN s 4) 4 && decide (partN l0 4 ≤ 1))) = V := ⟨_, rfl⟩
    rw [hV]
    have HV := Aside0.mk hV
    clear hV
    rw [hl] at hok ⊢
    refine callsIn_of_wp Try.func82 rfl trivial ?_ rfl
    simp only [Try.ntmps82, List.size_toArray, List.length_cons, List.length_nil, Nat.reduceAdd, Nat.reduceSub, Array.replicate_succ, Array.replicate_zero, List.push_toArray, List.append_toArray, List.nil_append, List.cons_append]
    gi_wp2_with (first | (refine ⟨trivial, ?_⟩; gi_at_call 44; refine hok.mono ?_; rintro e w1 ⟨rfl, hb⟩) | (refine ⟨trivial, ?_⟩; gi_at_call 95; refine (hsp _ hb).mono ?_; rintro e w2 ⟨g, rfl, hsb, hg, hb2⟩))
    have hB0 := below_then hb hb.size hb2
    clear hsp hok
    gi_loopw [19, 4] (fun v19 v4 wr => ∃ i : Nat, v19 = .int .i64 (i : Int) ∧ v4 = .int .i64 (newestN s i) ∧ i ≤ 4 ∧ overN s i = false ∧ SpansBox wr g s ∧ Below w.heap.size w wr) (fun v19 _ _ => 4 - (intOf v19).toNat)
    case atStart => exact ⟨0, rfl, rfl, by omega, rfl, hsb, hB0⟩
    case round =>
      clear hsb hB0
      obtain ⟨i, rfl, rfl, hi, hov, hbx, hB⟩ := hrel
      by_cases ci : i < 4
      · have cib : decide ((i : Int) < 4) = true := decide_eq_true (by omega)
        have p1 : 0 ≤ (i : Int) := by omega
        have q1 : (i : Int) < 4 := by omega
        obtain ⟨h1, h2⟩ := hbx.at_ i ci
        have hglt := blk_lt hbx
        have hst : newestN s (i + 1) = mx (newestN s i) (s i).2 := rfl
        gi_wp2
        all_goals
          have hA := blk_new wr (.cells #[.int .i64 (s i).1, .int .i64 (s i).2] 124)
          have hbx := blk_alloc hbx (.cells #[.int .i64 (s i).1, .int .i64 (s i).2] 124)
          have hB := below_alloc hB (.cells #[.int .i64 (s i).1, .int .i64 (s i).2] 124)
          clear h1 h2 hglt
          generalize wr.heap.size = gA at hA ⊢
          generalize wr.alloc (.cells #[.int .i64 (s i).1, .int .i64 (s i).2] 124) = wa at hA hbx hB ⊢
          gi_loopw [32] (fun v32 w3 => ∃ j : Nat, v32 = .int .i64 (j : Int) ∧ j ≤ i ∧ overI s i j = false ∧ SpansBox w3 g s ∧ w3.heap[gA]? = some (.cells #[.int .i64 (s i).1, .int .i64 (s i).2] 124 (0, 0)) ∧ Below w.heap.size w w3) (fun v32 _ => i - (intOf v32).toNat)
          case atStart => exact ⟨0, rfl, by omega, rfl, hbx, hA, hB⟩
          case round =>
            clear hbx hA hB
            obtain ⟨j, rfl, hj, hoj, hbx, hA, hB⟩ := hrel
            by_cases cj : j < i
            rotate_left
            · obtain rfl : j = i := by omega
              have HC : Aside0 (overN s (j + 1) = false) := ⟨by rw [overN, hov, hoj]; rfl⟩
              have HM : Aside0 (newestN s (j + 1) = mx (newestN s j) (s j).2) := ⟨rfl⟩
              clear hst
              gi_wp2
              refine ⟨⟨j + 1, by simp, ?_, by omega, HC.out, hbx, hB⟩, by simp [intOf]; omega⟩
              rw [HM.out]
              unfold mx
              first
                | (rw [if_pos (by assumption)]; done)
                | (rw [if_pos (by omega)]; done)
                | (rw [if_neg (by omega)]; done)
            have cjb : decide ((j : Int) < (i : Int)) = true := decide_eq_true (by omega)
            have p2 : 0 ≤ (j : Int) := by omega
            have q2 : (j : Int) < (i : Int) := by omega
            obtain ⟨h3, h4⟩ := hbx.at_ j (by omega)
            have hglt := blk_lt hbx
            have hAlt := blk_lt hA
            have ha0 : wr.cell? ⟨gA, 0, none⟩ = some (.int .i64 (s i).1) := (blk_cell hA 0).trans rfl
            have ha1 : wr.cell? ⟨gA, 1, none⟩ = some (.int .i64 (s i).2) := (blk_cell hA 1).trans rfl
            by_cases k1 : 0 < (s i).2
            rotate_left
            · have k1b : decide (0 < (s i).2) = false := decide_eq_false k1
              have HC := Aside0.mk (overI_step hoj (crossB_false (fun q => k1 q.1)))
              gi_wp2
              exact ⟨⟨j + 1, by simp, by omega, HC.out, blk_alloc hbx _, blk_alloc hA _, below_alloc hB _⟩, by simp [intOf]; omega⟩
            have k1b : decide (0 < (s i).2) = true := decide_eq_true k1
            by_cases k2 : 0 < (s j).2
            rotate_left
            · have k2b : decide (0 < (s j).2) = false := decide_eq_false k2
              have HC := Aside0.mk (overI_step hoj (crossB_false (fun q => k2 q.2.1)))
              gi_wp2
              exact ⟨⟨j + 1, by simp, by omega, HC.out, blk_alloc hbx _, blk_alloc hA _, below_alloc hB _⟩, by simp [intOf]; omega⟩
            have k2b : decide (0 < (s j).2) = true := decide_eq_true k2
            by_cases k3 : (s j).1 ≤ (s i).2
            rotate_left
            · have k3b : decide ((s j).1 ≤ (s i).2) = false := decide_eq_false k3
              have HC := Aside0.mk (overI_step hoj (crossB_false (fun q => k3 q.2.2.1)))
              gi_wp2
              exact ⟨⟨j + 1, by simp, by omega, HC.out, blk_alloc hbx _, blk_alloc hA _, below_alloc hB _⟩, by simp [intOf]; omega⟩
            have k3b : decide ((s j).1 ≤ (s i).2) = true := decide_eq_true k3
            by_cases k4 : (s i).1 ≤ (s j).2
            rotate_left
            · have k4b : decide ((s i).1 ≤ (s j).2) = false := decide_eq_false k4
              have HC := Aside0.mk (overI_step hoj (crossB_false (fun q => k4 q.2.2.2)))
              gi_wp2
              exact ⟨⟨j + 1, by simp, by omega, HC.out, blk_alloc hbx _, blk_alloc hA _, below_alloc hB _⟩, by simp [intOf]; omega⟩
            have k4b : decide ((s i).1 ≤ (s j).2) = true := decide_eq_true k4
            have hx : V = false := by rw [← HV.out, overN_of (overI_of (show crossB (s i) (s j) = true from decide_eq_true ⟨k1, k2, k3, k4⟩) i cj) 4 ci]; rfl
            have HX := Aside0.mk hx
            clear hx
            gi_wp2
            go_ret
            exact ⟨by rw [HX.out]; rfl, below_alloc hB _⟩
      obtain rfl : i = 4 := by omega
      generalize newestN s 4 = m at HV ⊢
      gi_wp2
      gi_loopw [62, 9] (fun v62 v9 wr => ∃ i : Nat, v62 = .int .i64 (i : Int) ∧ v9 = .int .i64 ((partN l0 i : Nat) : Int) ∧ i ≤ 4 ∧ badN l0 s m i = false ∧ SpansBox wr g s ∧ Below w.heap.size w wr) (fun v62 _ _ => 4 - (intOf v62).toNat)
      case atStart => exact ⟨0, rfl, rfl, by omega, rfl, hbx, hB⟩
      case round =>
        clear hbx hB
        obtain ⟨i, rfl, rfl, hi, hbad, hbx, hB⟩ := hrel
        have hple := partN_le l0 i
        by_cases ci : i < 4
        rotate_left
        · obtain rfl : i = 4 := by omega
          gi_wp2
          go_ret
          exact ⟨by rw [← HV.out, hov, hbad, Bool.not_false, Bool.true_and, Bool.true_and]; exact congrArg (fun b => Ending.returned (Value.bool b)) (decide_eq_decide.2 (by omega : ((partN l0 4 : Nat) : Int) ≤ 1 ↔ partN l0 4 ≤ 1)), hB⟩
        have cib : decide ((i : Int) < 4) = true := decide_eq_true (by omega)
        have p1 : 0 ≤ (i : Int) := by omega
        have q1 : (i : Int) < 4 := by omega
        obtain ⟨h1, h2⟩ := hbx.at_ i ci
        have hglt := blk_lt hbx
        obtain ⟨ad1, A1, c1, e1, hx1_0, hx1_1, hl1, hi1⟩ := at_T65 hr0 (i : Int) p1 (by omega)
        cases e1
        replace hx1_0 := (hB.cell (World.block_lt_of_cell? w _ hx1_0)).trans hx1_0
        replace hx1_1 := (hB.cell (World.block_lt_of_cell? w _ hx1_1)).trans hx1_1
        have hlm1 := Kd.C_max hi1
        simp only [Int.toNat_natCast] at hx1_0 hx1_1
        obtain ⟨kb, hkb⟩ := partlyUsed_ok (rd_T65 l0 (i : Int)) hlm1
        have hst1 : partN l0 (i + 1) = partN l0 i + (if partB (rd_T65 l0 (i : Int)) = true then 1 else 0) := rfl
        have hst2 : badN l0 s m (i + 1) = (badN l0 s m i || (partB (rd_T65 l0 (i : Int)) && decide ((s i).2 > 0 ∧ (s i).2 < m))) := rfl
        have hbo := fun n => badN_of (l := l0) (s := s) (m := m) (i := i) (h2 := n)
        have hpu : ∀ W, Below w.heap.size w W → CallsIn Fence.wide 2 Try.prog 96 #[.agg #[.slice A1 (rd_T65 l0 (i : Int)).f0.length c1, .int .i64 (rd_T65 l0 (i : Int)).f1]] W fun e w' => e = .returned (.bool (partB (rd_T65 l0 (i : Int)))) ∧ Below W.heap.size W w' := fun W hb => callsIn_wide.2 (impl_partlyUsed.calls kb _ _ _ _ _ W (Kd.C_below hi1 hb) hl1 hkb)
        clear hkb hi1
        generalize rd_T65 l0 (i : Int) = bl at hx1_0 hx1_1 hl1 hlm1 hst1 hst2 hbo hpu
        have hA := blk_new wr (.cells #[.slice A1 bl.f0.length c1, .int .i64 bl.f1] 65)
        have hbx2 := blk_alloc hbx (.cells #[.slice A1 bl.f0.length c1, .int .i64 bl.f1] 65)
        have hB2 := below_alloc hB (.cells #[.slice A1 bl.f0.length c1, .int .i64 bl.f1] 65)
        cases hpb : partB bl with
        | false =>
          rw [hpb] at hpu hst1 hst2
          gi_wp2_with (first | (refine ⟨trivial, ?_⟩; gi_at_call 96; refine (hpu _ hB2).mono ?_; rintro e w3 ⟨rfl, hb3⟩))
          go_roundw
          case rel =>
            (repeat apply Exists.intro)
            refine ⟨?_, rfl⟩
            exact ⟨i + 1, by simp, by rw [hst1]; simp, by omega, by rw [hst2, hbad]; rfl, blk_below hbx2 hb3, below_then hB2 hB2.size hb3⟩
          case measure => simp [intOf]; omega
        | true =>
          rw [hpb] at hpu hst1 hst2
          rw [if_pos rfl] at hst1
          by_cases k1 : 0 < (s i).2
          rotate_left
          · have k1b : decide (0 < (s i).2) = false := decide_eq_false k1
            have HC : Aside0 (badN l0 s m (i + 1) = false) := ⟨by rw [hst2, hbad, decide_eq_false (fun q => k1 q.1)]; rfl⟩
            gi_wp2_with (first | (refine ⟨trivial, ?_⟩; gi_at_call 96; refine (hpu _ hB2).mono ?_; rintro e w3 ⟨rfl, hb3⟩; have hbx3 := SpansBox.at_ (blk_below hbx2 hb3) i ci; have h5 := hbx3.2))
            go_roundw
            case rel =>
              (repeat apply Exists.intro)
              refine ⟨?_, rfl⟩
              exact ⟨i + 1, by simp, by rw [hst1]; simp, by omega, HC.out, blk_below hbx2 hb3, below_then hB2 hB2.size hb3⟩
            case measure => simp [intOf]; omega
          have k1b : decide (0 < (s i).2) = true := decide_eq_true k1
          by_cases k2 : (s i).2 < m
          · have k2b : decide ((s i).2 < m) = true := decide_eq_true k2
            have hx : V = false := by rw [← HV.out, hbo ⟨k1, k2⟩ hpb 4 ci, Bool.not_true, Bool.false_and, Bool.and_false]
            have HX := Aside0.mk hx
            clear hx
            gi_wp2_with (first | (refine ⟨trivial, ?_⟩; gi_at_call 96; refine (hpu _ hB2).mono ?_; rintro e w3 ⟨rfl, hb3⟩; have hbx3 := SpansBox.at_ (blk_below hbx2 hb3) i ci; have h5 := hbx3.2))
            go_ret
            exact ⟨by rw [HX.out]; rfl, below_then hB2 hB2.size hb3⟩
          have k2b : decide ((s i).2 < m) = false := decide_eq_false k2
          have HC : Aside0 (badN l0 s m (i + 1) = false) := ⟨by rw [hst2, hbad, decide_eq_false (fun q => k2 q.2)]; rfl⟩
          gi_wp2_with (first | (refine ⟨trivial, ?_⟩; gi_at_call 96; refine (hpu _ hB2).mono ?_; rintro e w3 ⟨rfl, hb3⟩; have hbx3 := SpansBox.at_ (blk_below hbx2 hb3) i ci; have h5 := hbx3.2))
          go_roundw
          case rel =>
            (repeat apply Exists.intro)
            refine ⟨?_, rfl⟩
            exact ⟨i + 1, by simp, by rw [hst1]; simp, by omega, HC.out, blk_below hbx2 hb3, below_then hB2 hB2.size hb3⟩
          case measure => simp [intOf]; omega

end Go.Proofs.Ytoedphbikgoapaa.Rb
