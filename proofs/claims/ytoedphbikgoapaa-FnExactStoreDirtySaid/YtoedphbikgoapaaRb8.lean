-- printed by wip/pp/pp.py
import Derived.Test.YtoedphbikgoapaaRb0
import Derived.Test.YtoedphbikgoapaaRb2
import Derived.Test.YtoedphbikgoapaaRb3
import Derived.Test.YtoedphbikgoapaaRb4
import Derived.Test.YtoedphbikgoapaaRb5
import Derived.Test.YtoedphbikgoapaaRb6
import Derived.Test.YtoedphbikgoapaaRb7
namespace Go.Proofs.Ytoedphbikgoapaa.Rb
open Go.RowKit Go.Proofs.YtoedphbikgoapaaW.PrintWords Go.Proofs.YtoedphbikgoapaaW.PrintLast Go.Proofs.YtoedphbikgoapaaW.PrintMore
attribute [local go_sem] max2_int min2_int max_two min_two max_three min_three max_four min_four   -- for this text's walks alone
set_option linter.unusedVariables false
set_option linter.unusedSimpArgs false

-- ALONE
attribute [local go_sem] Oper.semAt_some
theorem flash_fourS {l : List S65} (h : flashOkB l = true) : l.length = 4 := by
  unfold flashOkB at h
  rw [Bool.and_eq_true, decide_eq_true_eq] at h
  omega
def mostQ (m : Int) (ps : List S71) : Int := ps.foldl (fun m p => mx m p.f1.f1) m
def leastStep (n : Int) (p : S71) : Int := if p.f1.f1 > 0 ∧ (n = 0 ∨ p.f1.f1 < n) then p.f1.f1 else n
def leastQ (m : Int) (ps : List S71) : Int := ps.foldl leastStep m
theorem mostQ_loop (l : List S71) (b : Int) (hl : l.length ≤ maxLen) : ∀ (n i : Nat) (m : Int), i + n = l.length → spec_l3Most.l0 (n + 1) m (i : Int) l b = some (mostQ m (l.drop i))
  | 0, i, m, h => by
    rw [spec_l3Most.l0, if_neg (by omega), List.drop_eq_nil_of_le (by omega)]
    rfl
  | n + 1, i, m, h => by
    have ih := fun m => mostQ_loop l b hl n (i + 1) m (by omega)
    have e1 : wrap64 ((i : Int) + 1) = ((i + 1 : Nat) : Int) := by simp only [maxLen] at hl; rw [IntWalk.wrap64_in _ (by omega)]; omega
    rw [drop_pg (by omega : i < l.length), spec_l3Most.l0, if_pos (by omega), if_pos (by omega), e1]
    exact ih _
theorem leastQ_loop (l : List S71) (b : Int) (hl : l.length ≤ maxLen) : ∀ (n i : Nat) (m : Int), i + n = l.length → spec_l3Least.l0 (n + 1) m (i : Int) l b = some (leastQ m (l.drop i))
  | 0, i, m, h => by
    rw [spec_l3Least.l0, if_neg (by omega), List.drop_eq_nil_of_le (by omega)]
    rfl
  | n + 1, i, m, h => by
    have ih := fun m => leastQ_loop l b hl n (i + 1) m (by omega)
    have e1 : wrap64 ((i : Int) + 1) = ((i + 1 : Nat) : Int) := by simp only [maxLen] at hl; rw [IntWalk.wrap64_in _ (by omega)]; omega
    have e2 : ∀ p : S71, ∀ ps, leastQ m (p :: ps) = leastQ (leastStep m p) ps := fun _ _ => rfl
    rw [drop_pg (by omega : i < l.length), e2, spec_l3Least.l0, if_pos (by omega), if_pos (by omega), e1]
    generalize rd_T71 l (i : Int) = p
    unfold leastStep
    by_cases h1 : p.f1.f1 > 0
    rotate_left
    · rw [if_neg h1, if_neg (fun h => h1 h.1)]
      exact ih _
    rw [if_pos h1]
    by_cases h2 : m = 0
    · rw [if_pos h2, if_pos ⟨h1, Or.inl h2⟩]
      exact ih _
    rw [if_neg h2]
    by_cases h3 : p.f1.f1 < m
    · rw [if_pos h3, if_pos ⟨h1, Or.inr h3⟩]
      exact ih _
    rw [if_neg h3, if_neg (fun h => h.2.elim h2 h3)]
    exact ih _
theorem freeS_loop (l : List S71) (b : Int) (hl : l.length ≤ maxLen) : ∀ (n i m : Nat), i + n = l.length → m ≤ i → spec_l2Clean.l0 (n + 1) (m : Int) (i : Int) l b = some ((m + freeQ (l.drop i) : Nat) : Int)
  | 0, i, m, h, hm => by
    rw [spec_l2Clean.l0, if_neg (by omega), List.drop_eq_nil_of_le (by omega)]
    rfl
  | n + 1, i, m, h, hm => by
    have ih1 := freeS_loop l b hl n (i + 1) (m + 1) (by omega) (by omega)
    have ih2 := freeS_loop l b hl n (i + 1) m (by omega) (by omega)
    have e1 : wrap64 ((i : Int) + 1) = ((i + 1 : Nat) : Int) := by simp only [maxLen] at hl; rw [IntWalk.wrap64_in _ (by omega)]; omega
    have e2 : wrap64 ((m : Int) + 1) = ((m + 1 : Nat) : Int) := by simp only [maxLen] at hl; rw [IntWalk.wrap64_in _ (by omega)]; omega
    rw [drop_pg (by omega : i < l.length), freeQ, spec_l2Clean.l0, if_pos (by omega), if_pos (by omega), e1, e2]
    by_cases hs : (rd_T71 l (i : Int)).f0 = 0
    rotate_left
    · rw [if_neg hs, if_neg hs, Nat.zero_add]
      exact ih2
    rw [if_pos hs, if_pos hs, show m + (1 + freeQ (l.drop (i + 1))) = m + 1 + freeQ (l.drop (i + 1)) by omega]
    exact ih1
theorem mostS_ok (b : S65) (hl : b.f0.length ≤ maxLen) : ∃ k, spec_l3Most.f k b.f0 b.f1 = some (mostQ 0 b.f0) := ⟨b.f0.length + 1, mostQ_loop b.f0 b.f1 hl b.f0.length 0 0 (by omega)⟩
theorem leastS_ok (b : S65) (hl : b.f0.length ≤ maxLen) : ∃ k, spec_l3Least.f k b.f0 b.f1 = some (leastQ 0 b.f0) := ⟨b.f0.length + 1, leastQ_loop b.f0 b.f1 hl b.f0.length 0 0 (by omega)⟩
theorem freeS_ok (b : S65) (hl : b.f0.length ≤ maxLen) : ∃ k, spec_l2Clean.f k b.f0 b.f1 = some ((freeQ b.f0 : Nat) : Int) := ⟨b.f0.length + 1, by
  have := freeS_loop b.f0 b.f1 hl b.f0.length 0 0 (by omega) (by omega)
  rw [List.drop_zero, Nat.zero_add] at this
  exact this⟩
def c11B (i k : Nat) (a b : S65) : Bool := decide (i ≠ k ∧ 0 < mostQ 0 a.f0 ∧ 0 < mostQ 0 b.f0 ∧ leastQ 0 a.f0 < mostQ 0 b.f0 ∧ leastQ 0 b.f0 < mostQ 0 a.f0)
def c13B (i k : Nat) (a b : S65) : Bool := decide (i ≠ k ∧ 0 < ((freeQ a.f0 : Nat) : Int) ∧ ((freeQ a.f0 : Nat) : Int) < 4 ∧ ((0 < ((freeQ b.f0 : Nat) : Int) ∧ ((freeQ b.f0 : Nat) : Int) < 4) ∨ (0 < mostQ 0 a.f0 ∧ mostQ 0 a.f0 < mostQ 0 b.f0)))
def pairB (l : List S65) (i k : Nat) : Bool := c11B i k (rd_T65 l (i : Int)) (rd_T65 l (k : Int)) || c13B i k (rd_T65 l (i : Int)) (rd_T65 l (k : Int))
def rowB (l : List S65) (i : Nat) : Nat → Bool
  | 0 => false
  | k + 1 => rowB l i k || pairB l i k
def allB (l : List S65) : Nat → Bool
  | 0 => false
  | i + 1 => allB l i || rowB l i 4
theorem rowB_of {l : List S65} {i k : Nat} (h : pairB l i k = true) : ∀ n, k < n → rowB l i n = true
  | 0, hn => by omega
  | n + 1, hn => by
    rw [rowB, Bool.or_eq_true]
    by_cases e : k = n
    · subst e; exact .inr h
    exact .inl (rowB_of h n (by omega))
theorem allB_of {l : List S65} {i : Nat} (h : rowB l i 4 = true) : ∀ n, i < n → allB l n = true
  | 0, hn => by omega
  | n + 1, hn => by
    rw [allB, Bool.or_eq_true]
    by_cases e : i = n
    · subst e; exact .inr h
    exact .inl (allB_of h n (by omega))
def specOrderB (l : List (S65)) : Bool := flashOkB l && !allB l 4
def spec_FindOrder.f (l0 : List (S65)) : Option (Bool) := some (specOrderB l0)
set_option maxRecDepth 100000 in
set_option maxHeartbeats 8000000 in
theorem spec_FindOrder.calls (A0 : Option Addr) (c0 : Nat) (l0 : List (S65)) (r : Bool) (w : World) (hr0 : Kd.C k65 w A0 l0.length l0) (hc0 : l0.length ≤ c0) (h : spec_FindOrder.f l0 = some r) :
    Calls Try.prog 80 #[.slice A0 l0.length c0] w fun e w' => e = .returned (.bool r) ∧ Below w.heap.size w w' := by
  obtain rfl := Option.some.inj h
  clear h
  refine (callsIn_wide (n := 3)).1 ?_
  have hok := callsIn_wide (n := 2).2 (spec_FlashOk.calls A0 c0 l0 _ w hr0 hc0 rfl)
  have hu := Try.underlying65
  unfold specOrderB
  cases hf : flashOkB l0 with
  | false =>
    rw [hf] at hok
    refine callsIn_of_wp Try.func80 rfl trivial ?_ rfl
    simp only [Try.ntmps80, List.size_toArray, List.length_cons, List.length_nil, Nat.reduceAdd, Nat.reduceSub, Array.replicate_succ, Array.replicate_zero, List.push_toArray, List.append_toArray, List.nil_append, List.cons_append]
    gi_wp2_with (first | (refine ⟨trivial, ?_⟩; gi_at_call 38; refine hok.mono ?_; rintro e w1 ⟨rfl, hb⟩))
    go_ret
    exact ⟨rfl, hb⟩
  | true =>
    rw [hf] at hok
    have hl := flash_fourS hf
    rw [Bool.true_and]
    obtain ⟨V, hV⟩ : ∃ V : Bool, (!allB l0 4) = V := ⟨_, rfl⟩
    rw [hV]
    have HV := Aside0.mk hV
    clear hV
    rw [hl] at hok ⊢
    refine callsIn_of_wp Try.func80 rfl trivial ?_ rfl
    simp only [Try.ntmps80, List.size_toArray, List.length_cons, List.length_nil, Nat.reduceAdd, Nat.reduceSub, Array.replicate_succ, Array.replicate_zero, List.push_toArray, List.append_toArray, List.nil_append, List.cons_append]
    gi_wp2_with (first | (refine ⟨trivial, ?_⟩; gi_at_call 38; refine hok.mono ?_; rintro e w1 ⟨rfl, hb⟩))
    clear hok
    gi_loopw [3] (fun v3 wr => ∃ i : Nat, v3 = .int .i64 (i : Int) ∧ i ≤ 4 ∧ Aside0 (allB l0 i = false) ∧ Aside0 (Below w.heap.size w wr)) (fun v3 _ => 4 - (intOf v3).toNat)
    case atStart => exact ⟨0, rfl, by omega, ⟨rfl⟩, ⟨hb⟩⟩
    case round =>
      clear hb
      obtain ⟨i, rfl, hi, hall, hB⟩ := hrel
      by_cases ci : i < 4
      rotate_left
      · obtain rfl : i = 4 := by omega
        gi_wp2
        go_ret
        exact ⟨by rw [← HV.out, hall.out]; rfl, hB.out⟩
      have cib : decide ((i : Int) < 4) = true := decide_eq_true (by omega)
      have p1 : 0 ≤ (i : Int) := by omega
      have q1 : (i : Int) < 4 := by omega
      gi_wp2
      gi_loopw [4] (fun v4 wr => ∃ k : Nat, v4 = .int .i64 (k : Int) ∧ k ≤ 4 ∧ Aside0 (rowB l0 i k = false) ∧ Aside0 (Below w.heap.size w wr)) (fun v4 _ => 4 - (intOf v4).toNat)
      case atStart => exact ⟨0, rfl, by omega, ⟨rfl⟩, hB⟩
      case round =>
        clear hB
        obtain ⟨k, rfl, hk, hrow, hB⟩ := hrel
        by_cases ck : k < 4
        rotate_left
        · obtain rfl : k = 4 := by omega
          have hA4 : Aside0 (allB l0 (i + 1) = false) := ⟨by rw [allB, hall.out, hrow.out]; rfl⟩
          gi_wp2
          exact ⟨⟨i + 1, by simp, by omega, hA4, hB⟩, by simp [intOf]; omega⟩
        have ckb : decide ((k : Int) < 4) = true := decide_eq_true (by omega)
        have p2 : 0 ≤ (k : Int) := by omega
        have q2 : (k : Int) < 4 := by omega
        obtain ⟨ad1, A1, c1, e1, hx1_0, hx1_1, hl1, hi1⟩ := at_T65 hr0 (i : Int) p1 (by omega)
        obtain ⟨ad2, A2, c2, e2, hx2_0, hx2_1, hl2, hi2⟩ := at_T65 hr0 (k : Int) p2 (by omega)
        cases e1
        cases e2
        replace hx1_0 := (hB.out.cell (World.block_lt_of_cell? w _ hx1_0)).trans hx1_0
        replace hx1_1 := (hB.out.cell (World.block_lt_of_cell? w _ hx1_1)).trans hx1_1
        replace hx2_0 := (hB.out.cell (World.block_lt_of_cell? w _ hx2_0)).trans hx2_0
        replace hx2_1 := (hB.out.cell (World.block_lt_of_cell? w _ hx2_1)).trans hx2_1
        simp only [Int.toNat_natCast] at hx1_0 hx1_1 hx2_0 hx2_1
        obtain ⟨k1, hk1⟩ := mostS_ok (rd_T65 l0 (i : Int)) (Kd.C_max hi1)
        obtain ⟨k2, hk2⟩ := mostS_ok (rd_T65 l0 (k : Int)) (Kd.C_max hi2)
        obtain ⟨k3, hk3⟩ := leastS_ok (rd_T65 l0 (i : Int)) (Kd.C_max hi1)
        obtain ⟨k4, hk4⟩ := leastS_ok (rd_T65 l0 (k : Int)) (Kd.C_max hi2)
        obtain ⟨k5, hk5⟩ := freeS_ok (rd_T65 l0 (i : Int)) (Kd.C_max hi1)
        obtain ⟨k6, hk6⟩ := freeS_ok (rd_T65 l0 (k : Int)) (Kd.C_max hi2)
        have hpb : pairB l0 i k = (c11B i k (rd_T65 l0 (i : Int)) (rd_T65 l0 (k : Int)) || c13B i k (rd_T65 l0 (i : Int)) (rd_T65 l0 (k : Int))) := rfl
        generalize (rd_T65 l0 (i : Int)) = bi at *
        generalize (rd_T65 l0 (k : Int)) = bk at *
        have hMa : Aside0 (OrdC w 93 #[.slice A1 bi.f0.length c1, .int .i64 bi.f1] (mostQ 0 bi.f0)) := ⟨fun W hb => spec_l3Most.calls k1 A1 c1 bi.f0 bi.f1 _ W (Kd.C_below hi1 hb) hl1 hk1⟩
        have hMb : Aside0 (OrdC w 93 #[.slice A2 bk.f0.length c2, .int .i64 bk.f1] (mostQ 0 bk.f0)) := ⟨fun W hb => spec_l3Most.calls k2 A2 c2 bk.f0 bk.f1 _ W (Kd.C_below hi2 hb) hl2 hk2⟩
        have hLa : Aside0 (OrdC w 94 #[.slice A1 bi.f0.length c1, .int .i64 bi.f1] (leastQ 0 bi.f0)) := ⟨fun W hb => spec_l3Least.calls k3 A1 c1 bi.f0 bi.f1 _ W (Kd.C_below hi1 hb) hl1 hk3⟩
        have hLb : Aside0 (OrdC w 94 #[.slice A2 bk.f0.length c2, .int .i64 bk.f1] (leastQ 0 bk.f0)) := ⟨fun W hb => spec_l3Least.calls k4 A2 c2 bk.f0 bk.f1 _ W (Kd.C_below hi2 hb) hl2 hk4⟩
        have hFa : Aside0 (OrdC w 71 #[.slice A1 bi.f0.length c1, .int .i64 bi.f1] ((freeQ bi.f0 : Nat) : Int)) := ⟨fun W hb => spec_l2Clean.calls k5 A1 c1 bi.f0 bi.f1 _ W (Kd.C_below hi1 hb) hl1 hk5⟩
        have hFb : Aside0 (OrdC w 71 #[.slice A2 bk.f0.length c2, .int .i64 bk.f1] ((freeQ bk.f0 : Nat) : Int)) := ⟨fun W hb => spec_l2Clean.calls k6 A2 c2 bk.f0 bk.f1 _ W (Kd.C_below hi2 hb) hl2 hk6⟩
        have hS : Aside0 (OrdS w wr.heap.size (wr.heap.size + 1) #[.slice A1 bi.f0.length c1, .int .i64 bi.f1] #[.slice A2 bk.f0.length c2, .int .i64 bk.f1] ((wr.alloc (.cells #[.slice A1 bi.f0.length c1, .int .i64 bi.f1] 65)).alloc (.cells #[.slice A2 bk.f0.length c2, .int .i64 bk.f1] 65))) := ⟨blk_alloc (blk_new wr _) _, by have := blk_new (wr.alloc (.cells #[.slice A1 bi.f0.length c1, .int .i64 bi.f1] 65)) (.cells #[.slice A2 bk.f0.length c2, .int .i64 bk.f1] 65); rw [World.size_alloc] at this; exact this, below_alloc (below_alloc hB.out _) _⟩
        have hy2_0 := ((below_alloc (Below.refl _ wr) (.cells #[.slice A1 bi.f0.length c1, .int .i64 bi.f1] 65)).cell (World.block_lt_of_cell? wr _ hx2_0)).trans hx2_0
        have hy2_1 := ((below_alloc (Below.refl _ wr) (.cells #[.slice A1 bi.f0.length c1, .int .i64 bi.f1] 65)).cell (World.block_lt_of_cell? wr _ hx2_1)).trans hx2_1
        clear hx2_0 hx2_1
        clear hk1 hk2 hk3 hk4 hk5 hk6 hi1 hi2
        have hpb := Aside0.mk hpb
        cases h11 : c11B i k bi bk with
        | true =>
          have hx : V = false := by rw [← HV.out, allB_of (rowB_of (by rw [hpb.out, h11]; rfl) 4 ck) 4 ci]; rfl
          have HX := Aside0.mk hx
          have H11 := Aside0.mk h11
          clear hx h11
          gi_wp2
          refine wpIn_wide.2 ?_
          refine spec_FindOrder_r11 w _ i k _ _ _ _ _ _ _ _ _ _ _ _ _ _ true H11.out hS.out hMa.out hMb.out hLa.out hLb.out _ ?_ ?_
          · intro c_ a_ b_ w_ hd_ h_
            cases a_
            cases b_
            cases hd_
            exact h_
          intro x30 x31 x32 x33 x34 x35 x36 x37 x38 x39 x40 x41 x42 x43 x44 x45 x46 x47 x48 x49 x50 x51 x52 x53 x54 x55 w5 hS5
          gi_wp2
          go_ret
          exact ⟨by rw [HX.out]; rfl, hS5.2.2⟩
        | false =>
          have H11 := Aside0.mk h11
          cases h13 : c13B i k bi bk with
          | true =>
            have hx : V = false := by rw [← HV.out, allB_of (rowB_of (by rw [hpb.out, h11, h13]; rfl) 4 ck) 4 ci]; rfl
            have HX := Aside0.mk hx
            have H13 := Aside0.mk h13
            clear hx h11 h13
            gi_wp2
            refine wpIn_wide.2 ?_
            refine spec_FindOrder_r11 w _ i k _ _ _ _ _ _ _ _ _ _ _ _ _ _ false H11.out hS.out hMa.out hMb.out hLa.out hLb.out _ ?_ ?_
            · intro c_ a_ b_ w_ hd_ h_
              cases a_
              cases b_
              cases hd_
              exact h_
            intro x30 x31 x32 x33 x34 x35 x36 x37 x38 x39 x40 x41 x42 x43 x44 x45 x46 x47 x48 x49 x50 x51 x52 x53 x54 x55 w5 hS5
            gi_wp2
            refine wpIn_wide.2 ?_
            refine spec_FindOrder_r13 w _ i k _ _ _ _ _ _ _ _ _ _ _ _ _ _ true H13.out hS5 hMa.out hMb.out hFa.out hFb.out _ ?_ ?_
            · intro c_ a_ b_ w_ hd_ h_
              cases a_
              cases b_
              cases hd_
              exact h_
            intro x57 x58 x59 x60 x61 x62 x63 x64 x65 x66 x67 x68 x69 x70 x71 x72 x73 x74 x75 x76 x77 x78 x79 x80 x81 x82 x83 x84 x85 x86 x87 x88 x89 x90 w6 hS6
            gi_wp2
            go_ret
            exact ⟨by rw [HX.out]; rfl, hS6.2.2⟩
          | false =>
            have H13 := Aside0.mk h13
            have hr2 : Aside0 (rowB l0 i (k + 1) = false) := ⟨by rw [rowB, hrow.out, hpb.out, h11, h13]; rfl⟩
            clear h11 h13
            gi_wp2
            refine wpIn_wide.2 ?_
            refine spec_FindOrder_r11 w _ i k _ _ _ _ _ _ _ _ _ _ _ _ _ _ false H11.out hS.out hMa.out hMb.out hLa.out hLb.out _ ?_ ?_
            · intro c_ a_ b_ w_ hd_ h_
              cases a_
              cases b_
              cases hd_
              exact h_
            intro x30 x31 x32 x33 x34 x35 x36 x37 x38 x39 x40 x41 x42 x43 x44 x45 x46 x47 x48 x49 x50 x51 x52 x53 x54 x55 w5 hS5
            gi_wp2
            refine wpIn_wide.2 ?_
            refine spec_FindOrder_r13 w _ i k _ _ _ _ _ _ _ _ _ _ _ _ _ _ false H13.out hS5 hMa.out hMb.out hFa.out hFb.out _ ?_ ?_
            · intro c_ a_ b_ w_ hd_ h_
              cases a_
              cases b_
              cases hd_
              exact h_
            intro x57 x58 x59 x60 x61 x62 x63 x64 x65 x66 x67 x68 x69 x70 x71 x72 x73 x74 x75 x76 x77 x78 x79 x80 x81 x82 x83 x84 x85 x86 x87 x88 x89 x90 w6 hS6
            gi_wp2
            exact ⟨⟨k + 1, by simp, by omega, hr2, ⟨hS6.2.2⟩⟩, by simp [intOf]; omega⟩

end Go.Proofs.Ytoedphbikgoapaa.Rb
