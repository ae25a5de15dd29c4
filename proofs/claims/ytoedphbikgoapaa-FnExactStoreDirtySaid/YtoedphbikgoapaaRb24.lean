-- printed by wip/pp/pp.py
import Derived.Test.YtoedphbikgoapaaRb0
import Derived.Test.YtoedphbikgoapaaRb2
import Derived.Test.YtoedphbikgoapaaRb14
import Derived.Test.YtoedphbikgoapaaRb21
import Derived.Test.YtoedphbikgoapaaRb23
import Derived.Test.YtoedphbikgoapaaWMap
import Derived.Maps.OwnOps
import Derived.Maps.Own
import Derived.Maps.OwnIn
import Derived.WalkArith
namespace Go.Proofs.Ytoedphbikgoapaa.Rb
open Go.RowKit Go.Proofs.YtoedphbikgoapaaW.PrintWords Go.Proofs.YtoedphbikgoapaaW.PrintLast Go.Proofs.YtoedphbikgoapaaW.PrintMore
attribute [local go_sem] max2_int min2_int max_two min_two max_three min_three max_four min_four   -- for this text's walks alone
set_option linter.unusedVariables false
set_option linter.unusedSimpArgs false

-- ALONE
-- IMPORT Derived.Test.YtoedphbikgoapaaWMap
-- IMPORT Derived.Maps.OwnOps
-- IMPORT Derived.Maps.Own
-- IMPORT Derived.Maps.OwnIn
-- IMPORT Derived.WalkArith
open Go.Proofs.YtoedphbikgoapaaW
attribute [local go_sem] Oper.semAt_some
theorem isDirty_any (a b c d : Int) (w : World) : CallsIn Fence.wide 2 Try.prog 59 #[.agg #[.int .i64 a, .int .i64 b, .int .i64 c, .int .i64 d]] w fun e w' => e = .returned (.bool (a == 1)) ∧ w' = w.alloc (.cells #[.int .i64 a, .int .i64 b, .int .i64 c, .int .i64 d] 30) := by
  have hu := Try.underlying30
  refine callsIn_of_wp Try.func59 rfl trivial ?_ rfl
  simp only [Try.ntmps59, List.size_toArray, List.length_cons, List.length_nil, Nat.reduceAdd, Nat.reduceSub, Array.replicate_succ, Array.replicate_zero, List.push_toArray, List.append_toArray, List.nil_append, List.cons_append]
  gi_wp2
  go_ret
  exact ⟨rfl, rfl⟩
def okAt (M : RecMap) (d : Int) (i : Nat) : Bool := valB d && (match M ((i : Int) + 1) with
  | none => true
  | some r => decide (r.1 = 1 ∨ r.2.2.2 = d))
def diskN (M : RecMap) (l1 : List Int) : Nat → Bool
  | 0 => true
  | i + 1 => diskN M l1 i && okAt M (rd l1 (i : Int)) i
theorem diskN_no {M : RecMap} {l1 : List Int} {i : Nat} (h : okAt M (rd l1 (i : Int)) i = false) : ∀ n, i < n → diskN M l1 n = false
  | 0, hn => by omega
  | n + 1, hn => by
    rw [diskN]
    by_cases e : i = n
    · subst e; rw [h, Bool.and_false]
    rw [diskN_no h n (by omega), Bool.false_and]
def storeOkB (l0 : List S65) (l1 : List Int) : Bool := decide ((l1.length : Int) = 6) && (orderI l0 && diskN (lastMap l0) l1 6)
def impl_StoreOk.f (l0_0 : List (S65)) (l0_1 : List Int) : Option (Bool) := some (storeOkB l0_0 l0_1)
theorem order_flash {l : List S65} (h : orderI l = true) : flashOkB l = true := by
  unfold orderI at h
  rw [Bool.and_eq_true] at h
  exact h.1
set_option maxRecDepth 100000 in
set_option maxHeartbeats 8000000 in
theorem impl_StoreOk.calls (A0_0 : Option Addr) (c0_0 : Nat) (l0_0 : List (S65)) (A0_1 : Option Addr) (c0_1 : Nat) (l0_1 : List Int) (r : Bool) (w : World) (hr0_0 : Kd.C k65 w A0_0 l0_0.length l0_0) (hc0_0 : l0_0.length ≤ c0_0) (hr0_1 : Kd.C (Kd.int .i64) w A0_1 l0_1.length l0_1) (hc0_1 : l0_1.length ≤ c0_1) (h : impl_StoreOk.f l0_0 l0_1 = some r) :
    Calls Try.prog 57 #[.agg #[.slice A0_0 l0_0.length c0_0, .slice A0_1 l0_1.length c0_1]] w fun e w' => e = .returned (.bool r) ∧ Below w.heap.size w w' := by
  obtain rfl := Option.some.inj h
  clear h
  refine (callsIn_wide (n := 3)).1 ?_
  have hu := Try.underlying41
  have hu2 := Try.underlying30
  have hor : ∀ W, Below w.heap.size w W → CallsIn Fence.wide 2 Try.prog 82 #[.slice A0_0 l0_0.length c0_0] W fun e w' => e = .returned (.bool (orderI l0_0)) ∧ Below W.heap.size W w' := fun W hb => callsIn_wide.2 (impl_FindOrder.calls A0_0 c0_0 l0_0 _ W (Kd.C_below hr0_0 hb) hc0_0 rfl)
  have hbox := blk_new w (.cells #[.slice A0_0 l0_0.length c0_0, .slice A0_1 l0_1.length c0_1] 41)
  have hB1 := below_alloc (Below.refl _ w) (.cells #[.slice A0_0 l0_0.length c0_0, .slice A0_1 l0_1.length c0_1] 41)
  unfold storeOkB
  by_cases c6 : (l0_1.length : Int) = 6
  rotate_left
  · have c6b : ((l0_1.length : Int) != 6) = true := by simp [c6]
    rw [decide_eq_false c6, Bool.false_and]
    refine callsIn_of_wp Try.func57 rfl trivial ?_ rfl
    simp only [Try.ntmps57, List.size_toArray, List.length_cons, List.length_nil, Nat.reduceAdd, Nat.reduceSub, Array.replicate_succ, Array.replicate_zero, List.push_toArray, List.append_toArray, List.nil_append, List.cons_append]
    gi_wp2_with (first | (refine And.intro (show Fence.wide.fn 82 from trivial) ?_))
    go_ret
    exact ⟨rfl, hB1⟩
  have c6b : ((l0_1.length : Int) != 6) = false := by simp [c6]
  rw [decide_eq_true c6, Bool.true_and]
  cases ho : orderI l0_0 with
  | false =>
    rw [ho] at hor
    refine callsIn_of_wp Try.func57 rfl trivial ?_ rfl
    simp only [Try.ntmps57, List.size_toArray, List.length_cons, List.length_nil, Nat.reduceAdd, Nat.reduceSub, Array.replicate_succ, Array.replicate_zero, List.push_toArray, List.append_toArray, List.nil_append, List.cons_append]
    gi_wp2_with (first | (refine ⟨trivial, ?_⟩; gi_at_call 82; refine (hor _ hB1).mono ?_; rintro e w1 ⟨rfl, hb⟩))
    go_ret
    exact ⟨rfl, below_then hB1 hB1.size hb⟩
  | true =>
    rw [ho] at hor
    have hf := order_flash ho
    have hl : l0_1.length = 6 := by omega
    have hlr : ∀ W, Below w.heap.size w W → CallsIn Fence.wide 2 Try.prog 58 #[.slice A0_0 l0_0.length c0_0] W fun e w' => ∃ B n, e = .returned (.map (some B)) ∧ RecsIs Try.prog 3 w' B n (lastMap l0_0) ∧ W.heap.size ≤ B ∧ Below W.heap.size W w' := fun W hb => callsIn_wide.2 (lastRecords_any A0_0 c0_0 l0_0 W (Kd.C_below hr0_0 hb) hf)
    generalize lastMap l0_0 = M at hlr ⊢
    rw [Bool.true_and]
    obtain ⟨V, hV⟩ : ∃ V : Bool, diskN M l0_1 6 = V := ⟨_, rfl⟩
    rw [hV]
    have HV := Aside0.mk hV
    clear hV
    rw [hl] at hbox hB1 ⊢
    refine callsIn_of_wp Try.func57 rfl trivial ?_ rfl
    simp only [Try.ntmps57, List.size_toArray, List.length_cons, List.length_nil, Nat.reduceAdd, Nat.reduceSub, Array.replicate_succ, Array.replicate_zero, List.push_toArray, List.append_toArray, List.nil_append, List.cons_append]
    gi_wp2_with (first | (refine ⟨trivial, ?_⟩; gi_at_call 82; refine (hor _ hB1).mono ?_; rintro e w1 ⟨rfl, hb⟩; have hbox1 := blk_below hbox hb; have hB2 := below_then hB1 hB1.size hb; have hq0 : w1.cell? ⟨w.heap.size, 0, none⟩ = some (.slice A0_0 l0_0.length c0_0) := (blk_cell hbox1 0).trans rfl) | (refine ⟨trivial, ?_⟩; gi_at_call 58; refine (hlr _ hB2).mono ?_; rintro e w2 ⟨B, n, rfl, hm, hBq, hb2⟩; have hB3 := below_then hB2 hB2.size hb2; have hbox2 := blk_below hbox1 hb2; have hq1 : w2.cell? ⟨w.heap.size, 1, none⟩ = some (.slice A0_1 6 c0_1) := (blk_cell hbox2 1).trans rfl))
    clear hor hlr
    gi_loopw [25] (fun v25 wr => ∃ i : Nat, v25 = .int .i64 (i : Int) ∧ i ≤ 6 ∧ Aside0 (diskN M l0_1 i = true) ∧ Aside0 (RecsIs Try.prog 3 wr B n M) ∧ Aside0 (Below w.heap.size w wr)) (fun v25 _ => 6 - (intOf v25).toNat)
    case atStart => exact ⟨0, rfl, by omega, ⟨rfl⟩, ⟨hm⟩, ⟨hB3⟩⟩
    case round =>
      clear hm hB3 hB2 hB1 hbox hbox1 hbox2 hq0 hq1
      obtain ⟨i, rfl, hi, hd, hm, hB⟩ := hrel
      by_cases ci : i < 6
      rotate_left
      · obtain rfl : i = 6 := by omega
        gi_wp2
        go_ret
        exact ⟨by rw [← HV.out, hd.out]; rfl, hB.out⟩
      have cib : decide ((i : Int) < 6) = true := decide_eq_true (by omega)
      have p1 : 0 ≤ (i : Int) := by omega
      have q1 : (i : Int) < 6 := by omega
      obtain ⟨ad1, e1, hx1⟩ := Kd.at_int hr0_1 (i : Int) p1 (by omega)
      cases e1
      replace hx1 := (hB.out.cell (World.block_lt_of_cell? w _ hx1)).trans hx1
      simp only [Int.toNat_natCast] at hx1
      have hno := fun h => diskN_no (M := M) (l1 := l0_1) (i := i) h 6 ci
      have hst : diskN M l0_1 (i + 1) = (diskN M l0_1 i && okAt M (rd l0_1 (i : Int)) i) := rfl
      rw [hd.out, Bool.true_and] at hst
      have hva : ∀ W, CallsIn Fence.wide 2 Try.prog 77 #[.int .i64 (rd l0_1 (i : Int))] W fun e w' => e = .returned (.bool (valB (rd l0_1 (i : Int)))) ∧ W = w' := fun W => callsIn_wide.2 (valOk_any _ W)
      generalize rd l0_1 (i : Int) = d at hx1 hno hst hva
      have hwf : (Lit.int .i64 ((i : Int) + 1)).wf = true := WalkArith.wf_i64 ⟨by omega, by omega⟩
      have hlk := hm.out.look_ok (T := 77) (E := 30) Try.underlying3 Try.underlying77 (by go_simp; rfl) hwf
      unfold okAt at hno hst
      cases hv : valB d with
      | false =>
        rw [hv] at hva hno
        have hx : V = false := by rw [← HV.out, hno (by rw [Bool.false_and])]
        have HX := Aside0.mk hx
        clear hx hlk hno hst hwf
        gi_wp2_with (first | (refine ⟨trivial, ?_⟩; gi_at_call 77; refine (hva _).mono ?_; rintro e w3 ⟨rfl, rfl⟩))
        go_ret
        exact ⟨by rw [HX.out]; rfl, hB.out⟩
      | true =>
        rw [hv, Bool.true_and] at hno hst
        rw [hv] at hva
        cases hM : M ((i : Int) + 1) with
        | none =>
          rw [hM] at hlk hst
          have HST := Aside0.mk hst
          simp only [Option.getD_none, Option.isSome_none, recVal] at hlk
          clear hst hno hwf
          gi_wp2_with (first | (refine ⟨trivial, ?_⟩; gi_at_call 77; refine (hva _).mono ?_; rintro e w3 ⟨rfl, rfl⟩))
          refine ⟨fun _ h => (by cases h), ?_⟩
          gi_wp2
          exact ⟨⟨i + 1, by simp, by omega, HST, ⟨hm.out.alloc _⟩, ⟨below_alloc hB.out _⟩⟩, by simp [intOf]; omega⟩
        | some q =>
          obtain ⟨qa, qb, qc, qd⟩ := q
          rw [hM] at hlk hst hno
          simp only [Option.getD_some, Option.isSome_some, recVal] at hlk
          dsimp only at hst hno
          have hdi := isDirty_any qa qb qc qd
          by_cases k1 : qa = 1
          · have k1b : (qa == 1) = true := by simp [k1]
            have HST : Aside0 (diskN M l0_1 (i + 1) = true) := ⟨by rw [hst, decide_eq_true (Or.inl k1)]⟩
            rw [k1b] at hdi
            subst k1
            clear hst hno hwf
            gi_wp2_with (first | (refine ⟨trivial, ?_⟩; gi_at_call 77; refine (hva _).mono ?_; rintro e w3 ⟨rfl, rfl⟩) | (refine ⟨trivial, ?_⟩; gi_at_call 59; refine (hdi _).mono ?_; rintro e w3 ⟨rfl, rfl⟩))
            exact ⟨⟨i + 1, by simp, by omega, HST, ⟨(hm.out.alloc _).alloc _⟩, ⟨below_alloc (below_alloc hB.out _) _⟩⟩, by simp [intOf]; omega⟩
          have k1b : (qa == 1) = false := by simp [k1]
          rw [k1b] at hdi
          by_cases k2 : qd = d
          rotate_left
          · have k2b : (qd != d) = true := by simp [k2]
            have hx : V = false := by rw [← HV.out, hno (decide_eq_false (fun h => h.elim k1 k2))]
            have HX := Aside0.mk hx
            clear hx hst hno hwf
            gi_wp2_with (first | (refine ⟨trivial, ?_⟩; gi_at_call 77; refine (hva _).mono ?_; rintro e w3 ⟨rfl, rfl⟩) | (refine ⟨trivial, ?_⟩; gi_at_call 59; refine (hdi _).mono ?_; rintro e w3 ⟨rfl, rfl⟩))
            go_ret
            exact ⟨by rw [HX.out]; rfl, below_alloc (below_alloc hB.out _) _⟩
          have k2b : (qd != d) = false := by simp [k2]
          have HST : Aside0 (diskN M l0_1 (i + 1) = true) := ⟨by rw [hst, decide_eq_true (Or.inr k2)]⟩
          subst k2
          clear hst hno hwf
          gi_wp2_with (first | (refine ⟨trivial, ?_⟩; gi_at_call 77; refine (hva _).mono ?_; rintro e w3 ⟨rfl, rfl⟩) | (refine ⟨trivial, ?_⟩; gi_at_call 59; refine (hdi _).mono ?_; rintro e w3 ⟨rfl, rfl⟩))
          exact ⟨⟨i + 1, by simp, by omega, HST, ⟨(hm.out.alloc _).alloc _⟩, ⟨below_alloc (below_alloc hB.out _) _⟩⟩, by simp [intOf]; omega⟩

end Go.Proofs.Ytoedphbikgoapaa.Rb
