-- printed by wip/pp/pp.py
import Derived.Test.YtoedphbikgoapaaRd0
import Derived.Test.YtoedphbikgoapaaRd5
import Derived.Test.YtoedphbikgoapaaRd7
namespace Go.Proofs.Ytoedphbikgoapaa.Rd
open Go.RowKit Go.Proofs.YtoedphbikgoapaaW.PrintWords Go.Proofs.YtoedphbikgoapaaW.PrintLast Go.Proofs.YtoedphbikgoapaaW.PrintMore
attribute [local go_sem] max2_int min2_int max_two min_two max_three min_three max_four min_four
set_option linter.unusedVariables false
set_option linter.unusedSimpArgs false
attribute [local go_sem high] eqA30
def spec_l3Old.l0 : Nat → List (S65) → Int → Int → Option (Int)
 | 0, _, _, _ => none
 | k + 1, x0, x3, x4 => if x4 < (x0.length : Int) then (if 0 ≤ x4 then ((spec_l3Most.f k ((rd_T65 x0 x4).f0) ((rd_T65 x0 x4).f1)).bind fun t236 => (if 0 ≤ x3 then (if x3 < (x0.length : Int) then ((spec_l3Most.f k ((rd_T65 x0 x3).f0) ((rd_T65 x0 x3).f1)).bind fun t238 => (if t236 < t238 then (spec_l3Old.l0 k x0 x4 (wrap64 (x4 + 1))) else (spec_l3Old.l0 k x0 x3 (wrap64 (x4 + 1))))) else (none)) else (none))) else (none)) else (some x3)
def spec_l3Old.f (k : Nat) (l0 : List (S65)) : Option (Int) := spec_l3Old.l0 k l0 0 1
theorem spec_l3Old.mono_l : ∀ k, (∀ y0 y1 y2, LeO (spec_l3Old.l0 k y0 y1 y2) (spec_l3Old.l0 (k + 1) y0 y1 y2))
 | 0 => fun _ _ _ r h => by simp [spec_l3Old.l0] at h
 | k + 1 => by
  have ih0 := spec_l3Old.mono_l k
  · intro y0 y1 y2
    unfold spec_l3Old.l0
    repeat' first
    | (with_reducible exact ih0 _ _ _)
    | (with_reducible exact spec_l3Most.mono _ _ _)
    | (with_reducible exact LeO.refl _)
    | (with_reducible exact LeO.none _)
    | (with_reducible refine LeO.ite ?_ ?_)
    | (with_reducible refine LeO.bind ?_ (fun _ => ?_))
    | exact ih0 _ _ _
    | exact spec_l3Most.mono _ _ _
    | exact LeO.none _
    | refine LeO.ite ?_ ?_
    | refine LeO.bind ?_ (fun _ => ?_)
theorem spec_l3Old.mono : ∀ a0 k, LeO (spec_l3Old.f k a0) (spec_l3Old.f (k + 1) a0) := by
 intro a0 k
 have ih0 := spec_l3Old.mono_l k
 unfold spec_l3Old.f
 repeat' first
  | (with_reducible exact ih0 _ _ _)
  | (with_reducible exact spec_l3Most.mono _ _ _)
  | (with_reducible exact LeO.refl _)
  | (with_reducible exact LeO.none _)
  | (with_reducible refine LeO.ite ?_ ?_)
  | (with_reducible refine LeO.bind ?_ (fun _ => ?_))
  | exact ih0 _ _ _
  | exact spec_l3Most.mono _ _ _
  | exact LeO.none _
  | refine LeO.ite ?_ ?_
  | refine LeO.bind ?_ (fun _ => ?_)
def spec_l3Old.T5 : Bool × List (List Nat × List Nat) := (true, [([], []), ([], []), ([0, 1], [0, 1]), ([2], [2]), ([3], [3]), ([], []), ([], []), ([5, 6], [5, 6]), ([7], [7]), ([8, 4], [8]), ([4, 9], [4, 9])])
def spec_l3Old.B5 : List Nat := [0, 0, 3, 7, 15, 0, 0, 96, 224, 511, 1023]
theorem spec_l3Old.tab5 : rtab .any (opsOf Try.f99 5) = spec_l3Old.T5 := by kernel_rfl
theorem spec_l3Old.bits5 : waitsOk spec_l3Old.T5.2 spec_l3Old.B5 = true := by kernel_rfl
set_option maxHeartbeats 8000000 in
set_option maxRecDepth 100000 in
theorem spec_l3Old.calls (k : Nat) (A0 : Option Addr) (c0 : Nat) (l0 : List (S65)) (r : Int) (w : World) (hr0 : Kd.C k65 w A0 l0.length l0) (hc0 : l0.length ≤ c0) (h : spec_l3Old.f k l0 = some r) :
 Calls Try.prog 99 #[.slice A0 l0.length c0] w fun e w' => e = .returned (.int .i64 r) ∧ Below w.heap.size w w' := by
 have hu65 := Try.underlying65
 have HR0 := am hr0
 have HC0 := am hc0
 clear hr0 hc0
 have HB := am (Below.refl w.heap.size w)
 have H : (spec_l3Old.l0 k l0 0 1) = some r := h
 clear h
 have H' := am H
 clear H
 go_enter Try.func99, Try.ntmps99
 go_wp2
 go_loopg [3, 4] k (fun kq v3 v4 w' => ∃ (x3_1 : Int) (x4_1 : Int), v3 = .int .i64 x3_1 ∧ v4 = .int .i64 x4_1 ∧ Aside0 (spec_l3Old.l0 kq l0 x3_1 x4_1 = some r) ∧ Aside0 (kq ≤ k) ∧ Aside0 (Below w.heap.size w w'))
 case atStart => exact ⟨(0), (1), rf, rf, H', ⟨Nat.le_refl _⟩, ⟨ph HB.out⟩⟩
 case round =>
  clear H'
  obtain ⟨x3_1, x4_1, rfl, rfl, HA, HK1, HB⟩ := hrel
  cases gk with
  | zero => exact absurd HA.out (by simp [spec_l3Old.l0])
  | succ k1 =>
   have H := HA.out
   clear HA
   simp only [spec_l3Old.l0] at H
   by_cases c2 : x4_1 < (l0.length : Int)
   rotate_left
   · rw [if_neg c2] at H
     have c2b0 := decide_eq_false c2
     clear c2
     obtain rfl := Option.some.inj H
     go_wp2
     go_ret
     exact (rq (ph HB.out))
   rw [if_pos c2] at H
   have c2b0 := decide_eq_true c2
   clear c2
   by_cases c3 : 0 ≤ x4_1
   rotate_left
   · rw [if_neg c3] at H
     exact absurd H (by simp)
   rw [if_pos c3] at H
   have c3b0 := decide_eq_true c3
   clear c3
   replace H := Option.bind_eq_some_iff.mp H
   obtain ⟨t236, A40, H⟩ := H
   replace H : (if 0 ≤ x3_1 then (if x3_1 < (l0.length : Int) then ((spec_l3Most.f k1 ((rd_T65 l0 x3_1).f0) ((rd_T65 l0 x3_1).f1)).bind fun t238 => (if t236 < t238 then (spec_l3Old.l0 k1 l0 x4_1 (wrap64 (x4_1 + 1))) else (spec_l3Old.l0 k1 l0 x3_1 (wrap64 (x4_1 + 1))))) else (none)) else (none)) = some r := H
   have A4 := am A40
   clear A40
   by_cases c5 : 0 ≤ x3_1
   rotate_left
   · rw [if_neg c5] at H
     exact absurd H (by simp)
   rw [if_pos c5] at H
   have c5b0 := decide_eq_true c5
   clear c5
   by_cases c6 : x3_1 < (l0.length : Int)
   rotate_left
   · rw [if_neg c6] at H
     exact absurd H (by simp)
   rw [if_pos c6] at H
   have c6b0 := decide_eq_true c6
   clear c6
   replace H := Option.bind_eq_some_iff.mp H
   obtain ⟨t238, A70, H⟩ := H
   replace H : (if t236 < t238 then (spec_l3Old.l0 k1 l0 x4_1 (wrap64 (x4_1 + 1))) else (spec_l3Old.l0 k1 l0 x3_1 (wrap64 (x4_1 + 1)))) = some r := H
   have A7 := am A70
   clear A70
   by_cases c8 : t236 < t238
   · rw [if_pos c8] at H
     have c8b0 := decide_eq_true c8
     clear c8
     have H' := am H
     clear H
     try go_wp2
     replace HB := am (below_drew1 HB.out)
     have p235 : 0 ≤ (x4_1 : Int) := ofb
     have q235 : x4_1 < (l0.length : Int) := ofb
     obtain ⟨ad235, A235_0, c235_0, e235, hx235_0, hx235_1, hl235_0, hi235_0⟩ := at_T65 HR0.out x4_1 p235 q235
     have hw235_1 := hx235_1
     have hw235_0 := hx235_0
     cases e235
     replace hx235_0 := up HB.out hx235_0
     replace hx235_1 := up HB.out hx235_1
     have HR235_0 := am hi235_0
     have HC235_0 := am hl235_0
     clear hi235_0 hl235_0
     replace p235 := eq_true p235
     replace q235 := eq_true q235
     have p237 : 0 ≤ (x3_1 : Int) := ofb
     have q237 : x3_1 < (l0.length : Int) := ofb
     obtain ⟨ad237, A237_0, c237_0, e237, hx237_0, hx237_1, hl237_0, hi237_0⟩ := at_T65 HR0.out x3_1 p237 q237
     have hw237_1 := hx237_1
     have hw237_0 := hx237_0
     obtain rfl : ad235 = ad237 := (by injection e237)
     replace hx237_0 := up HB.out hx237_0
     replace hx237_1 := up HB.out hx237_1
     have HR237_0 := am hi237_0
     have HC237_0 := am hl237_0
     clear hi237_0 hl237_0
     replace p237 := eq_true p237
     replace q237 := eq_true q237
     refine start_ (n := 11) (S := fun w' => w'.cell? (ad235.add ((x4_1).toNat * 2)) = some (.slice A235_0 ((rd_T65 l0 x4_1).f0).length c235_0) ∧ w'.cell? ⟨(ad235.add ((x4_1).toNat * 2)).block, (ad235.add ((x4_1).toNat * 2)).off + 1, none⟩ = some (.int .i64 ((rd_T65 l0 x4_1).f1)) ∧ w'.cell? (ad235.add ((x3_1).toNat * 2)) = some (.slice A237_0 ((rd_T65 l0 x3_1).f0).length c237_0) ∧ w'.cell? ⟨(ad235.add ((x3_1).toNat * 2)).block, (ad235.add ((x3_1).toNat * 2)).off + 1, none⟩ = some (.int .i64 ((rd_T65 l0 x3_1).f1))) (ds := []) #[false, false, false, false, false, false, false, false, false, false, false] (by kernel_rfl) rfl rfl ⟨((HB.out.cell (World.block_lt_of_cell? w _ hw235_0)).trans hw235_0), ((HB.out.cell (World.block_lt_of_cell? w _ hw235_1)).trans hw235_1), ((HB.out.cell (World.block_lt_of_cell? w _ hw237_0)).trans hw237_0), ((HB.out.cell (World.block_lt_of_cell? w _ hw237_1)).trans hw237_1)⟩ (fun hHeld => ?_); refine with_tabW spec_l3Old.tab5 spec_l3Old.bits5 (fun HT_ HW_ => ?_)
     generalize wr.drew = w9 at HB HR235_0 HR237_0 hx235_0 hx235_1 hx237_0 hx237_1 hHeld ⊢
     refine pj_ 0 11 #[true, false, false, false, false, false, false, false, false, false, false] rfl rfl (any_of HT_.out (by kernel_rfl)) (fun _ _ _ h => h) ?_
     refine pj_ 1 12 #[true, true, false, false, false, false, false, false, false, false, false] rfl rfl (any_of HT_.out (by kernel_rfl)) (fun _ _ _ h => h) ?_
     refine pj_ 2 13 #[true, true, true, false, false, false, false, false, false, false, false] rfl rfl (any_of HT_.out (by kernel_rfl)) (fun _ _ _ h => h) ?_
     refine pj_ 5 16 #[true, true, true, false, false, true, false, false, false, false, false] rfl rfl (any_of HT_.out (by kernel_rfl)) (fun _ _ _ h => h) ?_
     refine pj_ 6 17 #[true, true, true, false, false, true, true, false, false, false, false] rfl rfl (any_of HT_.out (by kernel_rfl)) (fun _ _ _ h => h) ?_
     refine pj_ 7 18 #[true, true, true, false, false, true, true, true, false, false, false] rfl rfl (any_of HT_.out (by kernel_rfl)) (fun _ _ _ h => h) ?_
     refine pm_ 3 14 #[true, true, true, true, false, true, true, true, false, false, false] rfl rfl (take_ofW HT_.out HW_.out (by kernel_rfl)) (fun _ _ _ h => h) hHeld ?_
     refine pm_ 8 19 #[true, true, true, true, false, true, true, true, true, false, false] rfl rfl (take_ofW HT_.out HW_.out (by kernel_rfl)) (fun _ _ _ h => h) hHeld ?_
     refine one_ (i := 4) (N := some 15) #[true, true, true, true, true, true, true, true, true, false, false] rfl rfl (one_of HT_.out (by kernel_rfl)) (by decide) (fun K hK => ?_)
     refine goes_ Try.func93 (by kernel_rfl) rfl #[.agg #[.slice A235_0 ((rd_T65 l0 x4_1).f0).length c235_0, .int .i64 ((rd_T65 l0 x4_1).f1)]] (by rfl) rfl rfl (by (try simp only [List.map_toArray, List.map_cons, List.map_nil]); first | done | rfl | (simp only [List.length_drop, List.length_take]; rfl)) ?_
     with_reducible refine (spec_l3Most.calls k1 _ _ ((rd_T65 l0 x4_1).f0) ((rd_T65 l0 x4_1).f1) t236 _ ?side1 ?side2 A4.out).mono ?_
     (case side1 => exact pc (Kd.C_below HR235_0.out HB.out))
     (case side2 => exact HC235_0.out)
     rintro e w10 ⟨rfl, hb⟩
     refine ⟨_, rfl, ?_⟩
     replace HB := am (below_step (ph HB.out) hb)
     (try clear hb)
     (try clear hb2)
     (try clear hk)
     (try clear hi)
     refine hK.out _ _ ⟨((HB.out.cell (World.block_lt_of_cell? w _ hw235_0)).trans hw235_0), ((HB.out.cell (World.block_lt_of_cell? w _ hw235_1)).trans hw235_1), ((HB.out.cell (World.block_lt_of_cell? w _ hw237_0)).trans hw237_0), ((HB.out.cell (World.block_lt_of_cell? w _ hw237_1)).trans hw237_1)⟩ (fun hHeld => ?_)
     clear hK K
     refine norm_ (a' := ?_) ?_ ?_
     rotate_left
     · show Act.put _ (some 15) _ = _
       simp only [Act.put, List.setIfInBounds_toArray, List.set_cons_zero, List.set_cons_succ, i64_w, i32_w]
       rfl
     refine one_ (i := 9) (N := some 20) #[true, true, true, true, true, true, true, true, true, true, false] rfl rfl (one_of HT_.out (by kernel_rfl)) (by decide) (fun K hK => ?_)
     refine goes_ Try.func93 (by kernel_rfl) rfl #[.agg #[.slice A237_0 ((rd_T65 l0 x3_1).f0).length c237_0, .int .i64 ((rd_T65 l0 x3_1).f1)]] (by rfl) rfl rfl (by (try simp only [List.map_toArray, List.map_cons, List.map_nil]); first | done | rfl | (simp only [List.length_drop, List.length_take]; rfl)) ?_
     with_reducible refine (spec_l3Most.calls k1 _ _ ((rd_T65 l0 x3_1).f0) ((rd_T65 l0 x3_1).f1) t238 _ ?side1 ?side2 A7.out).mono ?_
     (case side1 => exact pc (Kd.C_below HR237_0.out HB.out))
     (case side2 => exact HC237_0.out)
     rintro e w11 ⟨rfl, hb⟩
     refine ⟨_, rfl, ?_⟩
     replace HB := am (below_step (ph HB.out) hb)
     (try clear hb)
     (try clear hb2)
     (try clear hk)
     (try clear hi)
     refine hK.out _ _ ⟨((HB.out.cell (World.block_lt_of_cell? w _ hw235_0)).trans hw235_0), ((HB.out.cell (World.block_lt_of_cell? w _ hw235_1)).trans hw235_1), ((HB.out.cell (World.block_lt_of_cell? w _ hw237_0)).trans hw237_0), ((HB.out.cell (World.block_lt_of_cell? w _ hw237_1)).trans hw237_1)⟩ (fun hHeld => ?_)
     clear hK K
     refine norm_ (a' := ?_) ?_ ?_
     rotate_left
     · show Act.put _ (some 20) _ = _
       simp only [Act.put, List.setIfInBounds_toArray, List.set_cons_zero, List.set_cons_succ, i64_w, i32_w]
       rfl
     refine pj_ 10 21 #[true, true, true, true, true, true, true, true, true, true, true] rfl rfl (any_of HT_.out (by kernel_rfl)) (fun _ _ _ h => h) ?_
     refine done_ (done_of HT_.out (by kernel_rfl)) ?_
     try go_wp2
     go_roundg k1
     case measure => have := HK1.out; omega
     case rel => exact ⟨(x4_1), (wrap64 (x4_1 + 1)), rf, rf, H', ⟨by have := HK1.out; omega⟩, ⟨ph HB.out⟩⟩
   rw [if_neg c8] at H
   have c8b0 := decide_eq_false c8
   clear c8
   have H' := am H
   clear H
   try go_wp2
   replace HB := am (below_drew1 HB.out)
   have p235 : 0 ≤ (x4_1 : Int) := ofb
   have q235 : x4_1 < (l0.length : Int) := ofb
   obtain ⟨ad235, A235_0, c235_0, e235, hx235_0, hx235_1, hl235_0, hi235_0⟩ := at_T65 HR0.out x4_1 p235 q235
   have hw235_1 := hx235_1
   have hw235_0 := hx235_0
   cases e235
   replace hx235_0 := up HB.out hx235_0
   replace hx235_1 := up HB.out hx235_1
   have HR235_0 := am hi235_0
   have HC235_0 := am hl235_0
   clear hi235_0 hl235_0
   replace p235 := eq_true p235
   replace q235 := eq_true q235
   have p237 : 0 ≤ (x3_1 : Int) := ofb
   have q237 : x3_1 < (l0.length : Int) := ofb
   obtain ⟨ad237, A237_0, c237_0, e237, hx237_0, hx237_1, hl237_0, hi237_0⟩ := at_T65 HR0.out x3_1 p237 q237
   have hw237_1 := hx237_1
   have hw237_0 := hx237_0
   obtain rfl : ad235 = ad237 := (by injection e237)
   replace hx237_0 := up HB.out hx237_0
   replace hx237_1 := up HB.out hx237_1
   have HR237_0 := am hi237_0
   have HC237_0 := am hl237_0
   clear hi237_0 hl237_0
   replace p237 := eq_true p237
   replace q237 := eq_true q237
   refine start_ (n := 11) (S := fun w' => w'.cell? (ad235.add ((x4_1).toNat * 2)) = some (.slice A235_0 ((rd_T65 l0 x4_1).f0).length c235_0) ∧ w'.cell? ⟨(ad235.add ((x4_1).toNat * 2)).block, (ad235.add ((x4_1).toNat * 2)).off + 1, none⟩ = some (.int .i64 ((rd_T65 l0 x4_1).f1)) ∧ w'.cell? (ad235.add ((x3_1).toNat * 2)) = some (.slice A237_0 ((rd_T65 l0 x3_1).f0).length c237_0) ∧ w'.cell? ⟨(ad235.add ((x3_1).toNat * 2)).block, (ad235.add ((x3_1).toNat * 2)).off + 1, none⟩ = some (.int .i64 ((rd_T65 l0 x3_1).f1))) (ds := []) #[false, false, false, false, false, false, false, false, false, false, false] (by kernel_rfl) rfl rfl ⟨((HB.out.cell (World.block_lt_of_cell? w _ hw235_0)).trans hw235_0), ((HB.out.cell (World.block_lt_of_cell? w _ hw235_1)).trans hw235_1), ((HB.out.cell (World.block_lt_of_cell? w _ hw237_0)).trans hw237_0), ((HB.out.cell (World.block_lt_of_cell? w _ hw237_1)).trans hw237_1)⟩ (fun hHeld => ?_); refine with_tabW spec_l3Old.tab5 spec_l3Old.bits5 (fun HT_ HW_ => ?_)
   generalize wr.drew = w12 at HB HR235_0 HR237_0 hx235_0 hx235_1 hx237_0 hx237_1 hHeld ⊢
   refine pj_ 0 11 #[true, false, false, false, false, false, false, false, false, false, false] rfl rfl (any_of HT_.out (by kernel_rfl)) (fun _ _ _ h => h) ?_
   refine pj_ 1 12 #[true, true, false, false, false, false, false, false, false, false, false] rfl rfl (any_of HT_.out (by kernel_rfl)) (fun _ _ _ h => h) ?_
   refine pj_ 2 13 #[true, true, true, false, false, false, false, false, false, false, false] rfl rfl (any_of HT_.out (by kernel_rfl)) (fun _ _ _ h => h) ?_
   refine pj_ 5 16 #[true, true, true, false, false, true, false, false, false, false, false] rfl rfl (any_of HT_.out (by kernel_rfl)) (fun _ _ _ h => h) ?_
   refine pj_ 6 17 #[true, true, true, false, false, true, true, false, false, false, false] rfl rfl (any_of HT_.out (by kernel_rfl)) (fun _ _ _ h => h) ?_
   refine pj_ 7 18 #[true, true, true, false, false, true, true, true, false, false, false] rfl rfl (any_of HT_.out (by kernel_rfl)) (fun _ _ _ h => h) ?_
   refine pm_ 3 14 #[true, true, true, true, false, true, true, true, false, false, false] rfl rfl (take_ofW HT_.out HW_.out (by kernel_rfl)) (fun _ _ _ h => h) hHeld ?_
   refine pm_ 8 19 #[true, true, true, true, false, true, true, true, true, false, false] rfl rfl (take_ofW HT_.out HW_.out (by kernel_rfl)) (fun _ _ _ h => h) hHeld ?_
   refine one_ (i := 4) (N := some 15) #[true, true, true, true, true, true, true, true, true, false, false] rfl rfl (one_of HT_.out (by kernel_rfl)) (by decide) (fun K hK => ?_)
   refine goes_ Try.func93 (by kernel_rfl) rfl #[.agg #[.slice A235_0 ((rd_T65 l0 x4_1).f0).length c235_0, .int .i64 ((rd_T65 l0 x4_1).f1)]] (by rfl) rfl rfl (by (try simp only [List.map_toArray, List.map_cons, List.map_nil]); first | done | rfl | (simp only [List.length_drop, List.length_take]; rfl)) ?_
   with_reducible refine (spec_l3Most.calls k1 _ _ ((rd_T65 l0 x4_1).f0) ((rd_T65 l0 x4_1).f1) t236 _ ?side1 ?side2 A4.out).mono ?_
   (case side1 => exact pc (Kd.C_below HR235_0.out HB.out))
   (case side2 => exact HC235_0.out)
   rintro e w13 ⟨rfl, hb⟩
   refine ⟨_, rfl, ?_⟩
   replace HB := am (below_step (ph HB.out) hb)
   (try clear hb)
   (try clear hb2)
   (try clear hk)
   (try clear hi)
   refine hK.out _ _ ⟨((HB.out.cell (World.block_lt_of_cell? w _ hw235_0)).trans hw235_0), ((HB.out.cell (World.block_lt_of_cell? w _ hw235_1)).trans hw235_1), ((HB.out.cell (World.block_lt_of_cell? w _ hw237_0)).trans hw237_0), ((HB.out.cell (World.block_lt_of_cell? w _ hw237_1)).trans hw237_1)⟩ (fun hHeld => ?_)
   clear hK K
   refine norm_ (a' := ?_) ?_ ?_
   rotate_left
   · show Act.put _ (some 15) _ = _
     simp only [Act.put, List.setIfInBounds_toArray, List.set_cons_zero, List.set_cons_succ, i64_w, i32_w]
     rfl
   refine one_ (i := 9) (N := some 20) #[true, true, true, true, true, true, true, true, true, true, false] rfl rfl (one_of HT_.out (by kernel_rfl)) (by decide) (fun K hK => ?_)
   refine goes_ Try.func93 (by kernel_rfl) rfl #[.agg #[.slice A237_0 ((rd_T65 l0 x3_1).f0).length c237_0, .int .i64 ((rd_T65 l0 x3_1).f1)]] (by rfl) rfl rfl (by (try simp only [List.map_toArray, List.map_cons, List.map_nil]); first | done | rfl | (simp only [List.length_drop, List.length_take]; rfl)) ?_
   with_reducible refine (spec_l3Most.calls k1 _ _ ((rd_T65 l0 x3_1).f0) ((rd_T65 l0 x3_1).f1) t238 _ ?side1 ?side2 A7.out).mono ?_
   (case side1 => exact pc (Kd.C_below HR237_0.out HB.out))
   (case side2 => exact HC237_0.out)
   rintro e w14 ⟨rfl, hb⟩
   refine ⟨_, rfl, ?_⟩
   replace HB := am (below_step (ph HB.out) hb)
   (try clear hb)
   (try clear hb2)
   (try clear hk)
   (try clear hi)
   refine hK.out _ _ ⟨((HB.out.cell (World.block_lt_of_cell? w _ hw235_0)).trans hw235_0), ((HB.out.cell (World.block_lt_of_cell? w _ hw235_1)).trans hw235_1), ((HB.out.cell (World.block_lt_of_cell? w _ hw237_0)).trans hw237_0), ((HB.out.cell (World.block_lt_of_cell? w _ hw237_1)).trans hw237_1)⟩ (fun hHeld => ?_)
   clear hK K
   refine norm_ (a' := ?_) ?_ ?_
   rotate_left
   · show Act.put _ (some 20) _ = _
     simp only [Act.put, List.setIfInBounds_toArray, List.set_cons_zero, List.set_cons_succ, i64_w, i32_w]
     rfl
   refine pj_ 10 21 #[true, true, true, true, true, true, true, true, true, true, true] rfl rfl (any_of HT_.out (by kernel_rfl)) (fun _ _ _ h => h) ?_
   refine done_ (done_of HT_.out (by kernel_rfl)) ?_
   try go_wp2
   go_roundg k1
   case measure => have := HK1.out; omega
   case rel => exact ⟨(x3_1), (wrap64 (x4_1 + 1)), rf, rf, H', ⟨by have := HK1.out; omega⟩, ⟨ph HB.out⟩⟩
def spec_l3Live.f (k : Nat) (l0 : List (S65)) (a1_0 : Int) (a1_1 : Int) (a1_2 : Int) (a1_3 : Int) (a1_4 : Int) : Option (Bool) := if a1_0 = 1 then ((spec_l3Last.f k l0 a1_3).bind fun bt240 => (some (bt240.1 == a1_1 && (bt240.2.1 == a1_2 && (bt240.2.2.1 == a1_3 && (bt240.2.2.2.1 == a1_4)))))) else (some false)
theorem spec_l3Live.mono : ∀ a0 a1 a2 a3 a4 a5 k, LeO (spec_l3Live.f k a0 a1 a2 a3 a4 a5) (spec_l3Live.f (k + 1) a0 a1 a2 a3 a4 a5) := by
 intro a0 a1 a2 a3 a4 a5 k
 unfold spec_l3Live.f
 repeat' first
  | (with_reducible exact spec_l3Last.mono _ _ _)
  | (with_reducible exact LeO.refl _)
  | (with_reducible exact LeO.none _)
  | (with_reducible refine LeO.ite ?_ ?_)
  | (with_reducible refine LeO.bind ?_ (fun _ => ?_))
  | exact spec_l3Last.mono _ _ _
  | exact LeO.none _
  | refine LeO.ite ?_ ?_
  | refine LeO.bind ?_ (fun _ => ?_)
set_option maxHeartbeats 8000000 in
set_option maxRecDepth 100000 in
theorem spec_l3Live.calls (k : Nat) (A0 : Option Addr) (c0 : Nat) (l0 : List (S65)) (a1_0 : Int) (a1_1 : Int) (a1_2 : Int) (a1_3 : Int) (a1_4 : Int) (r : Bool) (w : World) (hr0 : Kd.C k65 w A0 l0.length l0) (hc0 : l0.length ≤ c0) (h : spec_l3Live.f k l0 a1_0 a1_1 a1_2 a1_3 a1_4 = some r) :
 Calls Try.prog 100 #[.slice A0 l0.length c0, .agg #[.int .i64 a1_0, .int .i64 a1_1, .int .i64 a1_2, .int .i64 a1_3, .int .i64 a1_4]] w fun e w' => e = .returned (.bool r) ∧ Below w.heap.size w w' := by
 have hu71 := Try.underlying71
 have hu30 := Try.underlying30
 have HR0 := am hr0
 have HC0 := am hc0
 clear hr0 hc0
 have HB := am (Below.refl w.heap.size w)
 have H : (if a1_0 = 1 then ((spec_l3Last.f k l0 a1_3).bind fun bt240 => (some (bt240.1 == a1_1 && (bt240.2.1 == a1_2 && (bt240.2.2.1 == a1_3 && (bt240.2.2.2.1 == a1_4)))))) else (some false)) = some r := h
 clear h
 by_cases c3 : a1_0 = 1
 rotate_left
 · rw [if_neg c3] at H
   have c3b0 : (a1_0 == 1) = false := beq_eq_false_iff_ne.mpr c3
   have c3b1 : (a1_0 != 1) = true := bne_iff_ne.mpr c3
   obtain rfl := Option.some.inj H
   go_enter Try.func100, Try.ntmps100
   go_wp2_with (first | (refine bx 3 #[.int .i64 a1_0, .int .i64 a1_1, .int .i64 a1_2, .int .i64 a1_3, .int .i64 a1_4] 71 rfl ?_; intro gb239 hg w12 hbox hb; have BK239 := am (hbox); have GW239 := am ((by rw [hg]; exact (below_size (ph HB.out)) : w.heap.size ≤ gb239)); have GE239 := GW239; replace HB := am (below_step (ph HB.out) hb); clear hb hbox hg; obtain ⟨hcz13_0, hcz13_1, hcz13_2, hcz13_3, hcz13_4⟩ := b5 BK239.out; obtain ⟨hfz13_0, hfz13_1, hfz13_2, hfz13_3, hfz13_4⟩ := f5 BK239.out))
   go_ret
   exact (rq (bg1 HB.out GE239.out))
 rw [if_pos c3] at H
 have c3b0 : (a1_0 == 1) = true := beq_iff_eq.mpr c3
 have c3b1 : (a1_0 != 1) = false := bne_eq_false_iff_eq.mpr c3
 clear c3
 replace H := Option.bind_eq_some_iff.mp H
 obtain ⟨⟨t240, t241, t242, t243, t244⟩, A40, H⟩ := H
 replace H : (some (t240 == a1_1 && (t241 == a1_2 && (t242 == a1_3 && (t243 == a1_4))))) = some r := H
 have A4 := am A40
 clear A40
 obtain rfl := Option.some.inj H
 go_enter Try.func100, Try.ntmps100
 go_wp2_with (first | (refine bx 3 #[.int .i64 a1_0, .int .i64 a1_1, .int .i64 a1_2, .int .i64 a1_3, .int .i64 a1_4] 71 rfl ?_; intro gb239 hg w5 hbox hb; have BK239 := am (hbox); have GW239 := am ((by rw [hg]; exact (below_size (ph HB.out)) : w.heap.size ≤ gb239)); have GE239 := GW239; replace HB := am (below_step (ph HB.out) hb); clear hb hbox hg; obtain ⟨hcz6_0, hcz6_1, hcz6_2, hcz6_3, hcz6_4⟩ := b5 BK239.out; obtain ⟨hfz6_0, hfz6_1, hfz6_2, hfz6_3, hfz6_4⟩ := f5 BK239.out) | (refine gl 15 Try.func81 #[.slice A0 l0.length c0, .int .i64 a1_3] rfl ?_; (with_reducible refine (spec_l3Last.calls k _ _ l0 a1_3 t240 t241 t242 t243 t244 _ ?side1 ?side2 A4.out).mono ?_); (case side1 => exact pc (Kd.C_below HR0.out HB.out)); (case side2 => exact HC0.out); rintro e w7 ⟨rfl, hb⟩; refine ⟨_, rfl, ?_⟩; replace BK239 := am (blk_below (pb BK239.out) hb); replace HB := am (below_step (bg1 HB.out GE239.out) hb); (try clear hb); (try clear hb2); (try clear hk); (try clear hi)) | (refine bx 5 #[.int .i64 0, .int .i64 0, .int .i64 0, .int .i64 0] 30 rfl ?_; intro gb245 hg w8 hbox hb; have BK245 := am (hbox); have GW245 := am ((by rw [hg]; exact (below_size (bg1 HB.out GE239.out)) : w.heap.size ≤ gb245)); have GE245 := GW245; replace HB := am (below_step (bg1 HB.out GE239.out) hb); have NB239_245 := am ((by rw [hg]; exact Nat.ne_of_lt (blk_lt (pb BK239.out)) : gb239 ≠ gb245)); have NB245_239 := am (Ne.symm NB239_245.out); replace BK239 := am (blk_below (pb BK239.out) hb); clear hb hbox hg; have hnb9 := NB245_239.out; have hnc9 := NB239_245.out; obtain ⟨hcz10_0, hcz10_1, hcz10_2, hcz10_3⟩ := b4 BK245.out; obtain ⟨hfz10_0, hfz10_1, hfz10_2, hfz10_3⟩ := f4 BK245.out; obtain ⟨hcz11_0, hcz11_1, hcz11_2, hcz11_3, hcz11_4⟩ := b5 BK239.out; obtain ⟨hfz11_0, hfz11_1, hfz11_2, hfz11_3, hfz11_4⟩ := f5 BK239.out))
 go_ret
 exact (rq (bg2 HB.out GE239.out GE245.out))
end Go.Proofs.Ytoedphbikgoapaa.Rd
namespace Go.Proofs.Ytoedphbikgoapaa.Rd
open Go.RowKit Go.Proofs.YtoedphbikgoapaaW.PrintWords Go.Proofs.YtoedphbikgoapaaW.PrintLast Go.Proofs.YtoedphbikgoapaaW.PrintMore
attribute [local go_sem] max2_int min2_int max_two min_two max_three min_three max_four min_four
set_option linter.unusedVariables false
set_option linter.unusedSimpArgs false
def spec_l12Room.l0 : Nat → List (S85) → Int → Int → List (S65) → List Int → Option ((List (S85)) × Int × Bool)
 | 0, _, _, _, _, _ => none
 | k + 1, x5, x8, x9, x247000, x247001 => if x9 < 4 then (if 0 ≤ x8 then (if x8 < (x247000.length : Int) then (if 0 ≤ x9 then (if x9 < (((rd_T65 x247000 x8).f0).length : Int) then ((spec_l3Live.f k x247000 ((rd_T71 ((rd_T65 x247000 x8).f0) x9).f0) ((rd_T71 ((rd_T65 x247000 x8).f0) x9).f1.f0) ((rd_T71 ((rd_T65 x247000 x8).f0) x9).f1.f1) ((rd_T71 ((rd_T65 x247000 x8).f0) x9).f1.f2) ((rd_T71 ((rd_T65 x247000 x8).f0) x9).f1.f3)).bind fun t256 => (if t256 = true then (if ((rd_T71 ((rd_T65 x247000 x8).f0) x9).f1.f0) = 1 then (if x5.length < 2199023255552 then (spec_l12Room.l0 k (x5 ++ [(⟨1, (rd_T71 ((rd_T65 x247000 x8).f0) x9).f1.f2, (rd_T71 ((rd_T65 x247000 x8).f0) x9).f1.f3, 0, (⟨0, 0, 0, 0⟩ : S30)⟩ : S85)]) x8 (wrap64 (x9 + 1)) x247000 x247001) else (none)) else (spec_l12Room.l0 k x5 x8 (wrap64 (x9 + 1)) x247000 x247001)) else (spec_l12Room.l0 k x5 x8 (wrap64 (x9 + 1)) x247000 x247001))) else (none)) else (none)) else (none)) else (none)) else (if x5.length < 2199023255552 then (if 0 ≤ x8 then (if x8 < (x247000.length : Int) then (some ((x5 ++ [(⟨2, 0, 0, x8, (⟨0, 0, 0, 0⟩ : S30)⟩ : S85)]), x8, decide (((rd_T65 x247000 x8).f1) < 200))) else (none)) else (none)) else (none))
def spec_l12Room.f (k : Nat) (l0_0 : List (S65)) (l0_1 : List Int) : Option ((List (S85)) × Int × Bool) := (some (([] : List (S85)) : List (S85))).bind fun y247 => ((spec_l3Open.f k l0_0).bind fun bt250 => (if bt250.2 = true then (some (y247, bt250.1, true)) else ((spec_l3Old.f k l0_0).bind fun t252 => (spec_l12Room.l0 k y247 t252 0 l0_0 l0_1))))
theorem spec_l12Room.mono_l : ∀ k, (∀ y0 y1 y2 y3 y4, LeO (spec_l12Room.l0 k y0 y1 y2 y3 y4) (spec_l12Room.l0 (k + 1) y0 y1 y2 y3 y4))
 | 0 => fun _ _ _ _ _ r h => by simp [spec_l12Room.l0] at h
 | k + 1 => by
  have ih0 := spec_l12Room.mono_l k
  · intro y0 y1 y2 y3 y4
    unfold spec_l12Room.l0
    repeat' first
    | (with_reducible exact ih0 _ _ _ _ _)
    | (with_reducible exact spec_l3Live.mono _ _ _ _ _ _ _)
    | (with_reducible exact spec_l3Old.mono _ _)
    | (with_reducible exact spec_l3Open.mono _ _)
    | (with_reducible exact LeO.refl _)
    | (with_reducible exact LeO.none _)
    | (with_reducible refine LeO.ite ?_ ?_)
    | (with_reducible refine LeO.bind ?_ (fun _ => ?_))
    | exact ih0 _ _ _ _ _
    | exact spec_l3Live.mono _ _ _ _ _ _ _
    | exact spec_l3Old.mono _ _
    | exact spec_l3Open.mono _ _
    | exact LeO.none _
    | refine LeO.ite ?_ ?_
    | refine LeO.bind ?_ (fun _ => ?_)
theorem spec_l12Room.mono : ∀ a0 a1 k, LeO (spec_l12Room.f k a0 a1) (spec_l12Room.f (k + 1) a0 a1) := by
 intro a0 a1 k
 have ih0 := spec_l12Room.mono_l k
 unfold spec_l12Room.f
 repeat' first
  | (with_reducible exact ih0 _ _ _ _ _)
  | (with_reducible exact spec_l3Live.mono _ _ _ _ _ _ _)
  | (with_reducible exact spec_l3Old.mono _ _)
  | (with_reducible exact spec_l3Open.mono _ _)
  | (with_reducible exact LeO.refl _)
  | (with_reducible exact LeO.none _)
  | (with_reducible refine LeO.ite ?_ ?_)
  | (with_reducible refine LeO.bind ?_ (fun _ => ?_))
  | exact ih0 _ _ _ _ _
  | exact spec_l3Live.mono _ _ _ _ _ _ _
  | exact spec_l3Old.mono _ _
  | exact spec_l3Open.mono _ _
  | exact LeO.none _
  | refine LeO.ite ?_ ?_
  | refine LeO.bind ?_ (fun _ => ?_)
def spec_l12Room.T12 : Bool × List (List Nat × List Nat) := (true, [([], []), ([], []), ([1], [1]), ([2], [2]), ([0, 3], [0, 3]), ([], []), ([], []), ([6], [6]), ([], []), ([7, 8], [7, 8]), ([9], [9]), ([10], [10]), ([11], [11]), ([4, 4, 0, 1, 2, 3, 4], [4]), ([5, 13, 0, 1, 2, 3, 4, 5, 13], [5]), ([12, 14, 0, 1, 2, 3, 4, 5, 6, 7, 8, 9, 10, 11, 12, 13, 14], [12])])
def spec_l12Room.B12 : List Nat := [0, 0, 2, 6, 15, 0, 0, 64, 0, 448, 960, 1984, 4032, 31, 8255, 32767]
theorem spec_l12Room.tab12 : rtab .any (opsOf Try.f85 12) = spec_l12Room.T12 := by kernel_rfl
theorem spec_l12Room.bits12 : waitsOk spec_l12Room.T12.2 spec_l12Room.B12 = true := by kernel_rfl
set_option maxHeartbeats 8000000 in
set_option maxRecDepth 100000 in
theorem spec_l12Room.calls (k : Nat) (A0_0 : Option Addr) (c0_0 : Nat) (l0_0 : List (S65)) (A0_1 : Option Addr) (c0_1 : Nat) (l0_1 : List Int) (r1 : List (S85)) (r2 : Int) (r3 : Bool) (w : World) (hr0_0 : Kd.C k65 w A0_0 l0_0.length l0_0) (hc0_0 : l0_0.length ≤ c0_0) (hr0_1 : Kd.C (Kd.int .i64) w A0_1 l0_1.length l0_1) (hc0_1 : l0_1.length ≤ c0_1) (h : spec_l12Room.f k l0_0 l0_1 = some (r1, r2, r3)) :
 Calls Try.prog 85 #[.agg #[.slice A0_0 l0_0.length c0_0, .slice A0_1 l0_1.length c0_1]] w fun e w' => ∃ v0_ : Value, e = .returned (.tuple #[v0_, .int .i64 r2, .bool r3]) ∧ Kd.R k85 85 w' w.heap.size (fun _ => True) v0_ r1 ∧ Below w.heap.size w w' := by
 have hu41 := Try.underlying41
 have hu71 := Try.underlying71
 have hu85 := Try.underlying85
 have HR0_0 := am hr0_0
 have HC0_0 := am hc0_0
 clear hr0_0 hc0_0
 have HR0_1 := am hr0_1
 have HC0_1 := am hc0_1
 clear hr0_1 hc0_1
 have HB := am (Below.refl w.heap.size w)
 have H : ((some (([] : List (S85)) : List (S85))).bind fun y247 => ((spec_l3Open.f k l0_0).bind fun bt250 => (if bt250.2 = true then (some (y247, bt250.1, true)) else ((spec_l3Old.f k l0_0).bind fun t252 => (spec_l12Room.l0 k y247 t252 0 l0_0 l0_1))))) = some (r1, r2, r3) := h
 clear h
 obtain ⟨y247, hy247⟩ : ∃ y_ : List (S85), y_ = (([] : List (S85))) := ⟨_, rfl⟩
 replace H : ((spec_l3Open.f k l0_0).bind fun bt250 => (if bt250.2 = true then (some (y247, bt250.1, true)) else ((spec_l3Old.f k l0_0).bind fun t252 => (spec_l12Room.l0 k y247 t252 0 l0_0 l0_1)))) = some (r1, r2, r3) := by first | (rw [hy247]; with_reducible exact H) | (have H2_ := (Option.bind_some _ _).symm.trans H; rw [hy247]; with_reducible exact H2_) | (have H2_ := (Option.bind_some _ _).symm.trans H; with_reducible exact H2_) | with_reducible exact H | (rw [hy247]; exact H) | exact H
 have Ny247 := am hy247
 clear hy247
 replace H := Option.bind_eq_some_iff.mp H
 obtain ⟨⟨t250, t251⟩, A20, H⟩ := H
 replace H : (if t251 = true then (some (y247, t250, true)) else ((spec_l3Old.f k l0_0).bind fun t252 => (spec_l12Room.l0 k y247 t252 0 l0_0 l0_1))) = some (r1, r2, r3) := H
 have A2 := am A20
 clear A20
 by_cases c3 : t251 = true
 · subst c3
   have H1 : (some (y247, t250, true)) = some (r1, r2, r3) := by rw [if_pos rfl] at H; exact H
   clear H
   have H := H1
   clear H1
   simp only [Option.some.injEq, Prod.mk.injEq] at H
   obtain ⟨rfl, rfl, rfl⟩ := H
   go_enter Try.func85, Try.ntmps85
   go_wp2_with (first | (refine bx 1 #[.slice A0_0 l0_0.length c0_0, .slice A0_1 l0_1.length c0_1] 41 rfl ?_; intro gb246 hg w4 hbox hb; have BK246 := am (hbox); have GW246 := am ((by rw [hg]; exact (below_size (ph HB.out)) : w.heap.size ≤ gb246)); have GE246 := GW246; replace HB := am (below_step (ph HB.out) hb); clear hb hbox hg) | ((with_reducible refine gate_dst (N := 11) rfl ?_); refine Kd.R_lit k85 _ 85 ?hg (N := 11) ?hd (xs := ([] : List (S85))) (inner := []) (ok := fun _ => True) (okp := fun _ => True) ?hr ?hp (fun _ hk => hk) trivial (Below.refl _ _) (Nat.le_refl _) (by simp) ?_; (case hd => rfl); (case hg => rfl); (case hr => first | (go_simp; done) | (go_simp; rfl)); (case hp => exact (Reps.none _ _)); intro v248 w5 ho6 hb hg_ hnew_; clear hg_ hnew_; (first | rw [← Ny247.out] at ho6 | (simp only [Int.reduceToNat] at ho6; rw [← Ny247.out] at ho6)); have HO249 := am (Kd.R_lower ho6 (below_size (bg1 HB.out GE246.out))); replace BK246 := am (blk_below (pb BK246.out) hb); replace HB := am (below_step (bg1 HB.out GE246.out) hb); clear hb ho6; obtain ⟨hcz7_0, hcz7_1⟩ := b2 BK246.out; obtain ⟨hfz7_0, hfz7_1⟩ := f2 BK246.out) | (refine gl 15 Try.func98 #[.slice A0_0 l0_0.length c0_0] rfl ?_; (with_reducible refine (spec_l3Open.calls k _ _ l0_0 t250 true _ ?side1 ?side2 A2.out).mono ?_); (case side1 => exact pc (Kd.C_below HR0_0.out HB.out)); (case side2 => exact HC0_0.out); rintro e w8 ⟨rfl, hb⟩; refine ⟨_, rfl, ?_⟩; replace HO249 := am (Kd.R_below (pr HO249.out) hb); replace BK246 := am (blk_below (pb BK246.out) hb); replace HB := am (below_step (bg1 HB.out GE246.out) hb); (try clear hb); (try clear hb2); (try clear hk); (try clear hi)))
   go_ret3
   exact ⟨_, rq ⟨pr HO249.out, bg1 HB.out GE246.out⟩⟩
 replace c3 := Bool.eq_false_iff.mpr c3
 subst c3
 have H1 : ((spec_l3Old.f k l0_0).bind fun t252 => (spec_l12Room.l0 k y247 t252 0 l0_0 l0_1)) = some (r1, r2, r3) := by rw [if_neg (show ¬ (false = true) by decide)] at H; exact H
 clear H
 have H := H1
 clear H1
 replace H := Option.bind_eq_some_iff.mp H
 obtain ⟨t252, A90, H⟩ := H
 replace H : (spec_l12Room.l0 k y247 t252 0 l0_0 l0_1) = some (r1, r2, r3) := H
 have A9 := am A90
 clear A90
 have H' := am H
 clear H
 go_enter Try.func85, Try.ntmps85
 go_wp2_with (first | (refine bx 1 #[.slice A0_0 l0_0.length c0_0, .slice A0_1 l0_1.length c0_1] 41 rfl ?_; intro gb246 hg w10 hbox hb; have BK246 := am (hbox); have GW246 := am ((by rw [hg]; exact (below_size (ph HB.out)) : w.heap.size ≤ gb246)); have GE246 := GW246; replace HB := am (below_step (ph HB.out) hb); clear hb hbox hg) | ((with_reducible refine gate_dst (N := 11) rfl ?_); refine Kd.R_lit k85 _ 85 ?hg (N := 11) ?hd (xs := ([] : List (S85))) (inner := []) (ok := fun _ => True) (okp := fun _ => True) ?hr ?hp (fun _ hk => hk) trivial (Below.refl _ _) (Nat.le_refl _) (by simp) ?_; (case hd => rfl); (case hg => rfl); (case hr => first | (go_simp; done) | (go_simp; rfl)); (case hp => exact (Reps.none _ _)); intro v248 w11 ho12 hb hg_ hnew_; clear hg_ hnew_; (first | rw [← Ny247.out] at ho12 | (simp only [Int.reduceToNat] at ho12; rw [← Ny247.out] at ho12)); have HO249 := am (Kd.R_lower ho12 (below_size (bg1 HB.out GE246.out))); replace BK246 := am (blk_below (pb BK246.out) hb); replace HB := am (below_step (bg1 HB.out GE246.out) hb); clear hb ho12; obtain ⟨hcz13_0, hcz13_1⟩ := b2 BK246.out; obtain ⟨hfz13_0, hfz13_1⟩ := f2 BK246.out) | (refine gl 15 Try.func98 #[.slice A0_0 l0_0.length c0_0] rfl ?_; (with_reducible refine (spec_l3Open.calls k _ _ l0_0 t250 false _ ?side1 ?side2 A2.out).mono ?_); (case side1 => exact pc (Kd.C_below HR0_0.out HB.out)); (case side2 => exact HC0_0.out); rintro e w14 ⟨rfl, hb⟩; refine ⟨_, rfl, ?_⟩; replace HO249 := am (Kd.R_below (pr HO249.out) hb); replace BK246 := am (blk_below (pb BK246.out) hb); replace HB := am (below_step (bg1 HB.out GE246.out) hb); (try clear hb); (try clear hb2); (try clear hk); (try clear hi); obtain ⟨hcz15_0, hcz15_1⟩ := b2 BK246.out; obtain ⟨hfz15_0, hfz15_1⟩ := f2 BK246.out) | (refine gl 23 Try.func99 #[.slice A0_0 l0_0.length c0_0] rfl ?_; (with_reducible refine (spec_l3Old.calls k _ _ l0_0 t252 _ ?side1 ?side2 A9.out).mono ?_); (case side1 => exact pc (Kd.C_below HR0_0.out HB.out)); (case side2 => exact HC0_0.out); rintro e w16 ⟨rfl, hb⟩; refine ⟨_, rfl, ?_⟩; replace HO249 := am (Kd.R_below (pr HO249.out) hb); replace BK246 := am (blk_below (pb BK246.out) hb); replace HB := am (below_step (bg1 HB.out GE246.out) hb); (try clear hb); (try clear hb2); (try clear hk); (try clear hi)))
 go_loopg [5, 9] k (fun kq v5 v9 w' => ∃ (x5_1 : List (S85)) (x9_1 : Int), v9 = .int .i64 x9_1 ∧ Aside0 (spec_l12Room.l0 kq x5_1 t252 x9_1 l0_0 l0_1 = some (r1, r2, r3)) ∧ Aside0 (kq ≤ k) ∧ Aside0 (Kd.R k85 85 w' w.heap.size (fun _ => True) v5 x5_1) ∧ Aside0 (w'.heap[gb246]? = some (.cells #[(.slice A0_0 l0_0.length c0_0), (.slice A0_1 l0_1.length c0_1)] 41 (0, 0))) ∧ Aside0 (Below w.heap.size w w'))
 case atStart => exact ⟨(y247), (0), rf, H', ⟨Nat.le_refl _⟩, ⟨pr HO249.out⟩, ⟨pb BK246.out⟩, ⟨bg1 HB.out GE246.out⟩⟩
 case round =>
  clear H'
  obtain ⟨x5_1, x9_1, rfl, HA, HK1, HO_5, BK246, HB⟩ := hrel
  cases gk with
  | zero => exact absurd HA.out (by simp [spec_l12Room.l0])
  | succ k1 =>
   have H := HA.out
   clear HA
   simp only [spec_l12Room.l0] at H
   by_cases c17 : x9_1 < 4
   rotate_left
   · rw [if_neg c17] at H
     have c17b0 := decide_eq_false c17
     clear c17
     by_cases c47 : x5_1.length < 2199023255552
     rotate_left
     · rw [if_neg c47] at H
       exact absurd H (by simp)
     rw [if_pos c47] at H
     have LMc47 := am c47
     clear c47
     obtain ⟨y260, hy260⟩ : ∃ y_ : List (S85), y_ = (x5_1 ++ [(⟨2, 0, 0, t252, (⟨0, 0, 0, 0⟩ : S30)⟩ : S85)]) := ⟨_, rfl⟩
     replace H : (if 0 ≤ t252 then (if t252 < (l0_0.length : Int) then (some (y260, t252, decide (((rd_T65 l0_0 t252).f1) < 200))) else (none)) else (none)) = some (r1, r2, r3) := by first | (rw [hy260]; with_reducible exact H) | (have H2_ := (Option.bind_some _ _).symm.trans H; rw [hy260]; with_reducible exact H2_) | (have H2_ := (Option.bind_some _ _).symm.trans H; with_reducible exact H2_) | with_reducible exact H | (rw [hy260]; exact H) | exact H
     have Ny260 := am hy260
     clear hy260
     by_cases c48 : 0 ≤ t252
     rotate_left
     · rw [if_neg c48] at H
       exact absurd H (by simp)
     rw [if_pos c48] at H
     have c48b0 := decide_eq_true c48
     clear c48
     by_cases c49 : t252 < (l0_0.length : Int)
     rotate_left
     · rw [if_neg c49] at H
       exact absurd H (by simp)
     rw [if_pos c49] at H
     have c49b0 := decide_eq_true c49
     clear c49
     simp only [Option.some.injEq, Prod.mk.injEq] at H
     obtain ⟨rfl, rfl, rfl⟩ := H
     try go_wp2
     replace HO_5 := am (Kd.R_drew HO_5.out)
     replace BK246 := am (blk_drew BK246.out)
     replace HB := am (below_drew1 HB.out)
     have p263 : 0 ≤ (t252 : Int) := ofb
     have q263 : t252 < (l0_0.length : Int) := ofb
     obtain ⟨ad263, A263_0, c263_0, e263, hx263_0, hx263_1, hl263_0, hi263_0⟩ := at_T65 HR0_0.out t252 p263 q263
     have hw263_1 := hx263_1
     have hw263_0 := hx263_0
     cases e263
     replace hx263_0 := up HB.out hx263_0
     replace hx263_1 := up HB.out hx263_1
     have HR263_0 := am hi263_0
     have HC263_0 := am hl263_0
     clear hi263_0 hl263_0
     replace p263 := eq_true p263
     replace q263 := eq_true q263
     refine start_ (n := 16) (S := fun w' => w'.cell? ⟨gb246, 0, none⟩ = some (.slice (some ad263) l0_0.length c0_0) ∧ w'.cell? ⟨gb246, 1, none⟩ = some (.slice A0_1 l0_1.length c0_1) ∧ w'.cell? (ad263.add ((t252).toNat * 2)) = some (.slice A263_0 ((rd_T65 l0_0 t252).f0).length c263_0) ∧ w'.cell? ⟨(ad263.add ((t252).toNat * 2)).block, (ad263.add ((t252).toNat * 2)).off + 1, none⟩ = some (.int .i64 ((rd_T65 l0_0 t252).f1))) (ds := []) #[false, false, false, false, false, false, false, false, false, false, false, false, false, false, false, false] (by kernel_rfl) rfl rfl ⟨(blk_cell BK246.out 0).trans rfl, (blk_cell BK246.out 1).trans rfl, ((HB.out.cell (World.block_lt_of_cell? w _ hw263_0)).trans hw263_0), ((HB.out.cell (World.block_lt_of_cell? w _ hw263_1)).trans hw263_1)⟩ (fun hHeld => ?_); refine with_tabW spec_l12Room.tab12 spec_l12Room.bits12 (fun HT_ HW_ => ?_)
     generalize wr.drew = w50 at HO_5 BK246 HB HR263_0 hx263_0 hx263_1 hHeld ⊢
     refine pj_ 0 57 #[true, false, false, false, false, false, false, false, false, false, false, false, false, false, false, false] rfl rfl (any_of HT_.out (by kernel_rfl)) (fun _ _ _ h => h) ?_
     refine pj_ 1 58 #[true, true, false, false, false, false, false, false, false, false, false, false, false, false, false, false] rfl rfl (any_of HT_.out (by kernel_rfl)) (fun _ _ _ h => h) ?_
     refine pj_ 2 59 #[true, true, true, false, false, false, false, false, false, false, false, false, false, false, false, false] rfl rfl (any_of HT_.out (by kernel_rfl)) (fun _ _ _ h => h) ?_
     refine pj_ 5 62 #[true, true, true, false, false, true, false, false, false, false, false, false, false, false, false, false] rfl rfl (any_of HT_.out (by kernel_rfl)) (fun _ _ _ h => h) ?_
     refine pj_ 6 63 #[true, true, true, false, false, true, true, false, false, false, false, false, false, false, false, false] rfl rfl (any_of HT_.out (by kernel_rfl)) (fun _ _ _ h => h) ?_
     refine pj_ 8 65 #[true, true, true, false, false, true, true, false, true, false, false, false, false, false, false, false] rfl rfl (any_of HT_.out (by kernel_rfl)) (fun _ _ _ h => h) ?_
     refine pm_ 7 64 #[true, true, true, false, false, true, true, true, true, false, false, false, false, false, false, false] rfl rfl (take_ofW HT_.out HW_.out (by kernel_rfl)) (fun _ _ _ h => h) hHeld ?_
     refine pj_ 9 66 #[true, true, true, false, false, true, true, true, true, true, false, false, false, false, false, false] rfl rfl (any_of HT_.out (by kernel_rfl)) (fun _ _ _ h => h) ?_
     refine pj_ 10 67 #[true, true, true, false, false, true, true, true, true, true, true, false, false, false, false, false] rfl rfl (any_of HT_.out (by kernel_rfl)) (fun _ _ _ h => h) ?_
     refine pm_ 11 68 #[true, true, true, false, false, true, true, true, true, true, true, true, false, false, false, false] rfl rfl (take_ofW HT_.out HW_.out (by kernel_rfl)) (fun _ _ _ h => h) hHeld ?_
     refine pj_ 12 69 #[true, true, true, false, false, true, true, true, true, true, true, true, true, false, false, false] rfl rfl (any_of HT_.out (by kernel_rfl)) (fun _ _ _ h => h) ?_
     refine one_ (i := 3) (N := some 60) #[true, true, true, true, false, true, true, true, true, true, true, true, true, false, false, false] rfl rfl (one_of HT_.out (by kernel_rfl)) (by decide) (fun K hK => ?_)
     refine value_ (w1 := ?_) (v := ?_) (by rfl) rfl ?_ ?_
     rotate_left 2
     · go_simp
       constructor
       · rfl
       · rfl
     refine hK.out _ _ ⟨(blk_cell (blk_alloc BK246.out _) 0).trans rfl, (blk_cell (blk_alloc BK246.out _) 1).trans rfl, (World.cell?_alloc_lt _ _ _ (World.block_lt_of_cell? _ _ (((HB.out.cell (World.block_lt_of_cell? w _ hw263_0)).trans hw263_0)))).trans (((HB.out.cell (World.block_lt_of_cell? w _ hw263_0)).trans hw263_0)), (World.cell?_alloc_lt _ _ _ (World.block_lt_of_cell? _ _ (((HB.out.cell (World.block_lt_of_cell? w _ hw263_1)).trans hw263_1)))).trans (((HB.out.cell (World.block_lt_of_cell? w _ hw263_1)).trans hw263_1))⟩ (fun hHeld => ?_)
     clear hK K
     refine norm_ (a' := ?_) ?_ ?_
     rotate_left
     · show Act.put _ (some 60) _ = _
       simp only [Act.put, List.setIfInBounds_toArray, List.set_cons_zero, List.set_cons_succ, i64_w, i32_w]
       rfl
     refine one_ (i := 4) (N := some 61) #[true, true, true, true, true, true, true, true, true, true, true, true, true, false, false, false] rfl rfl (one_of HT_.out (by kernel_rfl)) (by decide) (fun K hK => ?_)
     refine Kd.R_append_step k85 (w0 := w) w.heap.size (by rfl) (.tmp 57) (.tmp 60) 48 85 (.agg #[(.int .i64 0), (.int .i64 0), (.int .i64 0), (.int .i64 0), (.int .i64 0), (.int .i64 0), (.int .i64 0), (.int .i64 0)]) 64 rfl Try.underlying48 info85 rfl (by decide) (by omega) u5 x5_1 (⟨2, 0, 0, t252, (⟨0, 0, 0, 0⟩ : S30)⟩ : S85) [.int .i64 2, .int .i64 0, .int .i64 0, .int .i64 t252, .int .i64 0, .int .i64 0, .int .i64 0, .int .i64 0] (fun _ => True) (fun _ => False) rfl rfl ?aP (fun _ hk => hk.elim) ?aF ?aO ?aB ?aS ?aL ?_
     (case aP => exact k85_mkM _ _ _ (⟨2, 0, 0, t252, (⟨0, 0, 0, 0⟩ : S30)⟩ : S85))
     (case aB => exact (bg1 HB.out GE246.out))
     (case aF => exact (fun _ _ => trivial))
     (case aO => exact (pr HO_5.out))
     (case aS => exact (below_size (bg1 HB.out GE246.out)))
     (case aL => have := LMc47.out; omega)
     intro v261 w51 ho hb hg hat
     rw [← Ny260.out] at ho
     replace BK246 := am (blk_grown (g := gb246) (o := .cells #[.slice (some ad263) l0_0.length c0_0, .slice A0_1 l0_1.length c0_1] 41 (0, 0)) (pb BK246.out) hg (Kd.R_ne HO_5.out BK246.out (by decide)))
     replace HB := am (hb)
     have HO262 := am (ho)
     clear HO_5
     clear ho hb hg hat
     refine hK.out _ _ ⟨(blk_cell BK246.out 0).trans rfl, (blk_cell BK246.out 1).trans rfl, ((HB.out.cell (World.block_lt_of_cell? w _ hw263_0)).trans hw263_0), ((HB.out.cell (World.block_lt_of_cell? w _ hw263_1)).trans hw263_1)⟩ (fun hHeld => ?_)
     clear hK K
     refine norm_ (a' := ?_) ?_ ?_
     rotate_left
     · show Act.put _ (some 61) _ = _
       simp only [Act.put, List.setIfInBounds_toArray, List.set_cons_zero, List.set_cons_succ, i64_w, i32_w]
       rfl
     refine pj_ 13 2 #[true, true, true, true, true, true, true, true, true, true, true, true, true, true, false, false] rfl rfl (any_of HT_.out (by kernel_rfl)) (fun _ _ _ h => h) ?_
     refine pj_ 14 3 #[true, true, true, true, true, true, true, true, true, true, true, true, true, true, true, false] rfl rfl (any_of HT_.out (by kernel_rfl)) (fun _ _ _ h => h) ?_
     refine pj_ 15 4 #[true, true, true, true, true, true, true, true, true, true, true, true, true, true, true, true] rfl rfl (any_of HT_.out (by kernel_rfl)) (fun _ _ _ h => h) ?_
     refine done_ (done_of HT_.out (by kernel_rfl)) ?_
     try go_wp2
     go_ret3
     exact ⟨_, rq ⟨pr HO262.out, bg1 HB.out GE246.out⟩⟩
   rw [if_pos c17] at H
   have c17b0 := decide_eq_true c17
   clear c17
   by_cases c18 : 0 ≤ t252
   rotate_left
   · rw [if_neg c18] at H
     exact absurd H (by simp)
   rw [if_pos c18] at H
   have c18b0 := decide_eq_true c18
   clear c18
   by_cases c19 : t252 < (l0_0.length : Int)
   rotate_left
   · rw [if_neg c19] at H
     exact absurd H (by simp)
   rw [if_pos c19] at H
   have c19b0 := decide_eq_true c19
   clear c19
   by_cases c20 : 0 ≤ x9_1
   rotate_left
   · rw [if_neg c20] at H
     exact absurd H (by simp)
   rw [if_pos c20] at H
   have c20b0 := decide_eq_true c20
   clear c20
   by_cases c21 : x9_1 < (((rd_T65 l0_0 t252).f0).length : Int)
   rotate_left
   · rw [if_neg c21] at H
     exact absurd H (by simp)
   rw [if_pos c21] at H
   have c21b0 := decide_eq_true c21
   clear c21
   replace H := Option.bind_eq_some_iff.mp H
   obtain ⟨t256, A220, H⟩ := H
   replace H : (if t256 = true then (if ((rd_T71 ((rd_T65 l0_0 t252).f0) x9_1).f1.f0) = 1 then (if x5_1.length < 2199023255552 then (spec_l12Room.l0 k1 (x5_1 ++ [(⟨1, (rd_T71 ((rd_T65 l0_0 t252).f0) x9_1).f1.f2, (rd_T71 ((rd_T65 l0_0 t252).f0) x9_1).f1.f3, 0, (⟨0, 0, 0, 0⟩ : S30)⟩ : S85)]) t252 (wrap64 (x9_1 + 1)) l0_0 l0_1) else (none)) else (spec_l12Room.l0 k1 x5_1 t252 (wrap64 (x9_1 + 1)) l0_0 l0_1)) else (spec_l12Room.l0 k1 x5_1 t252 (wrap64 (x9_1 + 1)) l0_0 l0_1)) = some (r1, r2, r3) := H
   have A22 := am A220
   clear A220
   by_cases c23 : t256 = true
   rotate_left
   · replace c23 := Bool.eq_false_iff.mpr c23
     subst c23
     have H1 : (spec_l12Room.l0 k1 x5_1 t252 (wrap64 (x9_1 + 1)) l0_0 l0_1) = some (r1, r2, r3) := by rw [if_neg (show ¬ (false = true) by decide)] at H; exact H
     clear H
     have H := H1
     clear H1
     have H' := am H
     clear H
     obtain ⟨hcz41_0, hcz41_1⟩ := b2 BK246.out
     obtain ⟨hfz41_0, hfz41_1⟩ := f2 BK246.out
     have p253 : 0 ≤ (t252 : Int) := ofb
     have q253 : t252 < (l0_0.length : Int) := ofb
     obtain ⟨ad253, A253_0, c253_0, e253, hx253_0, hx253_1, hl253_0, hi253_0⟩ := at_T65 HR0_0.out t252 p253 q253
     cases e253
     replace hx253_0 := up HB.out hx253_0
     replace hx253_1 := up HB.out hx253_1
     have HR253_0 := am hi253_0
     have HC253_0 := am hl253_0
     clear hi253_0 hl253_0
     replace p253 := eq_true p253
     replace q253 := eq_true q253
     have p254 : 0 ≤ (x9_1 : Int) := ofb
     have q254 : x9_1 < (((rd_T65 l0_0 t252).f0).length : Int) := ofb
     obtain ⟨ad254, e254, hx254_0, hx254_1, hx254_2, hx254_3, hx254_4⟩ := at_T71 HR253_0.out x9_1 p254 q254
     cases e254
     replace hx254_0 := up HB.out hx254_0
     replace hx254_1 := up HB.out hx254_1
     replace hx254_2 := up HB.out hx254_2
     replace hx254_3 := up HB.out hx254_3
     replace hx254_4 := up HB.out hx254_4
     replace p254 := eq_true p254
     replace q254 := eq_true q254
     go_wp2_with (first | (refine bx 10 #[.int .i64 0, .int .i64 0, .int .i64 0, .int .i64 0, .int .i64 0] 71 rfl ?_; intro gb255 hg w42 hbox hb; replace HO_5 := am (Kd.R_below (pr HO_5.out) hb); have BK255 := am (hbox); have GW255 := am ((by rw [hg]; exact (below_size (bg1 HB.out GE246.out)) : w.heap.size ≤ gb255)); have GE255 := GW255; replace HB := am (below_step (bg1 HB.out GE246.out) hb); have NB246_255 := am ((by rw [hg]; exact Nat.ne_of_lt (blk_lt (pb BK246.out)) : gb246 ≠ gb255)); have NB255_246 := am (Ne.symm NB246_255.out); replace BK246 := am (blk_below (pb BK246.out) hb); clear hb hbox hg; have hnb43 := NB255_246.out; have hnc43 := NB246_255.out; obtain ⟨hcz44_0, hcz44_1, hcz44_2, hcz44_3, hcz44_4⟩ := b5 BK255.out; obtain ⟨hfz44_0, hfz44_1, hfz44_2, hfz44_3, hfz44_4⟩ := f5 BK255.out; obtain ⟨hcz45_0, hcz45_1⟩ := b2 BK246.out; obtain ⟨hfz45_0, hfz45_1⟩ := f2 BK246.out) | (refine gl 40 Try.func100 #[.slice (some ad253) l0_0.length c0_0, .agg #[.int .i64 ((rd_T71 ((rd_T65 l0_0 t252).f0) x9_1).f0), .int .i64 ((rd_T71 ((rd_T65 l0_0 t252).f0) x9_1).f1.f0), .int .i64 ((rd_T71 ((rd_T65 l0_0 t252).f0) x9_1).f1.f1), .int .i64 ((rd_T71 ((rd_T65 l0_0 t252).f0) x9_1).f1.f2), .int .i64 ((rd_T71 ((rd_T65 l0_0 t252).f0) x9_1).f1.f3)]] rfl ?_; (with_reducible refine (spec_l3Live.calls k1 _ _ l0_0 ((rd_T71 ((rd_T65 l0_0 t252).f0) x9_1).f0) ((rd_T71 ((rd_T65 l0_0 t252).f0) x9_1).f1.f0) ((rd_T71 ((rd_T65 l0_0 t252).f0) x9_1).f1.f1) ((rd_T71 ((rd_T65 l0_0 t252).f0) x9_1).f1.f2) ((rd_T71 ((rd_T65 l0_0 t252).f0) x9_1).f1.f3) false _ ?side1 ?side2 A22.out).mono ?_); (case side1 => exact Kd.C_below HR0_0.out (bg2 HB.out GE246.out GE255.out)); (case side2 => exact HC0_0.out); rintro e w46 ⟨rfl, hb⟩; refine ⟨_, rfl, ?_⟩; replace HO_5 := am (Kd.R_below (by (with_reducible repeat (first | apply Kd.R_alloc | apply Kd.R_drewN | apply Kd.R_drew)); exact (Kd.R_mono (Kd.R_far (p := ⟨gb255, 4, none⟩) (Kd.R_far (p := ⟨gb255, 3, none⟩) (Kd.R_far (p := ⟨gb255, 2, none⟩) (Kd.R_far (p := ⟨gb255, 1, none⟩) (Kd.R_far (p := ⟨gb255, 0, none⟩) (Kd.R_types HO_5.out BK255.out (by decide)) (fun _ hk => hk.2) (.int .i64 ((rd_T71 ((rd_T65 l0_0 t252).f0) x9_1).f0))) (fun _ hk => hk.2) (.int .i64 ((rd_T71 ((rd_T65 l0_0 t252).f0) x9_1).f1.f0))) (fun _ hk => hk.2) (.int .i64 ((rd_T71 ((rd_T65 l0_0 t252).f0) x9_1).f1.f1))) (fun _ hk => hk.2) (.int .i64 ((rd_T71 ((rd_T65 l0_0 t252).f0) x9_1).f1.f2))) (fun _ hk => hk.2) (.int .i64 ((rd_T71 ((rd_T65 l0_0 t252).f0) x9_1).f1.f3))) (fun _ h_ => h_.1))) hb); replace BK246 := am (blk_below (g := gb246) (o := .cells #[.slice (some ad253) l0_0.length c0_0, .slice A0_1 l0_1.length c0_1] 41 (0, 0)) (by (with_reducible repeat (first | refine blk_drewN ?_ _ | refine blk_drew ?_ | refine blk_alloc ?_ _)); refine blk_far ?_ NB246_255.out _; (with_reducible repeat (first | refine blk_drewN ?_ _ | refine blk_drew ?_ | refine blk_alloc ?_ _)); refine blk_far ?_ NB246_255.out _; (with_reducible repeat (first | refine blk_drewN ?_ _ | refine blk_drew ?_ | refine blk_alloc ?_ _)); refine blk_far ?_ NB246_255.out _; (with_reducible repeat (first | refine blk_drewN ?_ _ | refine blk_drew ?_ | refine blk_alloc ?_ _)); refine blk_far ?_ NB246_255.out _; (with_reducible repeat (first | refine blk_drewN ?_ _ | refine blk_drew ?_ | refine blk_alloc ?_ _)); refine blk_far ?_ NB246_255.out _; (with_reducible repeat (first | refine blk_drewN ?_ _ | refine blk_drew ?_ | refine blk_alloc ?_ _)); exact BK246.out) hb); replace BK255 := am (blk_below (g := gb255) (o := .cells #[.int .i64 ((rd_T71 ((rd_T65 l0_0 t252).f0) x9_1).f0), .int .i64 ((rd_T71 ((rd_T65 l0_0 t252).f0) x9_1).f1.f0), .int .i64 ((rd_T71 ((rd_T65 l0_0 t252).f0) x9_1).f1.f1), .int .i64 ((rd_T71 ((rd_T65 l0_0 t252).f0) x9_1).f1.f2), .int .i64 ((rd_T71 ((rd_T65 l0_0 t252).f0) x9_1).f1.f3)] 71 (0, 0)) (by (with_reducible repeat (first | refine blk_drewN ?_ _ | refine blk_drew ?_ | refine blk_alloc ?_ _)); refine blk_put (cs := #[.int .i64 ((rd_T71 ((rd_T65 l0_0 t252).f0) x9_1).f0), .int .i64 ((rd_T71 ((rd_T65 l0_0 t252).f0) x9_1).f1.f0), .int .i64 ((rd_T71 ((rd_T65 l0_0 t252).f0) x9_1).f1.f1), .int .i64 ((rd_T71 ((rd_T65 l0_0 t252).f0) x9_1).f1.f2), .int .i64 0]) ?_ 4 _ rfl; (with_reducible repeat (first | refine blk_drewN ?_ _ | refine blk_drew ?_ | refine blk_alloc ?_ _)); refine blk_put (cs := #[.int .i64 ((rd_T71 ((rd_T65 l0_0 t252).f0) x9_1).f0), .int .i64 ((rd_T71 ((rd_T65 l0_0 t252).f0) x9_1).f1.f0), .int .i64 ((rd_T71 ((rd_T65 l0_0 t252).f0) x9_1).f1.f1), .int .i64 0, .int .i64 0]) ?_ 3 _ rfl; (with_reducible repeat (first | refine blk_drewN ?_ _ | refine blk_drew ?_ | refine blk_alloc ?_ _)); refine blk_put (cs := #[.int .i64 ((rd_T71 ((rd_T65 l0_0 t252).f0) x9_1).f0), .int .i64 ((rd_T71 ((rd_T65 l0_0 t252).f0) x9_1).f1.f0), .int .i64 0, .int .i64 0, .int .i64 0]) ?_ 2 _ rfl; (with_reducible repeat (first | refine blk_drewN ?_ _ | refine blk_drew ?_ | refine blk_alloc ?_ _)); refine blk_put (cs := #[.int .i64 ((rd_T71 ((rd_T65 l0_0 t252).f0) x9_1).f0), .int .i64 0, .int .i64 0, .int .i64 0, .int .i64 0]) ?_ 1 _ rfl; (with_reducible repeat (first | refine blk_drewN ?_ _ | refine blk_drew ?_ | refine blk_alloc ?_ _)); refine blk_put (cs := #[.int .i64 0, .int .i64 0, .int .i64 0, .int .i64 0, .int .i64 0]) ?_ 0 _ rfl; (with_reducible repeat (first | refine blk_drewN ?_ _ | refine blk_drew ?_ | refine blk_alloc ?_ _)); exact BK255.out) hb); replace HB := am (below_step (bg2 HB.out GE246.out GE255.out) hb); (try clear hb); (try clear hb2); (try clear hk); (try clear hi)))
     go_roundg k1
     case measure => have := HK1.out; omega
     case rel => exact ⟨(x5_1), (wrap64 (x9_1 + 1)), rf, H', ⟨by have := HK1.out; omega⟩, ⟨pr HO_5.out⟩, ⟨pb BK246.out⟩, ⟨bg2 HB.out GE246.out GE255.out⟩⟩
   subst c23
   have H1 : (if ((rd_T71 ((rd_T65 l0_0 t252).f0) x9_1).f1.f0) = 1 then (if x5_1.length < 2199023255552 then (spec_l12Room.l0 k1 (x5_1 ++ [(⟨1, (rd_T71 ((rd_T65 l0_0 t252).f0) x9_1).f1.f2, (rd_T71 ((rd_T65 l0_0 t252).f0) x9_1).f1.f3, 0, (⟨0, 0, 0, 0⟩ : S30)⟩ : S85)]) t252 (wrap64 (x9_1 + 1)) l0_0 l0_1) else (none)) else (spec_l12Room.l0 k1 x5_1 t252 (wrap64 (x9_1 + 1)) l0_0 l0_1)) = some (r1, r2, r3) := by rw [if_pos rfl] at H; exact H
   clear H
   have H := H1
   clear H1
   by_cases c24 : ((rd_T71 ((rd_T65 l0_0 t252).f0) x9_1).f1.f0) = 1
   rotate_left
   · rw [if_neg c24] at H
     have c24b0 : (((rd_T71 ((rd_T65 l0_0 t252).f0) x9_1).f1.f0) == 1) = false := beq_eq_false_iff_ne.mpr c24
     have c24b1 : (((rd_T71 ((rd_T65 l0_0 t252).f0) x9_1).f1.f0) != 1) = true := bne_iff_ne.mpr c24
     have H' := am H
     clear H
     obtain ⟨hcz34_0, hcz34_1⟩ := b2 BK246.out
     obtain ⟨hfz34_0, hfz34_1⟩ := f2 BK246.out
     have p253 : 0 ≤ (t252 : Int) := ofb
     have q253 : t252 < (l0_0.length : Int) := ofb
     obtain ⟨ad253, A253_0, c253_0, e253, hx253_0, hx253_1, hl253_0, hi253_0⟩ := at_T65 HR0_0.out t252 p253 q253
     cases e253
     replace hx253_0 := up HB.out hx253_0
     replace hx253_1 := up HB.out hx253_1
     have HR253_0 := am hi253_0
     have HC253_0 := am hl253_0
     clear hi253_0 hl253_0
     replace p253 := eq_true p253
     replace q253 := eq_true q253
     have p254 : 0 ≤ (x9_1 : Int) := ofb
     have q254 : x9_1 < (((rd_T65 l0_0 t252).f0).length : Int) := ofb
     obtain ⟨ad254, e254, hx254_0, hx254_1, hx254_2, hx254_3, hx254_4⟩ := at_T71 HR253_0.out x9_1 p254 q254
     cases e254
     replace hx254_0 := up HB.out hx254_0
     replace hx254_1 := up HB.out hx254_1
     replace hx254_2 := up HB.out hx254_2
     replace hx254_3 := up HB.out hx254_3
     replace hx254_4 := up HB.out hx254_4
     replace p254 := eq_true p254
     replace q254 := eq_true q254
     go_wp2_with (first | (refine bx 10 #[.int .i64 0, .int .i64 0, .int .i64 0, .int .i64 0, .int .i64 0] 71 rfl ?_; intro gb255 hg w35 hbox hb; replace HO_5 := am (Kd.R_below (pr HO_5.out) hb); have BK255 := am (hbox); have GW255 := am ((by rw [hg]; exact (below_size (bg1 HB.out GE246.out)) : w.heap.size ≤ gb255)); have GE255 := GW255; replace HB := am (below_step (bg1 HB.out GE246.out) hb); have NB246_255 := am ((by rw [hg]; exact Nat.ne_of_lt (blk_lt (pb BK246.out)) : gb246 ≠ gb255)); have NB255_246 := am (Ne.symm NB246_255.out); replace BK246 := am (blk_below (pb BK246.out) hb); clear hb hbox hg; have hnb36 := NB255_246.out; have hnc36 := NB246_255.out; obtain ⟨hcz37_0, hcz37_1, hcz37_2, hcz37_3, hcz37_4⟩ := b5 BK255.out; obtain ⟨hfz37_0, hfz37_1, hfz37_2, hfz37_3, hfz37_4⟩ := f5 BK255.out; obtain ⟨hcz38_0, hcz38_1⟩ := b2 BK246.out; obtain ⟨hfz38_0, hfz38_1⟩ := f2 BK246.out) | (refine gl 40 Try.func100 #[.slice (some ad253) l0_0.length c0_0, .agg #[.int .i64 ((rd_T71 ((rd_T65 l0_0 t252).f0) x9_1).f0), .int .i64 ((rd_T71 ((rd_T65 l0_0 t252).f0) x9_1).f1.f0), .int .i64 ((rd_T71 ((rd_T65 l0_0 t252).f0) x9_1).f1.f1), .int .i64 ((rd_T71 ((rd_T65 l0_0 t252).f0) x9_1).f1.f2), .int .i64 ((rd_T71 ((rd_T65 l0_0 t252).f0) x9_1).f1.f3)]] rfl ?_; (with_reducible refine (spec_l3Live.calls k1 _ _ l0_0 ((rd_T71 ((rd_T65 l0_0 t252).f0) x9_1).f0) ((rd_T71 ((rd_T65 l0_0 t252).f0) x9_1).f1.f0) ((rd_T71 ((rd_T65 l0_0 t252).f0) x9_1).f1.f1) ((rd_T71 ((rd_T65 l0_0 t252).f0) x9_1).f1.f2) ((rd_T71 ((rd_T65 l0_0 t252).f0) x9_1).f1.f3) true _ ?side1 ?side2 A22.out).mono ?_); (case side1 => exact Kd.C_below HR0_0.out (bg2 HB.out GE246.out GE255.out)); (case side2 => exact HC0_0.out); rintro e w39 ⟨rfl, hb⟩; refine ⟨_, rfl, ?_⟩; replace HO_5 := am (Kd.R_below (by (with_reducible repeat (first | apply Kd.R_alloc | apply Kd.R_drewN | apply Kd.R_drew)); exact (Kd.R_mono (Kd.R_far (p := ⟨gb255, 4, none⟩) (Kd.R_far (p := ⟨gb255, 3, none⟩) (Kd.R_far (p := ⟨gb255, 2, none⟩) (Kd.R_far (p := ⟨gb255, 1, none⟩) (Kd.R_far (p := ⟨gb255, 0, none⟩) (Kd.R_types HO_5.out BK255.out (by decide)) (fun _ hk => hk.2) (.int .i64 ((rd_T71 ((rd_T65 l0_0 t252).f0) x9_1).f0))) (fun _ hk => hk.2) (.int .i64 ((rd_T71 ((rd_T65 l0_0 t252).f0) x9_1).f1.f0))) (fun _ hk => hk.2) (.int .i64 ((rd_T71 ((rd_T65 l0_0 t252).f0) x9_1).f1.f1))) (fun _ hk => hk.2) (.int .i64 ((rd_T71 ((rd_T65 l0_0 t252).f0) x9_1).f1.f2))) (fun _ hk => hk.2) (.int .i64 ((rd_T71 ((rd_T65 l0_0 t252).f0) x9_1).f1.f3))) (fun _ h_ => h_.1))) hb); replace BK246 := am (blk_below (g := gb246) (o := .cells #[.slice (some ad253) l0_0.length c0_0, .slice A0_1 l0_1.length c0_1] 41 (0, 0)) (by (with_reducible repeat (first | refine blk_drewN ?_ _ | refine blk_drew ?_ | refine blk_alloc ?_ _)); refine blk_far ?_ NB246_255.out _; (with_reducible repeat (first | refine blk_drewN ?_ _ | refine blk_drew ?_ | refine blk_alloc ?_ _)); refine blk_far ?_ NB246_255.out _; (with_reducible repeat (first | refine blk_drewN ?_ _ | refine blk_drew ?_ | refine blk_alloc ?_ _)); refine blk_far ?_ NB246_255.out _; (with_reducible repeat (first | refine blk_drewN ?_ _ | refine blk_drew ?_ | refine blk_alloc ?_ _)); refine blk_far ?_ NB246_255.out _; (with_reducible repeat (first | refine blk_drewN ?_ _ | refine blk_drew ?_ | refine blk_alloc ?_ _)); refine blk_far ?_ NB246_255.out _; (with_reducible repeat (first | refine blk_drewN ?_ _ | refine blk_drew ?_ | refine blk_alloc ?_ _)); exact BK246.out) hb); replace BK255 := am (blk_below (g := gb255) (o := .cells #[.int .i64 ((rd_T71 ((rd_T65 l0_0 t252).f0) x9_1).f0), .int .i64 ((rd_T71 ((rd_T65 l0_0 t252).f0) x9_1).f1.f0), .int .i64 ((rd_T71 ((rd_T65 l0_0 t252).f0) x9_1).f1.f1), .int .i64 ((rd_T71 ((rd_T65 l0_0 t252).f0) x9_1).f1.f2), .int .i64 ((rd_T71 ((rd_T65 l0_0 t252).f0) x9_1).f1.f3)] 71 (0, 0)) (by (with_reducible repeat (first | refine blk_drewN ?_ _ | refine blk_drew ?_ | refine blk_alloc ?_ _)); refine blk_put (cs := #[.int .i64 ((rd_T71 ((rd_T65 l0_0 t252).f0) x9_1).f0), .int .i64 ((rd_T71 ((rd_T65 l0_0 t252).f0) x9_1).f1.f0), .int .i64 ((rd_T71 ((rd_T65 l0_0 t252).f0) x9_1).f1.f1), .int .i64 ((rd_T71 ((rd_T65 l0_0 t252).f0) x9_1).f1.f2), .int .i64 0]) ?_ 4 _ rfl; (with_reducible repeat (first | refine blk_drewN ?_ _ | refine blk_drew ?_ | refine blk_alloc ?_ _)); refine blk_put (cs := #[.int .i64 ((rd_T71 ((rd_T65 l0_0 t252).f0) x9_1).f0), .int .i64 ((rd_T71 ((rd_T65 l0_0 t252).f0) x9_1).f1.f0), .int .i64 ((rd_T71 ((rd_T65 l0_0 t252).f0) x9_1).f1.f1), .int .i64 0, .int .i64 0]) ?_ 3 _ rfl; (with_reducible repeat (first | refine blk_drewN ?_ _ | refine blk_drew ?_ | refine blk_alloc ?_ _)); refine blk_put (cs := #[.int .i64 ((rd_T71 ((rd_T65 l0_0 t252).f0) x9_1).f0), .int .i64 ((rd_T71 ((rd_T65 l0_0 t252).f0) x9_1).f1.f0), .int .i64 0, .int .i64 0, .int .i64 0]) ?_ 2 _ rfl; (with_reducible repeat (first | refine blk_drewN ?_ _ | refine blk_drew ?_ | refine blk_alloc ?_ _)); refine blk_put (cs := #[.int .i64 ((rd_T71 ((rd_T65 l0_0 t252).f0) x9_1).f0), .int .i64 0, .int .i64 0, .int .i64 0, .int .i64 0]) ?_ 1 _ rfl; (with_reducible repeat (first | refine blk_drewN ?_ _ | refine blk_drew ?_ | refine blk_alloc ?_ _)); refine blk_put (cs := #[.int .i64 0, .int .i64 0, .int .i64 0, .int .i64 0, .int .i64 0]) ?_ 0 _ rfl; (with_reducible repeat (first | refine blk_drewN ?_ _ | refine blk_drew ?_ | refine blk_alloc ?_ _)); exact BK255.out) hb); replace HB := am (below_step (bg2 HB.out GE246.out GE255.out) hb); (try clear hb); (try clear hb2); (try clear hk); (try clear hi); have hcz40_0 : w39.cell? ⟨gb255, 0, none⟩ = some (.int .i64 ((rd_T71 ((rd_T65 l0_0 t252).f0) x9_1).f0)) := (blk_cell BK255.out 0).trans rfl; have hcz40_1 : w39.cell? ⟨gb255, 1, none⟩ = some (.int .i64 ((rd_T71 ((rd_T65 l0_0 t252).f0) x9_1).f1.f0)) := (blk_cell BK255.out 1).trans rfl; have hcz40_2 : w39.cell? ⟨gb255, 2, none⟩ = some (.int .i64 ((rd_T71 ((rd_T65 l0_0 t252).f0) x9_1).f1.f1)) := (blk_cell BK255.out 2).trans rfl; have hcz40_3 : w39.cell? ⟨gb255, 3, none⟩ = some (.int .i64 ((rd_T71 ((rd_T65 l0_0 t252).f0) x9_1).f1.f2)) := (blk_cell BK255.out 3).trans rfl; have hcz40_4 : w39.cell? ⟨gb255, 4, none⟩ = some (.int .i64 ((rd_T71 ((rd_T65 l0_0 t252).f0) x9_1).f1.f3)) := (blk_cell BK255.out 4).trans rfl; obtain ⟨hfz40_0, hfz40_1, hfz40_2, hfz40_3, hfz40_4⟩ := f5 BK255.out))
     go_roundg k1
     case measure => have := HK1.out; omega
     case rel => exact ⟨(x5_1), (wrap64 (x9_1 + 1)), rf, H', ⟨by have := HK1.out; omega⟩, ⟨pr HO_5.out⟩, ⟨pb BK246.out⟩, ⟨bg2 HB.out GE246.out GE255.out⟩⟩
   rw [if_pos c24] at H
   have c24b0 : (((rd_T71 ((rd_T65 l0_0 t252).f0) x9_1).f1.f0) == 1) = true := beq_iff_eq.mpr c24
   have c24b1 : (((rd_T71 ((rd_T65 l0_0 t252).f0) x9_1).f1.f0) != 1) = false := bne_eq_false_iff_eq.mpr c24
   clear c24
   by_cases c25 : x5_1.length < 2199023255552
   rotate_left
   · rw [if_neg c25] at H
     exact absurd H (by simp)
   rw [if_pos c25] at H
   have LMc25 := am c25
   clear c25
   obtain ⟨y257, hy257⟩ : ∃ y_ : List (S85), y_ = (x5_1 ++ [(⟨1, (rd_T71 ((rd_T65 l0_0 t252).f0) x9_1).f1.f2, (rd_T71 ((rd_T65 l0_0 t252).f0) x9_1).f1.f3, 0, (⟨0, 0, 0, 0⟩ : S30)⟩ : S85)]) := ⟨_, rfl⟩
   replace H : (spec_l12Room.l0 k1 y257 t252 (wrap64 (x9_1 + 1)) l0_0 l0_1) = some (r1, r2, r3) := by first | (rw [hy257]; with_reducible exact H) | (have H2_ := (Option.bind_some _ _).symm.trans H; rw [hy257]; with_reducible exact H2_) | (have H2_ := (Option.bind_some _ _).symm.trans H; with_reducible exact H2_) | with_reducible exact H | (rw [hy257]; exact H) | exact H
   have Ny257 := am hy257
   clear hy257
   have H' := am H
   clear H
   obtain ⟨hcz26_0, hcz26_1⟩ := b2 BK246.out
   obtain ⟨hfz26_0, hfz26_1⟩ := f2 BK246.out
   have p253 : 0 ≤ (t252 : Int) := ofb
   have q253 : t252 < (l0_0.length : Int) := ofb
   obtain ⟨ad253, A253_0, c253_0, e253, hx253_0, hx253_1, hl253_0, hi253_0⟩ := at_T65 HR0_0.out t252 p253 q253
   cases e253
   replace hx253_0 := up HB.out hx253_0
   replace hx253_1 := up HB.out hx253_1
   have HR253_0 := am hi253_0
   have HC253_0 := am hl253_0
   clear hi253_0 hl253_0
   replace p253 := eq_true p253
   replace q253 := eq_true q253
   have p254 : 0 ≤ (x9_1 : Int) := ofb
   have q254 : x9_1 < (((rd_T65 l0_0 t252).f0).length : Int) := ofb
   obtain ⟨ad254, e254, hx254_0, hx254_1, hx254_2, hx254_3, hx254_4⟩ := at_T71 HR253_0.out x9_1 p254 q254
   cases e254
   replace hx254_0 := up HB.out hx254_0
   replace hx254_1 := up HB.out hx254_1
   replace hx254_2 := up HB.out hx254_2
   replace hx254_3 := up HB.out hx254_3
   replace hx254_4 := up HB.out hx254_4
   replace p254 := eq_true p254
   replace q254 := eq_true q254
   go_wp2_with (first | (refine bx 10 #[.int .i64 0, .int .i64 0, .int .i64 0, .int .i64 0, .int .i64 0] 71 rfl ?_; intro gb255 hg w27 hbox hb; replace HO_5 := am (Kd.R_below (pr HO_5.out) hb); have BK255 := am (hbox); have GW255 := am ((by rw [hg]; exact (below_size (bg1 HB.out GE246.out)) : w.heap.size ≤ gb255)); have GE255 := GW255; replace HB := am (below_step (bg1 HB.out GE246.out) hb); have NB246_255 := am ((by rw [hg]; exact Nat.ne_of_lt (blk_lt (pb BK246.out)) : gb246 ≠ gb255)); have NB255_246 := am (Ne.symm NB246_255.out); replace BK246 := am (blk_below (pb BK246.out) hb); clear hb hbox hg; have hnb28 := NB255_246.out; have hnc28 := NB246_255.out; obtain ⟨hcz29_0, hcz29_1, hcz29_2, hcz29_3, hcz29_4⟩ := b5 BK255.out; obtain ⟨hfz29_0, hfz29_1, hfz29_2, hfz29_3, hfz29_4⟩ := f5 BK255.out; obtain ⟨hcz30_0, hcz30_1⟩ := b2 BK246.out; obtain ⟨hfz30_0, hfz30_1⟩ := f2 BK246.out) | (refine gl 40 Try.func100 #[.slice (some ad253) l0_0.length c0_0, .agg #[.int .i64 ((rd_T71 ((rd_T65 l0_0 t252).f0) x9_1).f0), .int .i64 ((rd_T71 ((rd_T65 l0_0 t252).f0) x9_1).f1.f0), .int .i64 ((rd_T71 ((rd_T65 l0_0 t252).f0) x9_1).f1.f1), .int .i64 ((rd_T71 ((rd_T65 l0_0 t252).f0) x9_1).f1.f2), .int .i64 ((rd_T71 ((rd_T65 l0_0 t252).f0) x9_1).f1.f3)]] rfl ?_; (with_reducible refine (spec_l3Live.calls k1 _ _ l0_0 ((rd_T71 ((rd_T65 l0_0 t252).f0) x9_1).f0) ((rd_T71 ((rd_T65 l0_0 t252).f0) x9_1).f1.f0) ((rd_T71 ((rd_T65 l0_0 t252).f0) x9_1).f1.f1) ((rd_T71 ((rd_T65 l0_0 t252).f0) x9_1).f1.f2) ((rd_T71 ((rd_T65 l0_0 t252).f0) x9_1).f1.f3) true _ ?side1 ?side2 A22.out).mono ?_); (case side1 => exact Kd.C_below HR0_0.out (bg2 HB.out GE246.out GE255.out)); (case side2 => exact HC0_0.out); rintro e w31 ⟨rfl, hb⟩; refine ⟨_, rfl, ?_⟩; replace HO_5 := am (Kd.R_below (by (with_reducible repeat (first | apply Kd.R_alloc | apply Kd.R_drewN | apply Kd.R_drew)); exact (Kd.R_mono (Kd.R_far (p := ⟨gb255, 4, none⟩) (Kd.R_far (p := ⟨gb255, 3, none⟩) (Kd.R_far (p := ⟨gb255, 2, none⟩) (Kd.R_far (p := ⟨gb255, 1, none⟩) (Kd.R_far (p := ⟨gb255, 0, none⟩) (Kd.R_types HO_5.out BK255.out (by decide)) (fun _ hk => hk.2) (.int .i64 ((rd_T71 ((rd_T65 l0_0 t252).f0) x9_1).f0))) (fun _ hk => hk.2) (.int .i64 ((rd_T71 ((rd_T65 l0_0 t252).f0) x9_1).f1.f0))) (fun _ hk => hk.2) (.int .i64 ((rd_T71 ((rd_T65 l0_0 t252).f0) x9_1).f1.f1))) (fun _ hk => hk.2) (.int .i64 ((rd_T71 ((rd_T65 l0_0 t252).f0) x9_1).f1.f2))) (fun _ hk => hk.2) (.int .i64 ((rd_T71 ((rd_T65 l0_0 t252).f0) x9_1).f1.f3))) (fun _ h_ => h_.1))) hb); replace BK246 := am (blk_below (g := gb246) (o := .cells #[.slice (some ad253) l0_0.length c0_0, .slice A0_1 l0_1.length c0_1] 41 (0, 0)) (by (with_reducible repeat (first | refine blk_drewN ?_ _ | refine blk_drew ?_ | refine blk_alloc ?_ _)); refine blk_far ?_ NB246_255.out _; (with_reducible repeat (first | refine blk_drewN ?_ _ | refine blk_drew ?_ | refine blk_alloc ?_ _)); refine blk_far ?_ NB246_255.out _; (with_reducible repeat (first | refine blk_drewN ?_ _ | refine blk_drew ?_ | refine blk_alloc ?_ _)); refine blk_far ?_ NB246_255.out _; (with_reducible repeat (first | refine blk_drewN ?_ _ | refine blk_drew ?_ | refine blk_alloc ?_ _)); refine blk_far ?_ NB246_255.out _; (with_reducible repeat (first | refine blk_drewN ?_ _ | refine blk_drew ?_ | refine blk_alloc ?_ _)); refine blk_far ?_ NB246_255.out _; (with_reducible repeat (first | refine blk_drewN ?_ _ | refine blk_drew ?_ | refine blk_alloc ?_ _)); exact BK246.out) hb); replace BK255 := am (blk_below (g := gb255) (o := .cells #[.int .i64 ((rd_T71 ((rd_T65 l0_0 t252).f0) x9_1).f0), .int .i64 ((rd_T71 ((rd_T65 l0_0 t252).f0) x9_1).f1.f0), .int .i64 ((rd_T71 ((rd_T65 l0_0 t252).f0) x9_1).f1.f1), .int .i64 ((rd_T71 ((rd_T65 l0_0 t252).f0) x9_1).f1.f2), .int .i64 ((rd_T71 ((rd_T65 l0_0 t252).f0) x9_1).f1.f3)] 71 (0, 0)) (by (with_reducible repeat (first | refine blk_drewN ?_ _ | refine blk_drew ?_ | refine blk_alloc ?_ _)); refine blk_put (cs := #[.int .i64 ((rd_T71 ((rd_T65 l0_0 t252).f0) x9_1).f0), .int .i64 ((rd_T71 ((rd_T65 l0_0 t252).f0) x9_1).f1.f0), .int .i64 ((rd_T71 ((rd_T65 l0_0 t252).f0) x9_1).f1.f1), .int .i64 ((rd_T71 ((rd_T65 l0_0 t252).f0) x9_1).f1.f2), .int .i64 0]) ?_ 4 _ rfl; (with_reducible repeat (first | refine blk_drewN ?_ _ | refine blk_drew ?_ | refine blk_alloc ?_ _)); refine blk_put (cs := #[.int .i64 ((rd_T71 ((rd_T65 l0_0 t252).f0) x9_1).f0), .int .i64 ((rd_T71 ((rd_T65 l0_0 t252).f0) x9_1).f1.f0), .int .i64 ((rd_T71 ((rd_T65 l0_0 t252).f0) x9_1).f1.f1), .int .i64 0, .int .i64 0]) ?_ 3 _ rfl; (with_reducible repeat (first | refine blk_drewN ?_ _ | refine blk_drew ?_ | refine blk_alloc ?_ _)); refine blk_put (cs := #[.int .i64 ((rd_T71 ((rd_T65 l0_0 t252).f0) x9_1).f0), .int .i64 ((rd_T71 ((rd_T65 l0_0 t252).f0) x9_1).f1.f0), .int .i64 0, .int .i64 0, .int .i64 0]) ?_ 2 _ rfl; (with_reducible repeat (first | refine blk_drewN ?_ _ | refine blk_drew ?_ | refine blk_alloc ?_ _)); refine blk_put (cs := #[.int .i64 ((rd_T71 ((rd_T65 l0_0 t252).f0) x9_1).f0), .int .i64 0, .int .i64 0, .int .i64 0, .int .i64 0]) ?_ 1 _ rfl; (with_reducible repeat (first | refine blk_drewN ?_ _ | refine blk_drew ?_ | refine blk_alloc ?_ _)); refine blk_put (cs := #[.int .i64 0, .int .i64 0, .int .i64 0, .int .i64 0, .int .i64 0]) ?_ 0 _ rfl; (with_reducible repeat (first | refine blk_drewN ?_ _ | refine blk_drew ?_ | refine blk_alloc ?_ _)); exact BK255.out) hb); replace HB := am (below_step (bg2 HB.out GE246.out GE255.out) hb); (try clear hb); (try clear hb2); (try clear hk); (try clear hi); have hcz32_0 : w31.cell? ⟨gb255, 0, none⟩ = some (.int .i64 ((rd_T71 ((rd_T65 l0_0 t252).f0) x9_1).f0)) := (blk_cell BK255.out 0).trans rfl; have hcz32_1 : w31.cell? ⟨gb255, 1, none⟩ = some (.int .i64 ((rd_T71 ((rd_T65 l0_0 t252).f0) x9_1).f1.f0)) := (blk_cell BK255.out 1).trans rfl; have hcz32_2 : w31.cell? ⟨gb255, 2, none⟩ = some (.int .i64 ((rd_T71 ((rd_T65 l0_0 t252).f0) x9_1).f1.f1)) := (blk_cell BK255.out 2).trans rfl; have hcz32_3 : w31.cell? ⟨gb255, 3, none⟩ = some (.int .i64 ((rd_T71 ((rd_T65 l0_0 t252).f0) x9_1).f1.f2)) := (blk_cell BK255.out 3).trans rfl; have hcz32_4 : w31.cell? ⟨gb255, 4, none⟩ = some (.int .i64 ((rd_T71 ((rd_T65 l0_0 t252).f0) x9_1).f1.f3)) := (blk_cell BK255.out 4).trans rfl; obtain ⟨hfz32_0, hfz32_1, hfz32_2, hfz32_3, hfz32_4⟩ := f5 BK255.out) | ((with_reducible refine gate_builtin (b := .append) (xs := #[.tmp 47, .tmp 55]) rfl ?_); at_builtin; refine Kd.R_append k85 (w0 := w) w.heap.size rfl (.tmp 47) (.tmp 55) 48 85 (.agg #[(.int .i64 0), (.int .i64 0), (.int .i64 0), (.int .i64 0), (.int .i64 0), (.int .i64 0), (.int .i64 0), (.int .i64 0)]) 64 rfl Try.underlying48 info85 rfl (by decide) (by omega) u5 x5_1 (⟨1, (rd_T71 ((rd_T65 l0_0 t252).f0) x9_1).f1.f2, (rd_T71 ((rd_T65 l0_0 t252).f0) x9_1).f1.f3, 0, (⟨0, 0, 0, 0⟩ : S30)⟩ : S85) [.int .i64 1, .int .i64 ((rd_T71 ((rd_T65 l0_0 t252).f0) x9_1).f1.f2), .int .i64 ((rd_T71 ((rd_T65 l0_0 t252).f0) x9_1).f1.f3), .int .i64 0, .int .i64 0, .int .i64 0, .int .i64 0, .int .i64 0] (fun _ => True) (fun _ => False) rfl rfl ?aP (fun _ hk => hk.elim) ?aF ?aO ?aB ?aS ?aL ?_; (case aP => exact k85_mkM _ _ _ (⟨1, (rd_T71 ((rd_T65 l0_0 t252).f0) x9_1).f1.f2, (rd_T71 ((rd_T65 l0_0 t252).f0) x9_1).f1.f3, 0, (⟨0, 0, 0, 0⟩ : S30)⟩ : S85)); (case aB => exact (bg2 HB.out GE246.out GE255.out)); (case aF => exact (fun _ _ => trivial)); (case aO => exact (pr HO_5.out)); (case aS => exact (below_size (bg2 HB.out GE246.out GE255.out))); (case aL => have := LMc25.out; omega); intro v258 w33 ho hb hg hat; rw [← Ny257.out] at ho; replace BK246 := am (blk_grown (g := gb246) (o := .cells #[.slice (some ad253) l0_0.length c0_0, .slice A0_1 l0_1.length c0_1] 41 (0, 0)) (pb BK246.out) hg (Kd.R_ne HO_5.out BK246.out (by decide))); replace BK255 := am (blk_grown (g := gb255) (o := .cells #[.int .i64 ((rd_T71 ((rd_T65 l0_0 t252).f0) x9_1).f0), .int .i64 ((rd_T71 ((rd_T65 l0_0 t252).f0) x9_1).f1.f0), .int .i64 ((rd_T71 ((rd_T65 l0_0 t252).f0) x9_1).f1.f1), .int .i64 ((rd_T71 ((rd_T65 l0_0 t252).f0) x9_1).f1.f2), .int .i64 ((rd_T71 ((rd_T65 l0_0 t252).f0) x9_1).f1.f3)] 71 (0, 0)) (pb BK255.out) hg (Kd.R_ne HO_5.out BK255.out (by decide))); replace HB := am (hb); have HO259 := am (ho); clear HO_5; clear ho hb hg hat))
   go_roundg k1
   case measure => have := HK1.out; omega
   case rel => exact ⟨(y257), (wrap64 (x9_1 + 1)), rf, H', ⟨by have := HK1.out; omega⟩, ⟨pr HO259.out⟩, ⟨pb BK246.out⟩, ⟨bg2 HB.out GE246.out GE255.out⟩⟩
end Go.Proofs.Ytoedphbikgoapaa.Rd
