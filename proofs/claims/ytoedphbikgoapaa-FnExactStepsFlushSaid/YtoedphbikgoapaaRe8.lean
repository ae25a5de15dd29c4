-- printed by wip/pp/pp.py
import Derived.Test.YtoedphbikgoapaaRe0
import Derived.Test.YtoedphbikgoapaaRe5
import Derived.Test.YtoedphbikgoapaaRe7
namespace Go.Proofs.Ytoedphbikgoapaa.Re
open Go.RowKit Go.Proofs.YtoedphbikgoapaaW.PrintWords Go.Proofs.YtoedphbikgoapaaW.PrintLast Go.Proofs.YtoedphbikgoapaaW.PrintMore
attribute [local go_sem] max2_int min2_int max_two min_two max_three min_three max_four min_four
set_option linter.unusedVariables false
set_option linter.unusedSimpArgs false
attribute [local go_sem high] eqA30
def spec_l3Old.l0 : Nat → List (S65) → Int → Int → Option (Int)
 | 0, _, _, _ => none
 | k + 1, x0, x3, x4 => if x4 < (x0.length : Int) then (if 0 ≤ x4 then ((spec_l3Most.f k ((rd_T65 x0 x4).f0) ((rd_T65 x0 x4).f1)).bind fun t251 => (if 0 ≤ x3 then (if x3 < (x0.length : Int) then ((spec_l3Most.f k ((rd_T65 x0 x3).f0) ((rd_T65 x0 x3).f1)).bind fun t253 => (if t251 < t253 then (spec_l3Old.l0 k x0 x4 (wrap64 (x4 + 1))) else (spec_l3Old.l0 k x0 x3 (wrap64 (x4 + 1))))) else (none)) else (none))) else (none)) else (some x3)
def spec_l3Old.f (k : Nat) (l0 : List (S65)) : Option (Int) := spec_l3Old.l0 k l0 0 1
theorem spec_l3Old.mono_l : ∀ k, (∀ y0 y1 y2, LeO (spec_l3Old.l0 k y0 y1 y2) (spec_l3Old.l0 (k + 1) y0 y1 y2))
 | 0 => fun _ _ _ r h => by simp [spec_l3Old.l0] at h
 | k + 1 => by
  have ih0 := spec_l3Old.mono_l k
  · intro y0 y1 y2
    unfold spec_l3Old.l0
    repeat' first
    | (with_reducible exact ih0 _ _ _)
    | (with_reducible exact spec_l3Most.mono _ _ _)
    | (with_reducible exact LeO.refl _)
    | (with_reducible exact LeO.none _)
    | (with_reducible refine LeO.ite ?_ ?_)
    | (with_reducible refine LeO.bind ?_ (fun _ => ?_))
    | exact ih0 _ _ _
    | exact spec_l3Most.mono _ _ _
    | exact LeO.none _
    | refine LeO.ite ?_ ?_
    | refine LeO.bind ?_ (fun _ => ?_)
theorem spec_l3Old.mono : ∀ a0 k, LeO (spec_l3Old.f k a0) (spec_l3Old.f (k + 1) a0) := by
 intro a0 k
 have ih0 := spec_l3Old.mono_l k
 unfold spec_l3Old.f
 repeat' first
  | (with_reducible exact ih0 _ _ _)
  | (with_reducible exact spec_l3Most.mono _ _ _)
  | (with_reducible exact LeO.refl _)
  | (with_reducible exact LeO.none _)
  | (with_reducible refine LeO.ite ?_ ?_)
  | (with_reducible refine LeO.bind ?_ (fun _ => ?_))
  | exact ih0 _ _ _
  | exact spec_l3Most.mono _ _ _
  | exact LeO.none _
  | refine LeO.ite ?_ ?_
  | refine LeO.bind ?_ (fun _ => ?_)
def spec_l3Old.T5 : Bool × List (List Nat × List Nat) := (true, [([], []), ([], []), ([0, 1], [0, 1]), ([2], [2]), ([3], [3]), ([], []), ([], []), ([5, 6], [5, 6]), ([7], [7]), ([8, 4], [8]), ([4, 9], [4, 9])])
def spec_l3Old.B5 : List Nat := [0, 0, 3, 7, 15, 0, 0, 96, 224, 511, 1023]
theorem spec_l3Old.tab5 : rtab .any (opsOf Try.f99 5) = spec_l3Old.T5 := by kernel_rfl
theorem spec_l3Old.bits5 : waitsOk spec_l3Old.T5.2 spec_l3Old.B5 = true := by kernel_rfl
set_option maxHeartbeats 8000000 in
set_option maxRecDepth 100000 in
theorem spec_l3Old.calls (k : Nat) (A0 : Option Addr) (c0 : Nat) (l0 : List (S65)) (r : Int) (w : World) (hr0 : Kd.C k65 w A0 l0.length l0) (hc0 : l0.length ≤ c0) (h : spec_l3Old.f k l0 = some r) :
 Calls Try.prog 99 #[.slice A0 l0.length c0] w fun e w' => e = .returned (.int .i64 r) ∧ Below w.heap.size w w' := by
 have hu65 := Try.underlying65
 have HR0 := am hr0
 have HC0 := am hc0
 clear hr0 hc0
 have HB := am (Below.refl w.heap.size w)
 have H : (spec_l3Old.l0 k l0 0 1) = some r := h
 clear h
 have H' := am H
 clear H
 go_enter Try.func99, Try.ntmps99
 go_wp2
 go_loopg [3, 4] k (fun kq v3 v4 w' => ∃ (x3_1 : Int) (x4_1 : Int), v3 = .int .i64 x3_1 ∧ v4 = .int .i64 x4_1 ∧ Aside0 (spec_l3Old.l0 kq l0 x3_1 x4_1 = some r) ∧ Aside0 (kq ≤ k) ∧ Aside0 (Below w.heap.size w w'))
 case atStart => exact ⟨(0), (1), rf, rf, H', ⟨Nat.le_refl _⟩, ⟨ph HB.out⟩⟩
 case round =>
  clear H'
  obtain ⟨x3_1, x4_1, rfl, rfl, HA, HK1, HB⟩ := hrel
  cases gk with
  | zero => exact absurd HA.out (by simp [spec_l3Old.l0])
  | succ k1 =>
   have H := HA.out
   clear HA
   simp only [spec_l3Old.l0] at H
   by_cases c2 : x4_1 < (l0.length : Int)
   rotate_left
   · rw [if_neg c2] at H
     have c2b0 := decide_eq_false c2
     clear c2
     obtain rfl := Option.some.inj H
     go_wp2
     go_ret
     exact (rq (ph HB.out))
   rw [if_pos c2] at H
   have c2b0 := decide_eq_true c2
   clear c2
   by_cases c3 : 0 ≤ x4_1
   rotate_left
   · rw [if_neg c3] at H
     exact absurd H (by simp)
   rw [if_pos c3] at H
   have c3b0 := decide_eq_true c3
   clear c3
   replace H := Option.bind_eq_some_iff.mp H
   obtain ⟨t251, A40, H⟩ := H
   replace H : (if 0 ≤ x3_1 then (if x3_1 < (l0.length : Int) then ((spec_l3Most.f k1 ((rd_T65 l0 x3_1).f0) ((rd_T65 l0 x3_1).f1)).bind fun t253 => (if t251 < t253 then (spec_l3Old.l0 k1 l0 x4_1 (wrap64 (x4_1 + 1))) else (spec_l3Old.l0 k1 l0 x3_1 (wrap64 (x4_1 + 1))))) else (none)) else (none)) = some r := H
   have A4 := am A40
   clear A40
   by_cases c5 : 0 ≤ x3_1
   rotate_left
   · rw [if_neg c5] at H
     exact absurd H (by simp)
   rw [if_pos c5] at H
   have c5b0 := decide_eq_true c5
   clear c5
   by_cases c6 : x3_1 < (l0.length : Int)
   rotate_left
   · rw [if_neg c6] at H
     exact absurd H (by simp)
   rw [if_pos c6] at H
   have c6b0 := decide_eq_true c6
   clear c6
   replace H := Option.bind_eq_some_iff.mp H
   obtain ⟨t253, A70, H⟩ := H
   replace H : (if t251 < t253 then (spec_l3Old.l0 k1 l0 x4_1 (wrap64 (x4_1 + 1))) else (spec_l3Old.l0 k1 l0 x3_1 (wrap64 (x4_1 + 1)))) = some r := H
   have A7 := am A70
   clear A70
   by_cases c8 : t251 < t253
   · rw [if_pos c8] at H
     have c8b0 := decide_eq_true c8
     clear c8
     have H' := am H
     clear H
     try go_wp2
     replace HB := am (below_drew1 HB.out)
     have p250 : 0 ≤ (x4_1 : Int) := ofb
     have q250 : x4_1 < (l0.length : Int) := ofb
     obtain ⟨ad250, A250_0, c250_0, e250, hx250_0, hx250_1, hl250_0, hi250_0⟩ := at_T65 HR0.out x4_1 p250 q250
     have hw250_1 := hx250_1
     have hw250_0 := hx250_0
     cases e250
     replace hx250_0 := up HB.out hx250_0
     replace hx250_1 := up HB.out hx250_1
     have HR250_0 := am hi250_0
     have HC250_0 := am hl250_0
     clear hi250_0 hl250_0
     replace p250 := eq_true p250
     replace q250 := eq_true q250
     have p252 : 0 ≤ (x3_1 : Int) := ofb
     have q252 : x3_1 < (l0.length : Int) := ofb
     obtain ⟨ad252, A252_0, c252_0, e252, hx252_0, hx252_1, hl252_0, hi252_0⟩ := at_T65 HR0.out x3_1 p252 q252
     have hw252_1 := hx252_1
     have hw252_0 := hx252_0
     obtain rfl : ad250 = ad252 := (by injection e252)
     replace hx252_0 := up HB.out hx252_0
     replace hx252_1 := up HB.out hx252_1
     have HR252_0 := am hi252_0
     have HC252_0 := am hl252_0
     clear hi252_0 hl252_0
     replace p252 := eq_true p252
     replace q252 := eq_true q252
     refine start_ (n := 11) (S := fun w' => w'.cell? (ad250.add ((x4_1).toNat * 2)) = some (.slice A250_0 ((rd_T65 l0 x4_1).f0).length c250_0) ∧ w'.cell? ⟨(ad250.add ((x4_1).toNat * 2)).block, (ad250.add ((x4_1).toNat * 2)).off + 1, none⟩ = some (.int .i64 ((rd_T65 l0 x4_1).f1)) ∧ w'.cell? (ad250.add ((x3_1).toNat * 2)) = some (.slice A252_0 ((rd_T65 l0 x3_1).f0).length c252_0) ∧ w'.cell? ⟨(ad250.add ((x3_1).toNat * 2)).block, (ad250.add ((x3_1).toNat * 2)).off + 1, none⟩ = some (.int .i64 ((rd_T65 l0 x3_1).f1))) (ds := []) #[false, false, false, false, false, false, false, false, false, false, false] (by kernel_rfl) rfl rfl ⟨((HB.out.cell (World.block_lt_of_cell? w _ hw250_0)).trans hw250_0), ((HB.out.cell (World.block_lt_of_cell? w _ hw250_1)).trans hw250_1), ((HB.out.cell (World.block_lt_of_cell? w _ hw252_0)).trans hw252_0), ((HB.out.cell (World.block_lt_of_cell? w _ hw252_1)).trans hw252_1)⟩ (fun hHeld => ?_); refine with_tabW spec_l3Old.tab5 spec_l3Old.bits5 (fun HT_ HW_ => ?_)
     generalize wr.drew = w9 at HB HR250_0 HR252_0 hx250_0 hx250_1 hx252_0 hx252_1 hHeld ⊢
     refine pj_ 0 11 #[true, false, false, false, false, false, false, false, false, false, false] rfl rfl (any_of HT_.out (by kernel_rfl)) (fun _ _ _ h => h) ?_
     refine pj_ 1 12 #[true, true, false, false, false, false, false, false, false, false, false] rfl rfl (any_of HT_.out (by kernel_rfl)) (fun _ _ _ h => h) ?_
     refine pj_ 2 13 #[true, true, true, false, false, false, false, false, false, false, false] rfl rfl (any_of HT_.out (by kernel_rfl)) (fun _ _ _ h => h) ?_
     refine pj_ 5 16 #[true, true, true, false, false, true, false, false, false, false, false] rfl rfl (any_of HT_.out (by kernel_rfl)) (fun _ _ _ h => h) ?_
     refine pj_ 6 17 #[true, true, true, false, false, true, true, false, false, false, false] rfl rfl (any_of HT_.out (by kernel_rfl)) (fun _ _ _ h => h) ?_
     refine pj_ 7 18 #[true, true, true, false, false, true, true, true, false, false, false] rfl rfl (any_of HT_.out (by kernel_rfl)) (fun _ _ _ h => h) ?_
     refine pm_ 3 14 #[true, true, true, true, false, true, true, true, false, false, false] rfl rfl (take_ofW HT_.out HW_.out (by kernel_rfl)) (fun _ _ _ h => h) hHeld ?_
     refine pm_ 8 19 #[true, true, true, true, false, true, true, true, true, false, false] rfl rfl (take_ofW HT_.out HW_.out (by kernel_rfl)) (fun _ _ _ h => h) hHeld ?_
     refine one_ (i := 4) (N := some 15) #[true, true, true, true, true, true, true, true, true, false, false] rfl rfl (one_of HT_.out (by kernel_rfl)) (by decide) (fun K hK => ?_)
     refine goes_ Try.func93 (by kernel_rfl) rfl #[.agg #[.slice A250_0 ((rd_T65 l0 x4_1).f0).length c250_0, .int .i64 ((rd_T65 l0 x4_1).f1)]] (by rfl) rfl rfl (by (try simp only [List.map_toArray, List.map_cons, List.map_nil]); first | done | rfl | (simp only [List.length_drop, List.length_take]; rfl)) ?_
     with_reducible refine (spec_l3Most.calls k1 _ _ ((rd_T65 l0 x4_1).f0) ((rd_T65 l0 x4_1).f1) t251 _ ?side1 ?side2 A4.out).mono ?_
     (case side1 => exact pc (Kd.C_below HR250_0.out HB.out))
     (case side2 => exact HC250_0.out)
     rintro e w10 ⟨rfl, hb⟩
     refine ⟨_, rfl, ?_⟩
     replace HB := am (below_step (ph HB.out) hb)
     (try clear hb)
     (try clear hb2)
     (try clear hk)
     (try clear hi)
     refine hK.out _ _ ⟨((HB.out.cell (World.block_lt_of_cell? w _ hw250_0)).trans hw250_0), ((HB.out.cell (World.block_lt_of_cell? w _ hw250_1)).trans hw250_1), ((HB.out.cell (World.block_lt_of_cell? w _ hw252_0)).trans hw252_0), ((HB.out.cell (World.block_lt_of_cell? w _ hw252_1)).trans hw252_1)⟩ (fun hHeld => ?_)
     clear hK K
     refine norm_ (a' := ?_) ?_ ?_
     rotate_left
     · show Act.put _ (some 15) _ = _
       simp only [Act.put, List.setIfInBounds_toArray, List.set_cons_zero, List.set_cons_succ, i64_w, i32_w]
       rfl
     refine one_ (i := 9) (N := some 20) #[true, true, true, true, true, true, true, true, true, true, false] rfl rfl (one_of HT_.out (by kernel_rfl)) (by decide) (fun K hK => ?_)
     refine goes_ Try.func93 (by kernel_rfl) rfl #[.agg #[.slice A252_0 ((rd_T65 l0 x3_1).f0).length c252_0, .int .i64 ((rd_T65 l0 x3_1).f1)]] (by rfl) rfl rfl (by (try simp only [List.map_toArray, List.map_cons, List.map_nil]); first | done | rfl | (simp only [List.length_drop, List.length_take]; rfl)) ?_
     with_reducible refine (spec_l3Most.calls k1 _ _ ((rd_T65 l0 x3_1).f0) ((rd_T65 l0 x3_1).f1) t253 _ ?side1 ?side2 A7.out).mono ?_
     (case side1 => exact pc (Kd.C_below HR252_0.out HB.out))
     (case side2 => exact HC252_0.out)
     rintro e w11 ⟨rfl, hb⟩
     refine ⟨_, rfl, ?_⟩
     replace HB := am (below_step (ph HB.out) hb)
     (try clear hb)
     (try clear hb2)
     (try clear hk)
     (try clear hi)
     refine hK.out _ _ ⟨((HB.out.cell (World.block_lt_of_cell? w _ hw250_0)).trans hw250_0), ((HB.out.cell (World.block_lt_of_cell? w _ hw250_1)).trans hw250_1), ((HB.out.cell (World.block_lt_of_cell? w _ hw252_0)).trans hw252_0), ((HB.out.cell (World.block_lt_of_cell? w _ hw252_1)).trans hw252_1)⟩ (fun hHeld => ?_)
     clear hK K
     refine norm_ (a' := ?_) ?_ ?_
     rotate_left
     · show Act.put _ (some 20) _ = _
       simp only [Act.put, List.setIfInBounds_toArray, List.set_cons_zero, List.set_cons_succ, i64_w, i32_w]
       rfl
     refine pj_ 10 21 #[true, true, true, true, true, true, true, true, true, true, true] rfl rfl (any_of HT_.out (by kernel_rfl)) (fun _ _ _ h => h) ?_
     refine done_ (done_of HT_.out (by kernel_rfl)) ?_
     try go_wp2
     go_roundg k1
     case measure => have := HK1.out; omega
     case rel => exact ⟨(x4_1), (wrap64 (x4_1 + 1)), rf, rf, H', ⟨by have := HK1.out; omega⟩, ⟨ph HB.out⟩⟩
   rw [if_neg c8] at H
   have c8b0 := decide_eq_false c8
   clear c8
   have H' := am H
   clear H
   try go_wp2
   replace HB := am (below_drew1 HB.out)
   have p250 : 0 ≤ (x4_1 : Int) := ofb
   have q250 : x4_1 < (l0.length : Int) := ofb
   obtain ⟨ad250, A250_0, c250_0, e250, hx250_0, hx250_1, hl250_0, hi250_0⟩ := at_T65 HR0.out x4_1 p250 q250
   have hw250_1 := hx250_1
   have hw250_0 := hx250_0
   cases e250
   replace hx250_0 := up HB.out hx250_0
   replace hx250_1 := up HB.out hx250_1
   have HR250_0 := am hi250_0
   have HC250_0 := am hl250_0
   clear hi250_0 hl250_0
   replace p250 := eq_true p250
   replace q250 := eq_true q250
   have p252 : 0 ≤ (x3_1 : Int) := ofb
   have q252 : x3_1 < (l0.length : Int) := ofb
   obtain ⟨ad252, A252_0, c252_0, e252, hx252_0, hx252_1, hl252_0, hi252_0⟩ := at_T65 HR0.out x3_1 p252 q252
   have hw252_1 := hx252_1
   have hw252_0 := hx252_0
   obtain rfl : ad250 = ad252 := (by injection e252)
   replace hx252_0 := up HB.out hx252_0
   replace hx252_1 := up HB.out hx252_1
   have HR252_0 := am hi252_0
   have HC252_0 := am hl252_0
   clear hi252_0 hl252_0
   replace p252 := eq_true p252
   replace q252 := eq_true q252
   refine start_ (n := 11) (S := fun w' => w'.cell? (ad250.add ((x4_1).toNat * 2)) = some (.slice A250_0 ((rd_T65 l0 x4_1).f0).length c250_0) ∧ w'.cell? ⟨(ad250.add ((x4_1).toNat * 2)).block, (ad250.add ((x4_1).toNat * 2)).off + 1, none⟩ = some (.int .i64 ((rd_T65 l0 x4_1).f1)) ∧ w'.cell? (ad250.add ((x3_1).toNat * 2)) = some (.slice A252_0 ((rd_T65 l0 x3_1).f0).length c252_0) ∧ w'.cell? ⟨(ad250.add ((x3_1).toNat * 2)).block, (ad250.add ((x3_1).toNat * 2)).off + 1, none⟩ = some (.int .i64 ((rd_T65 l0 x3_1).f1))) (ds := []) #[false, false, false, false, false, false, false, false, false, false, false] (by kernel_rfl) rfl rfl ⟨((HB.out.cell (World.block_lt_of_cell? w _ hw250_0)).trans hw250_0), ((HB.out.cell (World.block_lt_of_cell? w _ hw250_1)).trans hw250_1), ((HB.out.cell (World.block_lt_of_cell? w _ hw252_0)).trans hw252_0), ((HB.out.cell (World.block_lt_of_cell? w _ hw252_1)).trans hw252_1)⟩ (fun hHeld => ?_); refine with_tabW spec_l3Old.tab5 spec_l3Old.bits5 (fun HT_ HW_ => ?_)
   generalize wr.drew = w12 at HB HR250_0 HR252_0 hx250_0 hx250_1 hx252_0 hx252_1 hHeld ⊢
   refine pj_ 0 11 #[true, false, false, false, false, false, false, false, false, false, false] rfl rfl (any_of HT_.out (by kernel_rfl)) (fun _ _ _ h => h) ?_
   refine pj_ 1 12 #[true, true, false, false, false, false, false, false, false, false, false] rfl rfl (any_of HT_.out (by kernel_rfl)) (fun _ _ _ h => h) ?_
   refine pj_ 2 13 #[true, true, true, false, false, false, false, false, false, false, false] rfl rfl (any_of HT_.out (by kernel_rfl)) (fun _ _ _ h => h) ?_
   refine pj_ 5 16 #[true, true, true, false, false, true, false, false, false, false, false] rfl rfl (any_of HT_.out (by kernel_rfl)) (fun _ _ _ h => h) ?_
   refine pj_ 6 17 #[true, true, true, false, false, true, true, false, false, false, false] rfl rfl (any_of HT_.out (by kernel_rfl)) (fun _ _ _ h => h) ?_
   refine pj_ 7 18 #[true, true, true, false, false, true, true, true, false, false, false] rfl rfl (any_of HT_.out (by kernel_rfl)) (fun _ _ _ h => h) ?_
   refine pm_ 3 14 #[true, true, true, true, false, true, true, true, false, false, false] rfl rfl (take_ofW HT_.out HW_.out (by kernel_rfl)) (fun _ _ _ h => h) hHeld ?_
   refine pm_ 8 19 #[true, true, true, true, false, true, true, true, true, false, false] rfl rfl (take_ofW HT_.out HW_.out (by kernel_rfl)) (fun _ _ _ h => h) hHeld ?_
   refine one_ (i := 4) (N := some 15) #[true, true, true, true, true, true, true, true, true, false, false] rfl rfl (one_of HT_.out (by kernel_rfl)) (by decide) (fun K hK => ?_)
   refine goes_ Try.func93 (by kernel_rfl) rfl #[.agg #[.slice A250_0 ((rd_T65 l0 x4_1).f0).length c250_0, .int .i64 ((rd_T65 l0 x4_1).f1)]] (by rfl) rfl rfl (by (try simp only [List.map_toArray, List.map_cons, List.map_nil]); first | done | rfl | (simp only [List.length_drop, List.length_take]; rfl)) ?_
   with_reducible refine (spec_l3Most.calls k1 _ _ ((rd_T65 l0 x4_1).f0) ((rd_T65 l0 x4_1).f1) t251 _ ?side1 ?side2 A4.out).mono ?_
   (case side1 => exact pc (Kd.C_below HR250_0.out HB.out))
   (case side2 => exact HC250_0.out)
   rintro e w13 ⟨rfl, hb⟩
   refine ⟨_, rfl, ?_⟩
   replace HB := am (below_step (ph HB.out) hb)
   (try clear hb)
   (try clear hb2)
   (try clear hk)
   (try clear hi)
   refine hK.out _ _ ⟨((HB.out.cell (World.block_lt_of_cell? w _ hw250_0)).trans hw250_0), ((HB.out.cell (World.block_lt_of_cell? w _ hw250_1)).trans hw250_1), ((HB.out.cell (World.block_lt_of_cell? w _ hw252_0)).trans hw252_0), ((HB.out.cell (World.block_lt_of_cell? w _ hw252_1)).trans hw252_1)⟩ (fun hHeld => ?_)
   clear hK K
   refine norm_ (a' := ?_) ?_ ?_
   rotate_left
   · show Act.put _ (some 15) _ = _
     simp only [Act.put, List.setIfInBounds_toArray, List.set_cons_zero, List.set_cons_succ, i64_w, i32_w]
     rfl
   refine one_ (i := 9) (N := some 20) #[true, true, true, true, true, true, true, true, true, true, false] rfl rfl (one_of HT_.out (by kernel_rfl)) (by decide) (fun K hK => ?_)
   refine goes_ Try.func93 (by kernel_rfl) rfl #[.agg #[.slice A252_0 ((rd_T65 l0 x3_1).f0).length c252_0, .int .i64 ((rd_T65 l0 x3_1).f1)]] (by rfl) rfl rfl (by (try simp only [List.map_toArray, List.map_cons, List.map_nil]); first | done | rfl | (simp only [List.length_drop, List.length_take]; rfl)) ?_
   with_reducible refine (spec_l3Most.calls k1 _ _ ((rd_T65 l0 x3_1).f0) ((rd_T65 l0 x3_1).f1) t253 _ ?side1 ?side2 A7.out).mono ?_
   (case side1 => exact pc (Kd.C_below HR252_0.out HB.out))
   (case side2 => exact HC252_0.out)
   rintro e w14 ⟨rfl, hb⟩
   refine ⟨_, rfl, ?_⟩
   replace HB := am (below_step (ph HB.out) hb)
   (try clear hb)
   (try clear hb2)
   (try clear hk)
   (try clear hi)
   refine hK.out _ _ ⟨((HB.out.cell (World.block_lt_of_cell? w _ hw250_0)).trans hw250_0), ((HB.out.cell (World.block_lt_of_cell? w _ hw250_1)).trans hw250_1), ((HB.out.cell (World.block_lt_of_cell? w _ hw252_0)).trans hw252_0), ((HB.out.cell (World.block_lt_of_cell? w _ hw252_1)).trans hw252_1)⟩ (fun hHeld => ?_)
   clear hK K
   refine norm_ (a' := ?_) ?_ ?_
   rotate_left
   · show Act.put _ (some 20) _ = _
     simp only [Act.put, List.setIfInBounds_toArray, List.set_cons_zero, List.set_cons_succ, i64_w, i32_w]
     rfl
   refine pj_ 10 21 #[true, true, true, true, true, true, true, true, true, true, true] rfl rfl (any_of HT_.out (by kernel_rfl)) (fun _ _ _ h => h) ?_
   refine done_ (done_of HT_.out (by kernel_rfl)) ?_
   try go_wp2
   go_roundg k1
   case measure => have := HK1.out; omega
   case rel => exact ⟨(x3_1), (wrap64 (x4_1 + 1)), rf, rf, H', ⟨by have := HK1.out; omega⟩, ⟨ph HB.out⟩⟩
def spec_l3Live.f (k : Nat) (l0 : List (S65)) (a1_0 : Int) (a1_1 : Int) (a1_2 : Int) (a1_3 : Int) (a1_4 : Int) : Option (Bool) := if a1_0 = 1 then ((spec_l3Last.f k l0 a1_3).bind fun bt255 => (some (bt255.1 == a1_1 && (bt255.2.1 == a1_2 && (bt255.2.2.1 == a1_3 && (bt255.2.2.2.1 == a1_4)))))) else (some false)
theorem spec_l3Live.mono : ∀ a0 a1 a2 a3 a4 a5 k, LeO (spec_l3Live.f k a0 a1 a2 a3 a4 a5) (spec_l3Live.f (k + 1) a0 a1 a2 a3 a4 a5) := by
 intro a0 a1 a2 a3 a4 a5 k
 unfold spec_l3Live.f
 repeat' first
  | (with_reducible exact spec_l3Last.mono _ _ _)
  | (with_reducible exact LeO.refl _)
  | (with_reducible exact LeO.none _)
  | (with_reducible refine LeO.ite ?_ ?_)
  | (with_reducible refine LeO.bind ?_ (fun _ => ?_))
  | exact spec_l3Last.mono _ _ _
  | exact LeO.none _
  | refine LeO.ite ?_ ?_
  | refine LeO.bind ?_ (fun _ => ?_)
set_option maxHeartbeats 8000000 in
set_option maxRecDepth 100000 in
theorem spec_l3Live.calls (k : Nat) (A0 : Option Addr) (c0 : Nat) (l0 : List (S65)) (a1_0 : Int) (a1_1 : Int) (a1_2 : Int) (a1_3 : Int) (a1_4 : Int) (r : Bool) (w : World) (hr0 : Kd.C k65 w A0 l0.length l0) (hc0 : l0.length ≤ c0) (h : spec_l3Live.f k l0 a1_0 a1_1 a1_2 a1_3 a1_4 = some r) :
 Calls Try.prog 100 #[.slice A0 l0.length c0, .agg #[.int .i64 a1_0, .int .i64 a1_1, .int .i64 a1_2, .int .i64 a1_3, .int .i64 a1_4]] w fun e w' => e = .returned (.bool r) ∧ Below w.heap.size w w' := by
 have hu71 := Try.underlying71
 have hu30 := Try.underlying30
 have HR0 := am hr0
 have HC0 := am hc0
 clear hr0 hc0
 have HB := am (Below.refl w.heap.size w)
 have H : (if a1_0 = 1 then ((spec_l3Last.f k l0 a1_3).bind fun bt255 => (some (bt255.1 == a1_1 && (bt255.2.1 == a1_2 && (bt255.2.2.1 == a1_3 && (bt255.2.2.2.1 == a1_4)))))) else (some false)) = some r := h
 clear h
 by_cases c3 : a1_0 = 1
 rotate_left
 · rw [if_neg c3] at H
   have c3b0 : (a1_0 == 1) = false := beq_eq_false_iff_ne.mpr c3
   have c3b1 : (a1_0 != 1) = true := bne_iff_ne.mpr c3
   obtain rfl := Option.some.inj H
   go_enter Try.func100, Try.ntmps100
   go_wp2_with (first | (refine bx 3 #[.int .i64 a1_0, .int .i64 a1_1, .int .i64 a1_2, .int .i64 a1_3, .int .i64 a1_4] 71 rfl ?_; intro gb254 hg w12 hbox hb; have BK254 := am (hbox); have GW254 := am ((by rw [hg]; exact (below_size (ph HB.out)) : w.heap.size ≤ gb254)); have GE254 := GW254; replace HB := am (below_step (ph HB.out) hb); clear hb hbox hg; obtain ⟨hcz13_0, hcz13_1, hcz13_2, hcz13_3, hcz13_4⟩ := b5 BK254.out; obtain ⟨hfz13_0, hfz13_1, hfz13_2, hfz13_3, hfz13_4⟩ := f5 BK254.out))
   go_ret
   exact (rq (bg1 HB.out GE254.out))
 rw [if_pos c3] at H
 have c3b0 : (a1_0 == 1) = true := beq_iff_eq.mpr c3
 have c3b1 : (a1_0 != 1) = false := bne_eq_false_iff_eq.mpr c3
 clear c3
 replace H := Option.bind_eq_some_iff.mp H
 obtain ⟨⟨t255, t256, t257, t258, t259⟩, A40, H⟩ := H
 replace H : (some (t255 == a1_1 && (t256 == a1_2 && (t257 == a1_3 && (t258 == a1_4))))) = some r := H
 have A4 := am A40
 clear A40
 obtain rfl := Option.some.inj H
 go_enter Try.func100, Try.ntmps100
 go_wp2_with (first | (refine bx 3 #[.int .i64 a1_0, .int .i64 a1_1, .int .i64 a1_2, .int .i64 a1_3, .int .i64 a1_4] 71 rfl ?_; intro gb254 hg w5 hbox hb; have BK254 := am (hbox); have GW254 := am ((by rw [hg]; exact (below_size (ph HB.out)) : w.heap.size ≤ gb254)); have GE254 := GW254; replace HB := am (below_step (ph HB.out) hb); clear hb hbox hg; obtain ⟨hcz6_0, hcz6_1, hcz6_2, hcz6_3, hcz6_4⟩ := b5 BK254.out; obtain ⟨hfz6_0, hfz6_1, hfz6_2, hfz6_3, hfz6_4⟩ := f5 BK254.out) | (refine gl 15 Try.func81 #[.slice A0 l0.length c0, .int .i64 a1_3] rfl ?_; (with_reducible refine (spec_l3Last.calls k _ _ l0 a1_3 t255 t256 t257 t258 t259 _ ?side1 ?side2 A4.out).mono ?_); (case side1 => exact pc (Kd.C_below HR0.out HB.out)); (case side2 => exact HC0.out); rintro e w7 ⟨rfl, hb⟩; refine ⟨_, rfl, ?_⟩; replace BK254 := am (blk_below (pb BK254.out) hb); replace HB := am (below_step (bg1 HB.out GE254.out) hb); (try clear hb); (try clear hb2); (try clear hk); (try clear hi)) | (refine bx 5 #[.int .i64 0, .int .i64 0, .int .i64 0, .int .i64 0] 30 rfl ?_; intro gb260 hg w8 hbox hb; have BK260 := am (hbox); have GW260 := am ((by rw [hg]; exact (below_size (bg1 HB.out GE254.out)) : w.heap.size ≤ gb260)); have GE260 := GW260; replace HB := am (below_step (bg1 HB.out GE254.out) hb); have NB254_260 := am ((by rw [hg]; exact Nat.ne_of_lt (blk_lt (pb BK254.out)) : gb254 ≠ gb260)); have NB260_254 := am (Ne.symm NB254_260.out); replace BK254 := am (blk_below (pb BK254.out) hb); clear hb hbox hg; have hnb9 := NB260_254.out; have hnc9 := NB254_260.out; obtain ⟨hcz10_0, hcz10_1, hcz10_2, hcz10_3⟩ := b4 BK260.out; obtain ⟨hfz10_0, hfz10_1, hfz10_2, hfz10_3⟩ := f4 BK260.out; obtain ⟨hcz11_0, hcz11_1, hcz11_2, hcz11_3, hcz11_4⟩ := b5 BK254.out; obtain ⟨hfz11_0, hfz11_1, hfz11_2, hfz11_3, hfz11_4⟩ := f5 BK254.out))
 go_ret
 exact (rq (bg2 HB.out GE254.out GE260.out))
end Go.Proofs.Ytoedphbikgoapaa.Re
namespace Go.Proofs.Ytoedphbikgoapaa.Re
open Go.RowKit Go.Proofs.YtoedphbikgoapaaW.PrintWords Go.Proofs.YtoedphbikgoapaaW.PrintLast Go.Proofs.YtoedphbikgoapaaW.PrintMore
attribute [local go_sem] max2_int min2_int max_two min_two max_three min_three max_four min_four
set_option linter.unusedVariables false
set_option linter.unusedSimpArgs false
def spec_l12Room.l0 : Nat → List (S85) → Int → Int → List (S65) → List Int → Option ((List (S85)) × Int × Bool)
 | 0, _, _, _, _, _ => none
 | k + 1, x5, x8, x9, x262000, x262001 => if x9 < 4 then (if 0 ≤ x8 then (if x8 < (x262000.length : Int) then (if 0 ≤ x9 then (if x9 < (((rd_T65 x262000 x8).f0).length : Int) then ((spec_l3Live.f k x262000 ((rd_T71 ((rd_T65 x262000 x8).f0) x9).f0) ((rd_T71 ((rd_T65 x262000 x8).f0) x9).f1.f0) ((rd_T71 ((rd_T65 x262000 x8).f0) x9).f1.f1) ((rd_T71 ((rd_T65 x262000 x8).f0) x9).f1.f2) ((rd_T71 ((rd_T65 x262000 x8).f0) x9).f1.f3)).bind fun t271 => (if t271 = true then (if ((rd_T71 ((rd_T65 x262000 x8).f0) x9).f1.f0) = 1 then (if x5.length < 2199023255552 then (spec_l12Room.l0 k (x5 ++ [(⟨1, (rd_T71 ((rd_T65 x262000 x8).f0) x9).f1.f2, (rd_T71 ((rd_T65 x262000 x8).f0) x9).f1.f3, 0, (⟨0, 0, 0, 0⟩ : S30)⟩ : S85)]) x8 (wrap64 (x9 + 1)) x262000 x262001) else (none)) else (spec_l12Room.l0 k x5 x8 (wrap64 (x9 + 1)) x262000 x262001)) else (spec_l12Room.l0 k x5 x8 (wrap64 (x9 + 1)) x262000 x262001))) else (none)) else (none)) else (none)) else (none)) else (if x5.length < 2199023255552 then (if 0 ≤ x8 then (if x8 < (x262000.length : Int) then (some ((x5 ++ [(⟨2, 0, 0, x8, (⟨0, 0, 0, 0⟩ : S30)⟩ : S85)]), x8, decide (((rd_T65 x262000 x8).f1) < 200))) else (none)) else (none)) else (none))
def spec_l12Room.f (k : Nat) (l0_0 : List (S65)) (l0_1 : List Int) : Option ((List (S85)) × Int × Bool) := (some (([] : List (S85)) : List (S85))).bind fun y262 => ((spec_l3Open.f k l0_0).bind fun bt265 => (if bt265.2 = true then (some (y262, bt265.1, true)) else ((spec_l3Old.f k l0_0).bind fun t267 => (spec_l12Room.l0 k y262 t267 0 l0_0 l0_1))))
theorem spec_l12Room.mono_l : ∀ k, (∀ y0 y1 y2 y3 y4, LeO (spec_l12Room.l0 k y0 y1 y2 y3 y4) (spec_l12Room.l0 (k + 1) y0 y1 y2 y3 y4))
 | 0 => fun _ _ _ _ _ r h => by simp [spec_l12Room.l0] at h
 | k + 1 => by
  have ih0 := spec_l12Room.mono_l k
  · intro y0 y1 y2 y3 y4
    unfold spec_l12Room.l0
    repeat' first
    | (with_reducible exact ih0 _ _ _ _ _)
    | (with_reducible exact spec_l3Live.mono _ _ _ _ _ _ _)
    | (with_reducible exact spec_l3Old.mono _ _)
    | (with_reducible exact spec_l3Open.mono _ _)
    | (with_reducible exact LeO.refl _)
    | (with_reducible exact LeO.none _)
    | (with_reducible refine LeO.ite ?_ ?_)
    | (with_reducible refine LeO.bind ?_ (fun _ => ?_))
    | exact ih0 _ _ _ _ _
    | exact spec_l3Live.mono _ _ _ _ _ _ _
    | exact spec_l3Old.mono _ _
    | exact spec_l3Open.mono _ _
    | exact LeO.none _
    | refine LeO.ite ?_ ?_
    | refine LeO.bind ?_ (fun _ => ?_)
theorem spec_l12Room.mono : ∀ a0 a1 k, LeO (spec_l12Room.f k a0 a1) (spec_l12Room.f (k + 1) a0 a1) := by
 intro a0 a1 k
 have ih0 := spec_l12Room.mono_l k
 unfold spec_l12Room.f
 repeat' first
  | (with_reducible exact ih0 _ _ _ _ _)
  | (with_reducible exact spec_l3Live.mono _ _ _ _ _ _ _)
  | (with_reducible exact spec_l3Old.mono _ _)
  | (with_reducible exact spec_l3Open.mono _ _)
  | (with_reducible exact LeO.refl _)
  | (with_reducible exact LeO.none _)
  | (with_reducible refine LeO.ite ?_ ?_)
  | (with_reducible refine LeO.bind ?_ (fun _ => ?_))
  | exact ih0 _ _ _ _ _
  | exact spec_l3Live.mono _ _ _ _ _ _ _
  | exact spec_l3Old.mono _ _
  | exact spec_l3Open.mono _ _
  | exact LeO.none _
  | refine LeO.ite ?_ ?_
  | refine LeO.bind ?_ (fun _ => ?_)
def spec_l12Room.T12 : Bool × List (List Nat × List Nat) := (true, [([], []), ([], []), ([1], [1]), ([2], [2]), ([0, 3], [0, 3]), ([], []), ([], []), ([6], [6]), ([], []), ([7, 8], [7, 8]), ([9], [9]), ([10], [10]), ([11], [11]), ([4, 4, 0, 1, 2, 3, 4], [4]), ([5, 13, 0, 1, 2, 3, 4, 5, 13], [5]), ([12, 14, 0, 1, 2, 3, 4, 5, 6, 7, 8, 9, 10, 11, 12, 13, 14], [12])])
def spec_l12Room.B12 : List Nat := [0, 0, 2, 6, 15, 0, 0, 64, 0, 448, 960, 1984, 4032, 31, 8255, 32767]
theorem spec_l12Room.tab12 : rtab .any (opsOf Try.f85 12) = spec_l12Room.T12 := by kernel_rfl
theorem spec_l12Room.bits12 : waitsOk spec_l12Room.T12.2 spec_l12Room.B12 = true := by kernel_rfl
set_option maxHeartbeats 8000000 in
set_option maxRecDepth 100000 in
theorem spec_l12Room.calls (k : Nat) (A0_0 : Option Addr) (c0_0 : Nat) (l0_0 : List (S65)) (A0_1 : Option Addr) (c0_1 : Nat) (l0_1 : List Int) (r1 : List (S85)) (r2 : Int) (r3 : Bool) (w : World) (hr0_0 : Kd.C k65 w A0_0 l0_0.length l0_0) (hc0_0 : l0_0.length ≤ c0_0) (hr0_1 : Kd.C (Kd.int .i64) w A0_1 l0_1.length l0_1) (hc0_1 : l0_1.length ≤ c0_1) (h : spec_l12Room.f k l0_0 l0_1 = some (r1, r2, r3)) :
 Calls Try.prog 85 #[.agg #[.slice A0_0 l0_0.length c0_0, .slice A0_1 l0_1.length c0_1]] w fun e w' => ∃ v0_ : Value, e = .returned (.tuple #[v0_, .int .i64 r2, .bool r3]) ∧ Kd.R k85 85 w' w.heap.size (fun _ => True) v0_ r1 ∧ Below w.heap.size w w' := by
 have hu41 := Try.underlying41
 have hu71 := Try.underlying71
 have hu85 := Try.underlying85
 have HR0_0 := am hr0_0
 have HC0_0 := am hc0_0
 clear hr0_0 hc0_0
 have HR0_1 := am hr0_1
 have HC0_1 := am hc0_1
 clear hr0_1 hc0_1
 have HB := am (Below.refl w.heap.size w)
 have H : ((some (([] : List (S85)) : List (S85))).bind fun y262 => ((spec_l3Open.f k l0_0).bind fun bt265 => (if bt265.2 = true then (some (y262, bt265.1, true)) else ((spec_l3Old.f k l0_0).bind fun t267 => (spec_l12Room.l0 k y262 t267 0 l0_0 l0_1))))) = some (r1, r2, r3) := h
 clear h
 obtain ⟨y262, hy262⟩ : ∃ y_ : List (S85), y_ = (([] : List (S85))) := ⟨_, rfl⟩
 replace H : ((spec_l3Open.f k l0_0).bind fun bt265 => (if bt265.2 = true then (some (y262, bt265.1, true)) else ((spec_l3Old.f k l0_0).bind fun t267 => (spec_l12Room.l0 k y262 t267 0 l0_0 l0_1)))) = some (r1, r2, r3) := by first | (rw [hy262]; with_reducible exact H) | (have H2_ := (Option.bind_some _ _).symm.trans H; rw [hy262]; with_reducible exact H2_) | (have H2_ := (Option.bind_some _ _).symm.trans H; with_reducible exact H2_) | with_reducible exact H | (rw [hy262]; exact H) | exact H
 have Ny262 := am hy262
 clear hy262
 replace H := Option.bind_eq_some_iff.mp H
 obtain ⟨⟨t265, t266⟩, A20, H⟩ := H
 replace H : (if t266 = true then (some (y262, t265, true)) else ((spec_l3Old.f k l0_0).bind fun t267 => (spec_l12Room.l0 k y262 t267 0 l0_0 l0_1))) = some (r1, r2, r3) := H
 have A2 := am A20
 clear A20
 by_cases c3 : t266 = true
 · subst c3
   have H1 : (some (y262, t265, true)) = some (r1, r2, r3) := by rw [if_pos rfl] at H; exact H
   clear H
   have H := H1
   clear H1
   simp only [Option.some.injEq, Prod.mk.injEq] at H
   obtain ⟨rfl, rfl, rfl⟩ := H
   go_enter Try.func85, Try.ntmps85
   go_wp2_with (first | (refine bx 1 #[.slice A0_0 l0_0.length c0_0, .slice A0_1 l0_1.length c0_1] 41 rfl ?_; intro gb261 hg w4 hbox hb; have BK261 := am (hbox); have GW261 := am ((by rw [hg]; exact (below_size (ph HB.out)) : w.heap.size ≤ gb261)); have GE261 := GW261; replace HB := am (below_step (ph HB.out) hb); clear hb hbox hg) | ((with_reducible refine gate_dst (N := 11) rfl ?_); refine Kd.R_lit k85 _ 85 ?hg (N := 11) ?hd (xs := ([] : List (S85))) (inner := []) (ok := fun _ => True) (okp := fun _ => True) ?hr ?hp (fun _ hk => hk) trivial (Below.refl _ _) (Nat.le_refl _) (by simp) ?_; (case hd => rfl); (case hg => rfl); (case hr => first | (go_simp; done) | (go_simp; rfl)); (case hp => exact (Reps.none _ _)); intro v263 w5 ho6 hb hg_ hnew_; clear hg_ hnew_; (first | rw [← Ny262.out] at ho6 | (simp only [Int.reduceToNat] at ho6; rw [← Ny262.out] at ho6)); have HO264 := am (Kd.R_lower ho6 (below_size (bg1 HB.out GE261.out))); replace BK261 := am (blk_below (pb BK261.out) hb); replace HB := am (below_step (bg1 HB.out GE261.out) hb); clear hb ho6; obtain ⟨hcz7_0, hcz7_1⟩ := b2 BK261.out; obtain ⟨hfz7_0, hfz7_1⟩ := f2 BK261.out) | (refine gl 15 Try.func98 #[.slice A0_0 l0_0.length c0_0] rfl ?_; (with_reducible refine (spec_l3Open.calls k _ _ l0_0 t265 true _ ?side1 ?side2 A2.out).mono ?_); (case side1 => exact pc (Kd.C_below HR0_0.out HB.out)); (case side2 => exact HC0_0.out); rintro e w8 ⟨rfl, hb⟩; refine ⟨_, rfl, ?_⟩; replace HO264 := am (Kd.R_below (pr HO264.out) hb); replace BK261 := am (blk_below (pb BK261.out) hb); replace HB := am (below_step (bg1 HB.out GE261.out) hb); (try clear hb); (try clear hb2); (try clear hk); (try clear hi)))
   go_ret3
   exact ⟨_, rq ⟨pr HO264.out, bg1 HB.out GE261.out⟩⟩
 replace c3 := Bool.eq_false_iff.mpr c3
 subst c3
 have H1 : ((spec_l3Old.f k l0_0).bind fun t267 => (spec_l12Room.l0 k y262 t267 0 l0_0 l0_1)) = some (r1, r2, r3) := by rw [if_neg (show ¬ (false = true) by decide)] at H; exact H
 clear H
 have H := H1
 clear H1
 replace H := Option.bind_eq_some_iff.mp H
 obtain ⟨t267, A90, H⟩ := H
 replace H : (spec_l12Room.l0 k y262 t267 0 l0_0 l0_1) = some (r1, r2, r3) := H
 have A9 := am A90
 clear A90
 have H' := am H
 clear H
 go_enter Try.func85, Try.ntmps85
 go_wp2_with (first | (refine bx 1 #[.slice A0_0 l0_0.length c0_0, .slice A0_1 l0_1.length c0_1] 41 rfl ?_; intro gb261 hg w10 hbox hb; have BK261 := am (hbox); have GW261 := am ((by rw [hg]; exact (below_size (ph HB.out)) : w.heap.size ≤ gb261)); have GE261 := GW261; replace HB := am (below_step (ph HB.out) hb); clear hb hbox hg) | ((with_reducible refine gate_dst (N := 11) rfl ?_); refine Kd.R_lit k85 _ 85 ?hg (N := 11) ?hd (xs := ([] : List (S85))) (inner := []) (ok := fun _ => True) (okp := fun _ => True) ?hr ?hp (fun _ hk => hk) trivial (Below.refl _ _) (Nat.le_refl _) (by simp) ?_; (case hd => rfl); (case hg => rfl); (case hr => first | (go_simp; done) | (go_simp; rfl)); (case hp => exact (Reps.none _ _)); intro v263 w11 ho12 hb hg_ hnew_; clear hg_ hnew_; (first | rw [← Ny262.out] at ho12 | (simp only [Int.reduceToNat] at ho12; rw [← Ny262.out] at ho12)); have HO264 := am (Kd.R_lower ho12 (below_size (bg1 HB.out GE261.out))); replace BK261 := am (blk_below (pb BK261.out) hb); replace HB := am (below_step (bg1 HB.out GE261.out) hb); clear hb ho12; obtain ⟨hcz13_0, hcz13_1⟩ := b2 BK261.out; obtain ⟨hfz13_0, hfz13_1⟩ := f2 BK261.out) | (refine gl 15 Try.func98 #[.slice A0_0 l0_0.length c0_0] rfl ?_; (with_reducible refine (spec_l3Open.calls k _ _ l0_0 t265 false _ ?side1 ?side2 A2.out).mono ?_); (case side1 => exact pc (Kd.C_below HR0_0.out HB.out)); (case side2 => exact HC0_0.out); rintro e w14 ⟨rfl, hb⟩; refine ⟨_, rfl, ?_⟩; replace HO264 := am (Kd.R_below (pr HO264.out) hb); replace BK261 := am (blk_below (pb BK261.out) hb); replace HB := am (below_step (bg1 HB.out GE261.out) hb); (try clear hb); (try clear hb2); (try clear hk); (try clear hi); obtain ⟨hcz15_0, hcz15_1⟩ := b2 BK261.out; obtain ⟨hfz15_0, hfz15_1⟩ := f2 BK261.out) | (refine gl 23 Try.func99 #[.slice A0_0 l0_0.length c0_0] rfl ?_; (with_reducible refine (spec_l3Old.calls k _ _ l0_0 t267 _ ?side1 ?side2 A9.out).mono ?_); (case side1 => exact pc (Kd.C_below HR0_0.out HB.out)); (case side2 => exact HC0_0.out); rintro e w16 ⟨rfl, hb⟩; refine ⟨_, rfl, ?_⟩; replace HO264 := am (Kd.R_below (pr HO264.out) hb); replace BK261 := am (blk_below (pb BK261.out) hb); replace HB := am (below_step (bg1 HB.out GE261.out) hb); (try clear hb); (try clear hb2); (try clear hk); (try clear hi)))
 go_loopg [5, 9] k (fun kq v5 v9 w' => ∃ (x5_1 : List (S85)) (x9_1 : Int), v9 = .int .i64 x9_1 ∧ Aside0 (spec_l12Room.l0 kq x5_1 t267 x9_1 l0_0 l0_1 = some (r1, r2, r3)) ∧ Aside0 (kq ≤ k) ∧ Aside0 (Kd.R k85 85 w' w.heap.size (fun _ => True) v5 x5_1) ∧ Aside0 (w'.heap[gb261]? = some (.cells #[(.slice A0_0 l0_0.length c0_0), (.slice A0_1 l0_1.length c0_1)] 41 (0, 0))) ∧ Aside0 (Below w.heap.size w w'))
 case atStart => exact ⟨(y262), (0), rf, H', ⟨Nat.le_refl _⟩, ⟨pr HO264.out⟩, ⟨pb BK261.out⟩, ⟨bg1 HB.out GE261.out⟩⟩
 case round =>
  clear H'
  obtain ⟨x5_1, x9_1, rfl, HA, HK1, HO_5, BK261, HB⟩ := hrel
  cases gk with
  | zero => exact absurd HA.out (by simp [spec_l12Room.l0])
  | succ k1 =>
   have H := HA.out
   clear HA
   simp only [spec_l12Room.l0] at H
   by_cases c17 : x9_1 < 4
   rotate_left
   · rw [if_neg c17] at H
     have c17b0 := decide_eq_false c17
     clear c17
     by_cases c47 : x5_1.length < 2199023255552
     rotate_left
     · rw [if_neg c47] at H
       exact absurd H (by simp)
     rw [if_pos c47] at H
     have LMc47 := am c47
     clear c47
     obtain ⟨y275, hy275⟩ : ∃ y_ : List (S85), y_ = (x5_1 ++ [(⟨2, 0, 0, t267, (⟨0, 0, 0, 0⟩ : S30)⟩ : S85)]) := ⟨_, rfl⟩
     replace H : (if 0 ≤ t267 then (if t267 < (l0_0.length : Int) then (some (y275, t267, decide (((rd_T65 l0_0 t267).f1) < 200))) else (none)) else (none)) = some (r1, r2, r3) := by first | (rw [hy275]; with_reducible exact H) | (have H2_ := (Option.bind_some _ _).symm.trans H; rw [hy275]; with_reducible exact H2_) | (have H2_ := (Option.bind_some _ _).symm.trans H; with_reducible exact H2_) | with_reducible exact H | (rw [hy275]; exact H) | exact H
     have Ny275 := am hy275
     clear hy275
     by_cases c48 : 0 ≤ t267
     rotate_left
     · rw [if_neg c48] at H
       exact absurd H (by simp)
     rw [if_pos c48] at H
     have c48b0 := decide_eq_true c48
     clear c48
     by_cases c49 : t267 < (l0_0.length : Int)
     rotate_left
     · rw [if_neg c49] at H
       exact absurd H (by simp)
     rw [if_pos c49] at H
     have c49b0 := decide_eq_true c49
     clear c49
     simp only [Option.some.injEq, Prod.mk.injEq] at H
     obtain ⟨rfl, rfl, rfl⟩ := H
     try go_wp2
     replace HO_5 := am (Kd.R_drew HO_5.out)
     replace BK261 := am (blk_drew BK261.out)
     replace HB := am (below_drew1 HB.out)
     have p278 : 0 ≤ (t267 : Int) := ofb
     have q278 : t267 < (l0_0.length : Int) := ofb
     obtain ⟨ad278, A278_0, c278_0, e278, hx278_0, hx278_1, hl278_0, hi278_0⟩ := at_T65 HR0_0.out t267 p278 q278
     have hw278_1 := hx278_1
     have hw278_0 := hx278_0
     cases e278
     replace hx278_0 := up HB.out hx278_0
     replace hx278_1 := up HB.out hx278_1
     have HR278_0 := am hi278_0
     have HC278_0 := am hl278_0
     clear hi278_0 hl278_0
     replace p278 := eq_true p278
     replace q278 := eq_true q278
     refine start_ (n := 16) (S := fun w' => w'.cell? ⟨gb261, 0, none⟩ = some (.slice (some ad278) l0_0.length c0_0) ∧ w'.cell? ⟨gb261, 1, none⟩ = some (.slice A0_1 l0_1.length c0_1) ∧ w'.cell? (ad278.add ((t267).toNat * 2)) = some (.slice A278_0 ((rd_T65 l0_0 t267).f0).length c278_0) ∧ w'.cell? ⟨(ad278.add ((t267).toNat * 2)).block, (ad278.add ((t267).toNat * 2)).off + 1, none⟩ = some (.int .i64 ((rd_T65 l0_0 t267).f1))) (ds := []) #[false, false, false, false, false, false, false, false, false, false, false, false, false, false, false, false] (by kernel_rfl) rfl rfl ⟨(blk_cell BK261.out 0).trans rfl, (blk_cell BK261.out 1).trans rfl, ((HB.out.cell (World.block_lt_of_cell? w _ hw278_0)).trans hw278_0), ((HB.out.cell (World.block_lt_of_cell? w _ hw278_1)).trans hw278_1)⟩ (fun hHeld => ?_); refine with_tabW spec_l12Room.tab12 spec_l12Room.bits12 (fun HT_ HW_ => ?_)
     generalize wr.drew = w50 at HO_5 BK261 HB HR278_0 hx278_0 hx278_1 hHeld ⊢
     refine pj_ 0 57 #[true, false, false, false, false, false, false, false, false, false, false, false, false, false, false, false] rfl rfl (any_of HT_.out (by kernel_rfl)) (fun _ _ _ h => h) ?_
     refine pj_ 1 58 #[true, true, false, false, false, false, false, false, false, false, false, false, false, false, false, false] rfl rfl (any_of HT_.out (by kernel_rfl)) (fun _ _ _ h => h) ?_
     refine pj_ 2 59 #[true, true, true, false, false, false, false, false, false, false, false, false, false, false, false, false] rfl rfl (any_of HT_.out (by kernel_rfl)) (fun _ _ _ h => h) ?_
     refine pj_ 5 62 #[true, true, true, false, false, true, false, false, false, false, false, false, false, false, false, false] rfl rfl (any_of HT_.out (by kernel_rfl)) (fun _ _ _ h => h) ?_
     refine pj_ 6 63 #[true, true, true, false, false, true, true, false, false, false, false, false, false, false, false, false] rfl rfl (any_of HT_.out (by kernel_rfl)) (fun _ _ _ h => h) ?_
     refine pj_ 8 65 #[true, true, true, false, false, true, true, false, true, false, false, false, false, false, false, false] rfl rfl (any_of HT_.out (by kernel_rfl)) (fun _ _ _ h => h) ?_
     refine pm_ 7 64 #[true, true, true, false, false, true, true, true, true, false, false, false, false, false, false, false] rfl rfl (take_ofW HT_.out HW_.out (by kernel_rfl)) (fun _ _ _ h => h) hHeld ?_
     refine pj_ 9 66 #[true, true, true, false, false, true, true, true, true, true, false, false, false, false, false, false] rfl rfl (any_of HT_.out (by kernel_rfl)) (fun _ _ _ h => h) ?_
     refine pj_ 10 67 #[true, true, true, false, false, true, true, true, true, true, true, false, false, false, false, false] rfl rfl (any_of HT_.out (by kernel_rfl)) (fun _ _ _ h => h) ?_
     refine pm_ 11 68 #[true, true, true, false, false, true, true, true, true, true, true, true, false, false, false, false] rfl rfl (take_ofW HT_.out HW_.out (by kernel_rfl)) (fun _ _ _ h => h) hHeld ?_
     refine pj_ 12 69 #[true, true, true, false, false, true, true, true, true, true, true, true, true, false, false, false] rfl rfl (any_of HT_.out (by kernel_rfl)) (fun _ _ _ h => h) ?_
     refine one_ (i := 3) (N := some 60) #[true, true, true, true, false, true, true, true, true, true, true, true, true, false, false, false] rfl rfl (one_of HT_.out (by kernel_rfl)) (by decide) (fun K hK => ?_)
     refine value_ (w1 := ?_) (v := ?_) (by rfl) rfl ?_ ?_
     rotate_left 2
     · go_simp
       constructor
       · rfl
       · rfl
     refine hK.out _ _ ⟨(blk_cell (blk_alloc BK261.out _) 0).trans rfl, (blk_cell (blk_alloc BK261.out _) 1).trans rfl, (World.cell?_alloc_lt _ _ _ (World.block_lt_of_cell? _ _ (((HB.out.cell (World.block_lt_of_cell? w _ hw278_0)).trans hw278_0)))).trans (((HB.out.cell (World.block_lt_of_cell? w _ hw278_0)).trans hw278_0)), (World.cell?_alloc_lt _ _ _ (World.block_lt_of_cell? _ _ (((HB.out.cell (World.block_lt_of_cell? w _ hw278_1)).trans hw278_1)))).trans (((HB.out.cell (World.block_lt_of_cell? w _ hw278_1)).trans hw278_1))⟩ (fun hHeld => ?_)
     clear hK K
     refine norm_ (a' := ?_) ?_ ?_
     rotate_left
     · show Act.put _ (some 60) _ = _
       simp only [Act.put, List.setIfInBounds_toArray, List.set_cons_zero, List.set_cons_succ, i64_w, i32_w]
       rfl
     refine one_ (i := 4) (N := some 61) #[true, true, true, true, true, true, true, true, true, true, true, true, true, false, false, false] rfl rfl (one_of HT_.out (by kernel_rfl)) (by decide) (fun K hK => ?_)
     refine Kd.R_append_step k85 (w0 := w) w.heap.size (by rfl) (.tmp 57) (.tmp 60) 48 85 (.agg #[(.int .i64 0), (.int .i64 0), (.int .i64 0), (.int .i64 0), (.int .i64 0), (.int .i64 0), (.int .i64 0), (.int .i64 0)]) 64 rfl Try.underlying48 info85 rfl (by decide) (by omega) u5 x5_1 (⟨2, 0, 0, t267, (⟨0, 0, 0, 0⟩ : S30)⟩ : S85) [.int .i64 2, .int .i64 0, .int .i64 0, .int .i64 t267, .int .i64 0, .int .i64 0, .int .i64 0, .int .i64 0] (fun _ => True) (fun _ => False) rfl rfl ?aP (fun _ hk => hk.elim) ?aF ?aO ?aB ?aS ?aL ?_
     (case aP => exact k85_mkM _ _ _ (⟨2, 0, 0, t267, (⟨0, 0, 0, 0⟩ : S30)⟩ : S85))
     (case aB => exact (bg1 HB.out GE261.out))
     (case aF => exact (fun _ _ => trivial))
     (case aO => exact (pr HO_5.out))
     (case aS => exact (below_size (bg1 HB.out GE261.out)))
     (case aL => have := LMc47.out; omega)
     intro v276 w51 ho hb hg hat
     rw [← Ny275.out] at ho
     replace BK261 := am (blk_grown (g := gb261) (o := .cells #[.slice (some ad278) l0_0.length c0_0, .slice A0_1 l0_1.length c0_1] 41 (0, 0)) (pb BK261.out) hg (Kd.R_ne HO_5.out BK261.out (by decide)))
     replace HB := am (hb)
     have HO277 := am (ho)
     clear HO_5
     clear ho hb hg hat
     refine hK.out _ _ ⟨(blk_cell BK261.out 0).trans rfl, (blk_cell BK261.out 1).trans rfl, ((HB.out.cell (World.block_lt_of_cell? w _ hw278_0)).trans hw278_0), ((HB.out.cell (World.block_lt_of_cell? w _ hw278_1)).trans hw278_1)⟩ (fun hHeld => ?_)
     clear hK K
     refine norm_ (a' := ?_) ?_ ?_
     rotate_left
     · show Act.put _ (some 61) _ = _
       simp only [Act.put, List.setIfInBounds_toArray, List.set_cons_zero, List.set_cons_succ, i64_w, i32_w]
       rfl
     refine pj_ 13 2 #[true, true, true, true, true, true, true, true, true, true, true, true, true, true, false, false] rfl rfl (any_of HT_.out (by kernel_rfl)) (fun _ _ _ h => h) ?_
     refine pj_ 14 3 #[true, true, true, true, true, true, true, true, true, true, true, true, true, true, true, false] rfl rfl (any_of HT_.out (by kernel_rfl)) (fun _ _ _ h => h) ?_
     refine pj_ 15 4 #[true, true, true, true, true, true, true, true, true, true, true, true, true, true, true, true] rfl rfl (any_of HT_.out (by kernel_rfl)) (fun _ _ _ h => h) ?_
     refine done_ (done_of HT_.out (by kernel_rfl)) ?_
     try go_wp2
     go_ret3
     exact ⟨_, rq ⟨pr HO277.out, bg1 HB.out GE261.out⟩⟩
   rw [if_pos c17] at H
   have c17b0 := decide_eq_true c17
   clear c17
   by_cases c18 : 0 ≤ t267
   rotate_left
   · rw [if_neg c18] at H
     exact absurd H (by simp)
   rw [if_pos c18] at H
   have c18b0 := decide_eq_true c18
   clear c18
   by_cases c19 : t267 < (l0_0.length : Int)
   rotate_left
   · rw [if_neg c19] at H
     exact absurd H (by simp)
   rw [if_pos c19] at H
   have c19b0 := decide_eq_true c19
   clear c19
   by_cases c20 : 0 ≤ x9_1
   rotate_left
   · rw [if_neg c20] at H
     exact absurd H (by simp)
   rw [if_pos c20] at H
   have c20b0 := decide_eq_true c20
   clear c20
   by_cases c21 : x9_1 < (((rd_T65 l0_0 t267).f0).length : Int)
   rotate_left
   · rw [if_neg c21] at H
     exact absurd H (by simp)
   rw [if_pos c21] at H
   have c21b0 := decide_eq_true c21
   clear c21
   replace H := Option.bind_eq_some_iff.mp H
   obtain ⟨t271, A220, H⟩ := H
   replace H : (if t271 = true then (if ((rd_T71 ((rd_T65 l0_0 t267).f0) x9_1).f1.f0) = 1 then (if x5_1.length < 2199023255552 then (spec_l12Room.l0 k1 (x5_1 ++ [(⟨1, (rd_T71 ((rd_T65 l0_0 t267).f0) x9_1).f1.f2, (rd_T71 ((rd_T65 l0_0 t267).f0) x9_1).f1.f3, 0, (⟨0, 0, 0, 0⟩ : S30)⟩ : S85)]) t267 (wrap64 (x9_1 + 1)) l0_0 l0_1) else (none)) else (spec_l12Room.l0 k1 x5_1 t267 (wrap64 (x9_1 + 1)) l0_0 l0_1)) else (spec_l12Room.l0 k1 x5_1 t267 (wrap64 (x9_1 + 1)) l0_0 l0_1)) = some (r1, r2, r3) := H
   have A22 := am A220
   clear A220
   by_cases c23 : t271 = true
   rotate_left
   · replace c23 := Bool.eq_false_iff.mpr c23
     subst c23
     have H1 : (spec_l12Room.l0 k1 x5_1 t267 (wrap64 (x9_1 + 1)) l0_0 l0_1) = some (r1, r2, r3) := by rw [if_neg (show ¬ (false = true) by decide)] at H; exact H
     clear H
     have H := H1
     clear H1
     have H' := am H
     clear H
     obtain ⟨hcz41_0, hcz41_1⟩ := b2 BK261.out
     obtain ⟨hfz41_0, hfz41_1⟩ := f2 BK261.out
     have p268 : 0 ≤ (t267 : Int) := ofb
     have q268 : t267 < (l0_0.length : Int) := ofb
     obtain ⟨ad268, A268_0, c268_0, e268, hx268_0, hx268_1, hl268_0, hi268_0⟩ := at_T65 HR0_0.out t267 p268 q268
     cases e268
     replace hx268_0 := up HB.out hx268_0
     replace hx268_1 := up HB.out hx268_1
     have HR268_0 := am hi268_0
     have HC268_0 := am hl268_0
     clear hi268_0 hl268_0
     replace p268 := eq_true p268
     replace q268 := eq_true q268
     have p269 : 0 ≤ (x9_1 : Int) := ofb
     have q269 : x9_1 < (((rd_T65 l0_0 t267).f0).length : Int) := ofb
     obtain ⟨ad269, e269, hx269_0, hx269_1, hx269_2, hx269_3, hx269_4⟩ := at_T71 HR268_0.out x9_1 p269 q269
     cases e269
     replace hx269_0 := up HB.out hx269_0
     replace hx269_1 := up HB.out hx269_1
     replace hx269_2 := up HB.out hx269_2
     replace hx269_3 := up HB.out hx269_3
     replace hx269_4 := up HB.out hx269_4
     replace p269 := eq_true p269
     replace q269 := eq_true q269
     go_wp2_with (first | (refine bx 10 #[.int .i64 0, .int .i64 0, .int .i64 0, .int .i64 0, .int .i64 0] 71 rfl ?_; intro gb270 hg w42 hbox hb; replace HO_5 := am (Kd.R_below (pr HO_5.out) hb); have BK270 := am (hbox); have GW270 := am ((by rw [hg]; exact (below_size (bg1 HB.out GE261.out)) : w.heap.size ≤ gb270)); have GE270 := GW270; replace HB := am (below_step (bg1 HB.out GE261.out) hb); have NB261_270 := am ((by rw [hg]; exact Nat.ne_of_lt (blk_lt (pb BK261.out)) : gb261 ≠ gb270)); have NB270_261 := am (Ne.symm NB261_270.out); replace BK261 := am (blk_below (pb BK261.out) hb); clear hb hbox hg; have hnb43 := NB270_261.out; have hnc43 := NB261_270.out; obtain ⟨hcz44_0, hcz44_1, hcz44_2, hcz44_3, hcz44_4⟩ := b5 BK270.out; obtain ⟨hfz44_0, hfz44_1, hfz44_2, hfz44_3, hfz44_4⟩ := f5 BK270.out; obtain ⟨hcz45_0, hcz45_1⟩ := b2 BK261.out; obtain ⟨hfz45_0, hfz45_1⟩ := f2 BK261.out) | (refine gl 40 Try.func100 #[.slice (some ad268) l0_0.length c0_0, .agg #[.int .i64 ((rd_T71 ((rd_T65 l0_0 t267).f0) x9_1).f0), .int .i64 ((rd_T71 ((rd_T65 l0_0 t267).f0) x9_1).f1.f0), .int .i64 ((rd_T71 ((rd_T65 l0_0 t267).f0) x9_1).f1.f1), .int .i64 ((rd_T71 ((rd_T65 l0_0 t267).f0) x9_1).f1.f2), .int .i64 ((rd_T71 ((rd_T65 l0_0 t267).f0) x9_1).f1.f3)]] rfl ?_; (with_reducible refine (spec_l3Live.calls k1 _ _ l0_0 ((rd_T71 ((rd_T65 l0_0 t267).f0) x9_1).f0) ((rd_T71 ((rd_T65 l0_0 t267).f0) x9_1).f1.f0) ((rd_T71 ((rd_T65 l0_0 t267).f0) x9_1).f1.f1) ((rd_T71 ((rd_T65 l0_0 t267).f0) x9_1).f1.f2) ((rd_T71 ((rd_T65 l0_0 t267).f0) x9_1).f1.f3) false _ ?side1 ?side2 A22.out).mono ?_); (case side1 => exact Kd.C_below HR0_0.out (bg2 HB.out GE261.out GE270.out)); (case side2 => exact HC0_0.out); rintro e w46 ⟨rfl, hb⟩; refine ⟨_, rfl, ?_⟩; replace HO_5 := am (Kd.R_below (by (with_reducible repeat (first | apply Kd.R_alloc | apply Kd.R_drewN | apply Kd.R_drew)); exact (Kd.R_mono (Kd.R_far (p := ⟨gb270, 4, none⟩) (Kd.R_far (p := ⟨gb270, 3, none⟩) (Kd.R_far (p := ⟨gb270, 2, none⟩) (Kd.R_far (p := ⟨gb270, 1, none⟩) (Kd.R_far (p := ⟨gb270, 0, none⟩) (Kd.R_types HO_5.out BK270.out (by decide)) (fun _ hk => hk.2) (.int .i64 ((rd_T71 ((rd_T65 l0_0 t267).f0) x9_1).f0))) (fun _ hk => hk.2) (.int .i64 ((rd_T71 ((rd_T65 l0_0 t267).f0) x9_1).f1.f0))) (fun _ hk => hk.2) (.int .i64 ((rd_T71 ((rd_T65 l0_0 t267).f0) x9_1).f1.f1))) (fun _ hk => hk.2) (.int .i64 ((rd_T71 ((rd_T65 l0_0 t267).f0) x9_1).f1.f2))) (fun _ hk => hk.2) (.int .i64 ((rd_T71 ((rd_T65 l0_0 t267).f0) x9_1).f1.f3))) (fun _ h_ => h_.1))) hb); replace BK261 := am (blk_below (g := gb261) (o := .cells #[.slice (some ad268) l0_0.length c0_0, .slice A0_1 l0_1.length c0_1] 41 (0, 0)) (by (with_reducible repeat (first | refine blk_drewN ?_ _ | refine blk_drew ?_ | refine blk_alloc ?_ _)); refine blk_far ?_ NB261_270.out _; (with_reducible repeat (first | refine blk_drewN ?_ _ | refine blk_drew ?_ | refine blk_alloc ?_ _)); refine blk_far ?_ NB261_270.out _; (with_reducible repeat (first | refine blk_drewN ?_ _ | refine blk_drew ?_ | refine blk_alloc ?_ _)); refine blk_far ?_ NB261_270.out _; (with_reducible repeat (first | refine blk_drewN ?_ _ | refine blk_drew ?_ | refine blk_alloc ?_ _)); refine blk_far ?_ NB261_270.out _; (with_reducible repeat (first | refine blk_drewN ?_ _ | refine blk_drew ?_ | refine blk_alloc ?_ _)); refine blk_far ?_ NB261_270.out _; (with_reducible repeat (first | refine blk_drewN ?_ _ | refine blk_drew ?_ | refine blk_alloc ?_ _)); exact BK261.out) hb); replace BK270 := am (blk_below (g := gb270) (o := .cells #[.int .i64 ((rd_T71 ((rd_T65 l0_0 t267).f0) x9_1).f0), .int .i64 ((rd_T71 ((rd_T65 l0_0 t267).f0) x9_1).f1.f0), .int .i64 ((rd_T71 ((rd_T65 l0_0 t267).f0) x9_1).f1.f1), .int .i64 ((rd_T71 ((rd_T65 l0_0 t267).f0) x9_1).f1.f2), .int .i64 ((rd_T71 ((rd_T65 l0_0 t267).f0) x9_1).f1.f3)] 71 (0, 0)) (by (with_reducible repeat (first | refine blk_drewN ?_ _ | refine blk_drew ?_ | refine blk_alloc ?_ _)); refine blk_put (cs := #[.int .i64 ((rd_T71 ((rd_T65 l0_0 t267).f0) x9_1).f0), .int .i64 ((rd_T71 ((rd_T65 l0_0 t267).f0) x9_1).f1.f0), .int .i64 ((rd_T71 ((rd_T65 l0_0 t267).f0) x9_1).f1.f1), .int .i64 ((rd_T71 ((rd_T65 l0_0 t267).f0) x9_1).f1.f2), .int .i64 0]) ?_ 4 _ rfl; (with_reducible repeat (first | refine blk_drewN ?_ _ | refine blk_drew ?_ | refine blk_alloc ?_ _)); refine blk_put (cs := #[.int .i64 ((rd_T71 ((rd_T65 l0_0 t267).f0) x9_1).f0), .int .i64 ((rd_T71 ((rd_T65 l0_0 t267).f0) x9_1).f1.f0), .int .i64 ((rd_T71 ((rd_T65 l0_0 t267).f0) x9_1).f1.f1), .int .i64 0, .int .i64 0]) ?_ 3 _ rfl; (with_reducible repeat (first | refine blk_drewN ?_ _ | refine blk_drew ?_ | refine blk_alloc ?_ _)); refine blk_put (cs := #[.int .i64 ((rd_T71 ((rd_T65 l0_0 t267).f0) x9_1).f0), .int .i64 ((rd_T71 ((rd_T65 l0_0 t267).f0) x9_1).f1.f0), .int .i64 0, .int .i64 0, .int .i64 0]) ?_ 2 _ rfl; (with_reducible repeat (first | refine blk_drewN ?_ _ | refine blk_drew ?_ | refine blk_alloc ?_ _)); refine blk_put (cs := #[.int .i64 ((rd_T71 ((rd_T65 l0_0 t267).f0) x9_1).f0), .int .i64 0, .int .i64 0, .int .i64 0, .int .i64 0]) ?_ 1 _ rfl; (with_reducible repeat (first | refine blk_drewN ?_ _ | refine blk_drew ?_ | refine blk_alloc ?_ _)); refine blk_put (cs := #[.int .i64 0, .int .i64 0, .int .i64 0, .int .i64 0, .int .i64 0]) ?_ 0 _ rfl; (with_reducible repeat (first | refine blk_drewN ?_ _ | refine blk_drew ?_ | refine blk_alloc ?_ _)); exact BK270.out) hb); replace HB := am (below_step (bg2 HB.out GE261.out GE270.out) hb); (try clear hb); (try clear hb2); (try clear hk); (try clear hi)))
     go_roundg k1
     case measure => have := HK1.out; omega
     case rel => exact ⟨(x5_1), (wrap64 (x9_1 + 1)), rf, H', ⟨by have := HK1.out; omega⟩, ⟨pr HO_5.out⟩, ⟨pb BK261.out⟩, ⟨bg2 HB.out GE261.out GE270.out⟩⟩
   subst c23
   have H1 : (if ((rd_T71 ((rd_T65 l0_0 t267).f0) x9_1).f1.f0) = 1 then (if x5_1.length < 2199023255552 then (spec_l12Room.l0 k1 (x5_1 ++ [(⟨1, (rd_T71 ((rd_T65 l0_0 t267).f0) x9_1).f1.f2, (rd_T71 ((rd_T65 l0_0 t267).f0) x9_1).f1.f3, 0, (⟨0, 0, 0, 0⟩ : S30)⟩ : S85)]) t267 (wrap64 (x9_1 + 1)) l0_0 l0_1) else (none)) else (spec_l12Room.l0 k1 x5_1 t267 (wrap64 (x9_1 + 1)) l0_0 l0_1)) = some (r1, r2, r3) := by rw [if_pos rfl] at H; exact H
   clear H
   have H := H1
   clear H1
   by_cases c24 : ((rd_T71 ((rd_T65 l0_0 t267).f0) x9_1).f1.f0) = 1
   rotate_left
   · rw [if_neg c24] at H
     have c24b0 : (((rd_T71 ((rd_T65 l0_0 t267).f0) x9_1).f1.f0) == 1) = false := beq_eq_false_iff_ne.mpr c24
     have c24b1 : (((rd_T71 ((rd_T65 l0_0 t267).f0) x9_1).f1.f0) != 1) = true := bne_iff_ne.mpr c24
     have H' := am H
     clear H
     obtain ⟨hcz34_0, hcz34_1⟩ := b2 BK261.out
     obtain ⟨hfz34_0, hfz34_1⟩ := f2 BK261.out
     have p268 : 0 ≤ (t267 : Int) := ofb
     have q268 : t267 < (l0_0.length : Int) := ofb
     obtain ⟨ad268, A268_0, c268_0, e268, hx268_0, hx268_1, hl268_0, hi268_0⟩ := at_T65 HR0_0.out t267 p268 q268
     cases e268
     replace hx268_0 := up HB.out hx268_0
     replace hx268_1 := up HB.out hx268_1
     have HR268_0 := am hi268_0
     have HC268_0 := am hl268_0
     clear hi268_0 hl268_0
     replace p268 := eq_true p268
     replace q268 := eq_true q268
     have p269 : 0 ≤ (x9_1 : Int) := ofb
     have q269 : x9_1 < (((rd_T65 l0_0 t267).f0).length : Int) := ofb
     obtain ⟨ad269, e269, hx269_0, hx269_1, hx269_2, hx269_3, hx269_4⟩ := at_T71 HR268_0.out x9_1 p269 q269
     cases e269
     replace hx269_0 := up HB.out hx269_0
     replace hx269_1 := up HB.out hx269_1
     replace hx269_2 := up HB.out hx269_2
     replace hx269_3 := up HB.out hx269_3
     replace hx269_4 := up HB.out hx269_4
     replace p269 := eq_true p269
     replace q269 := eq_true q269
     go_wp2_with (first | (refine bx 10 #[.int .i64 0, .int .i64 0, .int .i64 0, .int .i64 0, .int .i64 0] 71 rfl ?_; intro gb270 hg w35 hbox hb; replace HO_5 := am (Kd.R_below (pr HO_5.out) hb); have BK270 := am (hbox); have GW270 := am ((by rw [hg]; exact (below_size (bg1 HB.out GE261.out)) : w.heap.size ≤ gb270)); have GE270 := GW270; replace HB := am (below_step (bg1 HB.out GE261.out) hb); have NB261_270 := am ((by rw [hg]; exact Nat.ne_of_lt (blk_lt (pb BK261.out)) : gb261 ≠ gb270)); have NB270_261 := am (Ne.symm NB261_270.out); replace BK261 := am (blk_below (pb BK261.out) hb); clear hb hbox hg; have hnb36 := NB270_261.out; have hnc36 := NB261_270.out; obtain ⟨hcz37_0, hcz37_1, hcz37_2, hcz37_3, hcz37_4⟩ := b5 BK270.out; obtain ⟨hfz37_0, hfz37_1, hfz37_2, hfz37_3, hfz37_4⟩ := f5 BK270.out; obtain ⟨hcz38_0, hcz38_1⟩ := b2 BK261.out; obtain ⟨hfz38_0, hfz38_1⟩ := f2 BK261.out) | (refine gl 40 Try.func100 #[.slice (some ad268) l0_0.length c0_0, .agg #[.int .i64 ((rd_T71 ((rd_T65 l0_0 t267).f0) x9_1).f0), .int .i64 ((rd_T71 ((rd_T65 l0_0 t267).f0) x9_1).f1.f0), .int .i64 ((rd_T71 ((rd_T65 l0_0 t267).f0) x9_1).f1.f1), .int .i64 ((rd_T71 ((rd_T65 l0_0 t267).f0) x9_1).f1.f2), .int .i64 ((rd_T71 ((rd_T65 l0_0 t267).f0) x9_1).f1.f3)]] rfl ?_; (with_reducible refine (spec_l3Live.calls k1 _ _ l0_0 ((rd_T71 ((rd_T65 l0_0 t267).f0) x9_1).f0) ((rd_T71 ((rd_T65 l0_0 t267).f0) x9_1).f1.f0) ((rd_T71 ((rd_T65 l0_0 t267).f0) x9_1).f1.f1) ((rd_T71 ((rd_T65 l0_0 t267).f0) x9_1).f1.f2) ((rd_T71 ((rd_T65 l0_0 t267).f0) x9_1).f1.f3) true _ ?side1 ?side2 A22.out).mono ?_); (case side1 => exact Kd.C_below HR0_0.out (bg2 HB.out GE261.out GE270.out)); (case side2 => exact HC0_0.out); rintro e w39 ⟨rfl, hb⟩; refine ⟨_, rfl, ?_⟩; replace HO_5 := am (Kd.R_below (by (with_reducible repeat (first | apply Kd.R_alloc | apply Kd.R_drewN | apply Kd.R_drew)); exact (Kd.R_mono (Kd.R_far (p := ⟨gb270, 4, none⟩) (Kd.R_far (p := ⟨gb270, 3, none⟩) (Kd.R_far (p := ⟨gb270, 2, none⟩) (Kd.R_far (p := ⟨gb270, 1, none⟩) (Kd.R_far (p := ⟨gb270, 0, none⟩) (Kd.R_types HO_5.out BK270.out (by decide)) (fun _ hk => hk.2) (.int .i64 ((rd_T71 ((rd_T65 l0_0 t267).f0) x9_1).f0))) (fun _ hk => hk.2) (.int .i64 ((rd_T71 ((rd_T65 l0_0 t267).f0) x9_1).f1.f0))) (fun _ hk => hk.2) (.int .i64 ((rd_T71 ((rd_T65 l0_0 t267).f0) x9_1).f1.f1))) (fun _ hk => hk.2) (.int .i64 ((rd_T71 ((rd_T65 l0_0 t267).f0) x9_1).f1.f2))) (fun _ hk => hk.2) (.int .i64 ((rd_T71 ((rd_T65 l0_0 t267).f0) x9_1).f1.f3))) (fun _ h_ => h_.1))) hb); replace BK261 := am (blk_below (g := gb261) (o := .cells #[.slice (some ad268) l0_0.length c0_0, .slice A0_1 l0_1.length c0_1] 41 (0, 0)) (by (with_reducible repeat (first | refine blk_drewN ?_ _ | refine blk_drew ?_ | refine blk_alloc ?_ _)); refine blk_far ?_ NB261_270.out _; (with_reducible repeat (first | refine blk_drewN ?_ _ | refine blk_drew ?_ | refine blk_alloc ?_ _)); refine blk_far ?_ NB261_270.out _; (with_reducible repeat (first | refine blk_drewN ?_ _ | refine blk_drew ?_ | refine blk_alloc ?_ _)); refine blk_far ?_ NB261_270.out _; (with_reducible repeat (first | refine blk_drewN ?_ _ | refine blk_drew ?_ | refine blk_alloc ?_ _)); refine blk_far ?_ NB261_270.out _; (with_reducible repeat (first | refine blk_drewN ?_ _ | refine blk_drew ?_ | refine blk_alloc ?_ _)); refine blk_far ?_ NB261_270.out _; (with_reducible repeat (first | refine blk_drewN ?_ _ | refine blk_drew ?_ | refine blk_alloc ?_ _)); exact BK261.out) hb); replace BK270 := am (blk_below (g := gb270) (o := .cells #[.int .i64 ((rd_T71 ((rd_T65 l0_0 t267).f0) x9_1).f0), .int .i64 ((rd_T71 ((rd_T65 l0_0 t267).f0) x9_1).f1.f0), .int .i64 ((rd_T71 ((rd_T65 l0_0 t267).f0) x9_1).f1.f1), .int .i64 ((rd_T71 ((rd_T65 l0_0 t267).f0) x9_1).f1.f2), .int .i64 ((rd_T71 ((rd_T65 l0_0 t267).f0) x9_1).f1.f3)] 71 (0, 0)) (by (with_reducible repeat (first | refine blk_drewN ?_ _ | refine blk_drew ?_ | refine blk_alloc ?_ _)); refine blk_put (cs := #[.int .i64 ((rd_T71 ((rd_T65 l0_0 t267).f0) x9_1).f0), .int .i64 ((rd_T71 ((rd_T65 l0_0 t267).f0) x9_1).f1.f0), .int .i64 ((rd_T71 ((rd_T65 l0_0 t267).f0) x9_1).f1.f1), .int .i64 ((rd_T71 ((rd_T65 l0_0 t267).f0) x9_1).f1.f2), .int .i64 0]) ?_ 4 _ rfl; (with_reducible repeat (first | refine blk_drewN ?_ _ | refine blk_drew ?_ | refine blk_alloc ?_ _)); refine blk_put (cs := #[.int .i64 ((rd_T71 ((rd_T65 l0_0 t267).f0) x9_1).f0), .int .i64 ((rd_T71 ((rd_T65 l0_0 t267).f0) x9_1).f1.f0), .int .i64 ((rd_T71 ((rd_T65 l0_0 t267).f0) x9_1).f1.f1), .int .i64 0, .int .i64 0]) ?_ 3 _ rfl; (with_reducible repeat (first | refine blk_drewN ?_ _ | refine blk_drew ?_ | refine blk_alloc ?_ _)); refine blk_put (cs := #[.int .i64 ((rd_T71 ((rd_T65 l0_0 t267).f0) x9_1).f0), .int .i64 ((rd_T71 ((rd_T65 l0_0 t267).f0) x9_1).f1.f0), .int .i64 0, .int .i64 0, .int .i64 0]) ?_ 2 _ rfl; (with_reducible repeat (first | refine blk_drewN ?_ _ | refine blk_drew ?_ | refine blk_alloc ?_ _)); refine blk_put (cs := #[.int .i64 ((rd_T71 ((rd_T65 l0_0 t267).f0) x9_1).f0), .int .i64 0, .int .i64 0, .int .i64 0, .int .i64 0]) ?_ 1 _ rfl; (with_reducible repeat (first | refine blk_drewN ?_ _ | refine blk_drew ?_ | refine blk_alloc ?_ _)); refine blk_put (cs := #[.int .i64 0, .int .i64 0, .int .i64 0, .int .i64 0, .int .i64 0]) ?_ 0 _ rfl; (with_reducible repeat (first | refine blk_drewN ?_ _ | refine blk_drew ?_ | refine blk_alloc ?_ _)); exact BK270.out) hb); replace HB := am (below_step (bg2 HB.out GE261.out GE270.out) hb); (try clear hb); (try clear hb2); (try clear hk); (try clear hi); have hcz40_0 : w39.cell? ⟨gb270, 0, none⟩ = some (.int .i64 ((rd_T71 ((rd_T65 l0_0 t267).f0) x9_1).f0)) := (blk_cell BK270.out 0).trans rfl; have hcz40_1 : w39.cell? ⟨gb270, 1, none⟩ = some (.int .i64 ((rd_T71 ((rd_T65 l0_0 t267).f0) x9_1).f1.f0)) := (blk_cell BK270.out 1).trans rfl; have hcz40_2 : w39.cell? ⟨gb270, 2, none⟩ = some (.int .i64 ((rd_T71 ((rd_T65 l0_0 t267).f0) x9_1).f1.f1)) := (blk_cell BK270.out 2).trans rfl; have hcz40_3 : w39.cell? ⟨gb270, 3, none⟩ = some (.int .i64 ((rd_T71 ((rd_T65 l0_0 t267).f0) x9_1).f1.f2)) := (blk_cell BK270.out 3).trans rfl; have hcz40_4 : w39.cell? ⟨gb270, 4, none⟩ = some (.int .i64 ((rd_T71 ((rd_T65 l0_0 t267).f0) x9_1).f1.f3)) := (blk_cell BK270.out 4).trans rfl; obtain ⟨hfz40_0, hfz40_1, hfz40_2, hfz40_3, hfz40_4⟩ := f5 BK270.out))
     go_roundg k1
     case measure => have := HK1.out; omega
     case rel => exact ⟨(x5_1), (wrap64 (x9_1 + 1)), rf, H', ⟨by have := HK1.out; omega⟩, ⟨pr HO_5.out⟩, ⟨pb BK261.out⟩, ⟨bg2 HB.out GE261.out GE270.out⟩⟩
   rw [if_pos c24] at H
   have c24b0 : (((rd_T71 ((rd_T65 l0_0 t267).f0) x9_1).f1.f0) == 1) = true := beq_iff_eq.mpr c24
   have c24b1 : (((rd_T71 ((rd_T65 l0_0 t267).f0) x9_1).f1.f0) != 1) = false := bne_eq_false_iff_eq.mpr c24
   clear c24
   by_cases c25 : x5_1.length < 2199023255552
   rotate_left
   · rw [if_neg c25] at H
     exact absurd H (by simp)
   rw [if_pos c25] at H
   have LMc25 := am c25
   clear c25
   obtain ⟨y272, hy272⟩ : ∃ y_ : List (S85), y_ = (x5_1 ++ [(⟨1, (rd_T71 ((rd_T65 l0_0 t267).f0) x9_1).f1.f2, (rd_T71 ((rd_T65 l0_0 t267).f0) x9_1).f1.f3, 0, (⟨0, 0, 0, 0⟩ : S30)⟩ : S85)]) := ⟨_, rfl⟩
   replace H : (spec_l12Room.l0 k1 y272 t267 (wrap64 (x9_1 + 1)) l0_0 l0_1) = some (r1, r2, r3) := by first | (rw [hy272]; with_reducible exact H) | (have H2_ := (Option.bind_some _ _).symm.trans H; rw [hy272]; with_reducible exact H2_) | (have H2_ := (Option.bind_some _ _).symm.trans H; with_reducible exact H2_) | with_reducible exact H | (rw [hy272]; exact H) | exact H
   have Ny272 := am hy272
   clear hy272
   have H' := am H
   clear H
   obtain ⟨hcz26_0, hcz26_1⟩ := b2 BK261.out
   obtain ⟨hfz26_0, hfz26_1⟩ := f2 BK261.out
   have p268 : 0 ≤ (t267 : Int) := ofb
   have q268 : t267 < (l0_0.length : Int) := ofb
   obtain ⟨ad268, A268_0, c268_0, e268, hx268_0, hx268_1, hl268_0, hi268_0⟩ := at_T65 HR0_0.out t267 p268 q268
   cases e268
   replace hx268_0 := up HB.out hx268_0
   replace hx268_1 := up HB.out hx268_1
   have HR268_0 := am hi268_0
   have HC268_0 := am hl268_0
   clear hi268_0 hl268_0
   replace p268 := eq_true p268
   replace q268 := eq_true q268
   have p269 : 0 ≤ (x9_1 : Int) := ofb
   have q269 : x9_1 < (((rd_T65 l0_0 t267).f0).length : Int) := ofb
   obtain ⟨ad269, e269, hx269_0, hx269_1, hx269_2, hx269_3, hx269_4⟩ := at_T71 HR268_0.out x9_1 p269 q269
   cases e269
   replace hx269_0 := up HB.out hx269_0
   replace hx269_1 := up HB.out hx269_1
   replace hx269_2 := up HB.out hx269_2
   replace hx269_3 := up HB.out hx269_3
   replace hx269_4 := up HB.out hx269_4
   replace p269 := eq_true p269
   replace q269 := eq_true q269
   go_wp2_with (first | (refine bx 10 #[.int .i64 0, .int .i64 0, .int .i64 0, .int .i64 0, .int .i64 0] 71 rfl ?_; intro gb270 hg w27 hbox hb; replace HO_5 := am (Kd.R_below (pr HO_5.out) hb); have BK270 := am (hbox); have GW270 := am ((by rw [hg]; exact (below_size (bg1 HB.out GE261.out)) : w.heap.size ≤ gb270)); have GE270 := GW270; replace HB := am (below_step (bg1 HB.out GE261.out) hb); have NB261_270 := am ((by rw [hg]; exact Nat.ne_of_lt (blk_lt (pb BK261.out)) : gb261 ≠ gb270)); have NB270_261 := am (Ne.symm NB261_270.out); replace BK261 := am (blk_below (pb BK261.out) hb); clear hb hbox hg; have hnb28 := NB270_261.out; have hnc28 := NB261_270.out; obtain ⟨hcz29_0, hcz29_1, hcz29_2, hcz29_3, hcz29_4⟩ := b5 BK270.out; obtain ⟨hfz29_0, hfz29_1, hfz29_2, hfz29_3, hfz29_4⟩ := f5 BK270.out; obtain ⟨hcz30_0, hcz30_1⟩ := b2 BK261.out; obtain ⟨hfz30_0, hfz30_1⟩ := f2 BK261.out) | (refine gl 40 Try.func100 #[.slice (some ad268) l0_0.length c0_0, .agg #[.int .i64 ((rd_T71 ((rd_T65 l0_0 t267).f0) x9_1).f0), .int .i64 ((rd_T71 ((rd_T65 l0_0 t267).f0) x9_1).f1.f0), .int .i64 ((rd_T71 ((rd_T65 l0_0 t267).f0) x9_1).f1.f1), .int .i64 ((rd_T71 ((rd_T65 l0_0 t267).f0) x9_1).f1.f2), .int .i64 ((rd_T71 ((rd_T65 l0_0 t267).f0) x9_1).f1.f3)]] rfl ?_; (with_reducible refine (spec_l3Live.calls k1 _ _ l0_0 ((rd_T71 ((rd_T65 l0_0 t267).f0) x9_1).f0) ((rd_T71 ((rd_T65 l0_0 t267).f0) x9_1).f1.f0) ((rd_T71 ((rd_T65 l0_0 t267).f0) x9_1).f1.f1) ((rd_T71 ((rd_T65 l0_0 t267).f0) x9_1).f1.f2) ((rd_T71 ((rd_T65 l0_0 t267).f0) x9_1).f1.f3) true _ ?side1 ?side2 A22.out).mono ?_); (case side1 => exact Kd.C_below HR0_0.out (bg2 HB.out GE261.out GE270.out)); (case side2 => exact HC0_0.out); rintro e w31 ⟨rfl, hb⟩; refine ⟨_, rfl, ?_⟩; replace HO_5 := am (Kd.R_below (by (with_reducible repeat (first | apply Kd.R_alloc | apply Kd.R_drewN | apply Kd.R_drew)); exact (Kd.R_mono (Kd.R_far (p := ⟨gb270, 4, none⟩) (Kd.R_far (p := ⟨gb270, 3, none⟩) (Kd.R_far (p := ⟨gb270, 2, none⟩) (Kd.R_far (p := ⟨gb270, 1, none⟩) (Kd.R_far (p := ⟨gb270, 0, none⟩) (Kd.R_types HO_5.out BK270.out (by decide)) (fun _ hk => hk.2) (.int .i64 ((rd_T71 ((rd_T65 l0_0 t267).f0) x9_1).f0))) (fun _ hk => hk.2) (.int .i64 ((rd_T71 ((rd_T65 l0_0 t267).f0) x9_1).f1.f0))) (fun _ hk => hk.2) (.int .i64 ((rd_T71 ((rd_T65 l0_0 t267).f0) x9_1).f1.f1))) (fun _ hk => hk.2) (.int .i64 ((rd_T71 ((rd_T65 l0_0 t267).f0) x9_1).f1.f2))) (fun _ hk => hk.2) (.int .i64 ((rd_T71 ((rd_T65 l0_0 t267).f0) x9_1).f1.f3))) (fun _ h_ => h_.1))) hb); replace BK261 := am (blk_below (g := gb261) (o := .cells #[.slice (some ad268) l0_0.length c0_0, .slice A0_1 l0_1.length c0_1] 41 (0, 0)) (by (with_reducible repeat (first | refine blk_drewN ?_ _ | refine blk_drew ?_ | refine blk_alloc ?_ _)); refine blk_far ?_ NB261_270.out _; (with_reducible repeat (first | refine blk_drewN ?_ _ | refine blk_drew ?_ | refine blk_alloc ?_ _)); refine blk_far ?_ NB261_270.out _; (with_reducible repeat (first | refine blk_drewN ?_ _ | refine blk_drew ?_ | refine blk_alloc ?_ _)); refine blk_far ?_ NB261_270.out _; (with_reducible repeat (first | refine blk_drewN ?_ _ | refine blk_drew ?_ | refine blk_alloc ?_ _)); refine blk_far ?_ NB261_270.out _; (with_reducible repeat (first | refine blk_drewN ?_ _ | refine blk_drew ?_ | refine blk_alloc ?_ _)); refine blk_far ?_ NB261_270.out _; (with_reducible repeat (first | refine blk_drewN ?_ _ | refine blk_drew ?_ | refine blk_alloc ?_ _)); exact BK261.out) hb); replace BK270 := am (blk_below (g := gb270) (o := .cells #[.int .i64 ((rd_T71 ((rd_T65 l0_0 t267).f0) x9_1).f0), .int .i64 ((rd_T71 ((rd_T65 l0_0 t267).f0) x9_1).f1.f0), .int .i64 ((rd_T71 ((rd_T65 l0_0 t267).f0) x9_1).f1.f1), .int .i64 ((rd_T71 ((rd_T65 l0_0 t267).f0) x9_1).f1.f2), .int .i64 ((rd_T71 ((rd_T65 l0_0 t267).f0) x9_1).f1.f3)] 71 (0, 0)) (by (with_reducible repeat (first | refine blk_drewN ?_ _ | refine blk_drew ?_ | refine blk_alloc ?_ _)); refine blk_put (cs := #[.int .i64 ((rd_T71 ((rd_T65 l0_0 t267).f0) x9_1).f0), .int .i64 ((rd_T71 ((rd_T65 l0_0 t267).f0) x9_1).f1.f0), .int .i64 ((rd_T71 ((rd_T65 l0_0 t267).f0) x9_1).f1.f1), .int .i64 ((rd_T71 ((rd_T65 l0_0 t267).f0) x9_1).f1.f2), .int .i64 0]) ?_ 4 _ rfl; (with_reducible repeat (first | refine blk_drewN ?_ _ | refine blk_drew ?_ | refine blk_alloc ?_ _)); refine blk_put (cs := #[.int .i64 ((rd_T71 ((rd_T65 l0_0 t267).f0) x9_1).f0), .int .i64 ((rd_T71 ((rd_T65 l0_0 t267).f0) x9_1).f1.f0), .int .i64 ((rd_T71 ((rd_T65 l0_0 t267).f0) x9_1).f1.f1), .int .i64 0, .int .i64 0]) ?_ 3 _ rfl; (with_reducible repeat (first | refine blk_drewN ?_ _ | refine blk_drew ?_ | refine blk_alloc ?_ _)); refine blk_put (cs := #[.int .i64 ((rd_T71 ((rd_T65 l0_0 t267).f0) x9_1).f0), .int .i64 ((rd_T71 ((rd_T65 l0_0 t267).f0) x9_1).f1.f0), .int .i64 0, .int .i64 0, .int .i64 0]) ?_ 2 _ rfl; (with_reducible repeat (first | refine blk_drewN ?_ _ | refine blk_drew ?_ | refine blk_alloc ?_ _)); refine blk_put (cs := #[.int .i64 ((rd_T71 ((rd_T65 l0_0 t267).f0) x9_1).f0), .int .i64 0, .int .i64 0, .int .i64 0, .int .i64 0]) ?_ 1 _ rfl; (with_reducible repeat (first | refine blk_drewN ?_ _ | refine blk_drew ?_ | refine blk_alloc ?_ _)); refine blk_put (cs := #[.int .i64 0, .int .i64 0, .int .i64 0, .int .i64 0, .int .i64 0]) ?_ 0 _ rfl; (with_reducible repeat (first | refine blk_drewN ?_ _ | refine blk_drew ?_ | refine blk_alloc ?_ _)); exact BK270.out) hb); replace HB := am (below_step (bg2 HB.out GE261.out GE270.out) hb); (try clear hb); (try clear hb2); (try clear hk); (try clear hi); have hcz32_0 : w31.cell? ⟨gb270, 0, none⟩ = some (.int .i64 ((rd_T71 ((rd_T65 l0_0 t267).f0) x9_1).f0)) := (blk_cell BK270.out 0).trans rfl; have hcz32_1 : w31.cell? ⟨gb270, 1, none⟩ = some (.int .i64 ((rd_T71 ((rd_T65 l0_0 t267).f0) x9_1).f1.f0)) := (blk_cell BK270.out 1).trans rfl; have hcz32_2 : w31.cell? ⟨gb270, 2, none⟩ = some (.int .i64 ((rd_T71 ((rd_T65 l0_0 t267).f0) x9_1).f1.f1)) := (blk_cell BK270.out 2).trans rfl; have hcz32_3 : w31.cell? ⟨gb270, 3, none⟩ = some (.int .i64 ((rd_T71 ((rd_T65 l0_0 t267).f0) x9_1).f1.f2)) := (blk_cell BK270.out 3).trans rfl; have hcz32_4 : w31.cell? ⟨gb270, 4, none⟩ = some (.int .i64 ((rd_T71 ((rd_T65 l0_0 t267).f0) x9_1).f1.f3)) := (blk_cell BK270.out 4).trans rfl; obtain ⟨hfz32_0, hfz32_1, hfz32_2, hfz32_3, hfz32_4⟩ := f5 BK270.out) | ((with_reducible refine gate_builtin (b := .append) (xs := #[.tmp 47, .tmp 55]) rfl ?_); at_builtin; refine Kd.R_append k85 (w0 := w) w.heap.size rfl (.tmp 47) (.tmp 55) 48 85 (.agg #[(.int .i64 0), (.int .i64 0), (.int .i64 0), (.int .i64 0), (.int .i64 0), (.int .i64 0), (.int .i64 0), (.int .i64 0)]) 64 rfl Try.underlying48 info85 rfl (by decide) (by omega) u5 x5_1 (⟨1, (rd_T71 ((rd_T65 l0_0 t267).f0) x9_1).f1.f2, (rd_T71 ((rd_T65 l0_0 t267).f0) x9_1).f1.f3, 0, (⟨0, 0, 0, 0⟩ : S30)⟩ : S85) [.int .i64 1, .int .i64 ((rd_T71 ((rd_T65 l0_0 t267).f0) x9_1).f1.f2), .int .i64 ((rd_T71 ((rd_T65 l0_0 t267).f0) x9_1).f1.f3), .int .i64 0, .int .i64 0, .int .i64 0, .int .i64 0, .int .i64 0] (fun _ => True) (fun _ => False) rfl rfl ?aP (fun _ hk => hk.elim) ?aF ?aO ?aB ?aS ?aL ?_; (case aP => exact k85_mkM _ _ _ (⟨1, (rd_T71 ((rd_T65 l0_0 t267).f0) x9_1).f1.f2, (rd_T71 ((rd_T65 l0_0 t267).f0) x9_1).f1.f3, 0, (⟨0, 0, 0, 0⟩ : S30)⟩ : S85)); (case aB => exact (bg2 HB.out GE261.out GE270.out)); (case aF => exact (fun _ _ => trivial)); (case aO => exact (pr HO_5.out)); (case aS => exact (below_size (bg2 HB.out GE261.out GE270.out))); (case aL => have := LMc25.out; omega); intro v273 w33 ho hb hg hat; rw [← Ny272.out] at ho; replace BK261 := am (blk_grown (g := gb261) (o := .cells #[.slice (some ad268) l0_0.length c0_0, .slice A0_1 l0_1.length c0_1] 41 (0, 0)) (pb BK261.out) hg (Kd.R_ne HO_5.out BK261.out (by decide))); replace BK270 := am (blk_grown (g := gb270) (o := .cells #[.int .i64 ((rd_T71 ((rd_T65 l0_0 t267).f0) x9_1).f0), .int .i64 ((rd_T71 ((rd_T65 l0_0 t267).f0) x9_1).f1.f0), .int .i64 ((rd_T71 ((rd_T65 l0_0 t267).f0) x9_1).f1.f1), .int .i64 ((rd_T71 ((rd_T65 l0_0 t267).f0) x9_1).f1.f2), .int .i64 ((rd_T71 ((rd_T65 l0_0 t267).f0) x9_1).f1.f3)] 71 (0, 0)) (pb BK270.out) hg (Kd.R_ne HO_5.out BK270.out (by decide))); replace HB := am (hb); have HO274 := am (ho); clear HO_5; clear ho hb hg hat))
   go_roundg k1
   case measure => have := HK1.out; omega
   case rel => exact ⟨(y272), (wrap64 (x9_1 + 1)), rf, H', ⟨by have := HK1.out; omega⟩, ⟨pr HO274.out⟩, ⟨pb BK261.out⟩, ⟨bg2 HB.out GE261.out GE270.out⟩⟩
end Go.Proofs.Ytoedphbikgoapaa.Re
