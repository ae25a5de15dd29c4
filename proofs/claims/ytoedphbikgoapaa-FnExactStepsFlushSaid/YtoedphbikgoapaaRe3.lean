-- printed by wip/pp/pp.py
import Derived.Test.YtoedphbikgoapaaRe0
import Derived.Test.YtoedphbikgoapaaRe2
namespace Go.Proofs.Ytoedphbikgoapaa.Re
open Go.RowKit Go.Proofs.YtoedphbikgoapaaW.PrintWords Go.Proofs.YtoedphbikgoapaaW.PrintLast Go.Proofs.YtoedphbikgoapaaW.PrintMore
attribute [local go_sem] max2_int min2_int max_two min_two max_three min_three max_four min_four
set_option linter.unusedVariables false
set_option linter.unusedSimpArgs false
def laws_eqStepS.l0 : Nat → List (S85) → List (S85) → Int → Option (Bool)
 | 0, _, _, _ => none
 | k + 1, x0, x1, x5 => if x5 < (x0.length : Int) then (if 0 ≤ x5 then (if x5 < (x1.length : Int) then ((laws_eqStep.f ((rd_T85 x0 x5).f0) ((rd_T85 x0 x5).f1) ((rd_T85 x0 x5).f2) ((rd_T85 x0 x5).f3) ((rd_T85 x0 x5).f4.f0) ((rd_T85 x0 x5).f4.f1) ((rd_T85 x0 x5).f4.f2) ((rd_T85 x0 x5).f4.f3) ((rd_T85 x1 x5).f0) ((rd_T85 x1 x5).f1) ((rd_T85 x1 x5).f2) ((rd_T85 x1 x5).f3) ((rd_T85 x1 x5).f4.f0) ((rd_T85 x1 x5).f4.f1) ((rd_T85 x1 x5).f4.f2) ((rd_T85 x1 x5).f4.f3)).bind fun t193 => (if t193 = true then (laws_eqStepS.l0 k x0 x1 (wrap64 (x5 + 1))) else (some false))) else (none)) else (none)) else (some true)
def laws_eqStepS.f (k : Nat) (l0 : List (S85)) (l1 : List (S85)) : Option (Bool) := if (l0.length : Int) = (l1.length : Int) then (laws_eqStepS.l0 k l0 l1 0) else (some false)
theorem laws_eqStepS.mono_l : ∀ k, (∀ y0 y1 y2, LeO (laws_eqStepS.l0 k y0 y1 y2) (laws_eqStepS.l0 (k + 1) y0 y1 y2))
 | 0 => fun _ _ _ r h => by simp [laws_eqStepS.l0] at h
 | k + 1 => by
  have ih0 := laws_eqStepS.mono_l k
  · intro y0 y1 y2
    unfold laws_eqStepS.l0
    repeat' first
    | (with_reducible exact ih0 _ _ _)
    | (with_reducible exact LeO.refl _)
    | (with_reducible exact LeO.none _)
    | (with_reducible refine LeO.ite ?_ ?_)
    | (with_reducible refine LeO.bind ?_ (fun _ => ?_))
    | exact ih0 _ _ _
    | exact LeO.none _
    | refine LeO.ite ?_ ?_
    | refine LeO.bind ?_ (fun _ => ?_)
theorem laws_eqStepS.mono : ∀ a0 a1 k, LeO (laws_eqStepS.f k a0 a1) (laws_eqStepS.f (k + 1) a0 a1) := by
 intro a0 a1 k
 have ih0 := laws_eqStepS.mono_l k
 unfold laws_eqStepS.f
 repeat' first
  | (with_reducible exact ih0 _ _ _)
  | (with_reducible exact LeO.refl _)
  | (with_reducible exact LeO.none _)
  | (with_reducible refine LeO.ite ?_ ?_)
  | (with_reducible refine LeO.bind ?_ (fun _ => ?_))
  | exact ih0 _ _ _
  | exact LeO.none _
  | refine LeO.ite ?_ ?_
  | refine LeO.bind ?_ (fun _ => ?_)
def laws_eqStepS.T6 : Bool × List (List Nat × List Nat) := (true, [([], []), ([], []), ([0, 1], [0, 1]), ([2], [2]), ([], []), ([], []), ([4, 5], [4, 5]), ([6], [6]), ([3, 7], [3, 7]), ([8], [8])])
def laws_eqStepS.B6 : List Nat := [0, 0, 3, 7, 0, 0, 48, 112, 255, 511]
theorem laws_eqStepS.tab6 : rtab .any (opsOf Try.f30 6) = laws_eqStepS.T6 := by kernel_rfl
theorem laws_eqStepS.bits6 : waitsOk laws_eqStepS.T6.2 laws_eqStepS.B6 = true := by kernel_rfl
set_option maxHeartbeats 8000000 in
set_option maxRecDepth 100000 in
theorem laws_eqStepS.calls (k : Nat) (A0 : Option Addr) (c0 : Nat) (l0 : List (S85)) (A1 : Option Addr) (c1 : Nat) (l1 : List (S85)) (r : Bool) (w : World) (hr0 : Kd.C k85 w A0 l0.length l0) (hc0 : l0.length ≤ c0) (hr1 : Kd.C k85 w A1 l1.length l1) (hc1 : l1.length ≤ c1) (h : laws_eqStepS.f k l0 l1 = some r) :
 Calls Try.prog 30 #[.slice A0 l0.length c0, .slice A1 l1.length c1] w fun e w' => e = .returned (.bool r) ∧ Below w.heap.size w w' := by
 have hu85 := Try.underlying85
 have HR0 := am hr0
 have HC0 := am hc0
 clear hr0 hc0
 have HR1 := am hr1
 have HC1 := am hc1
 clear hr1 hc1
 have HB := am (Below.refl w.heap.size w)
 have H : (if (l0.length : Int) = (l1.length : Int) then (laws_eqStepS.l0 k l0 l1 0) else (some false)) = some r := h
 clear h
 by_cases c3 : (l0.length : Int) = (l1.length : Int)
 rotate_left
 · rw [if_neg c3] at H
   have c3b0 : ((l0.length : Int) == (l1.length : Int)) = false := beq_eq_false_iff_ne.mpr c3
   have c3b1 : ((l0.length : Int) != (l1.length : Int)) = true := bne_iff_ne.mpr c3
   have c3b2 : (l0.length == l1.length) = false := by first | simpa using c3 | (simp at c3 ⊢; omega)
   obtain rfl := Option.some.inj H
   go_enter Try.func30, Try.ntmps30
   go_wp2
   go_ret
   exact (rq (ph HB.out))
 rw [if_pos c3] at H
 have c3b0 : ((l0.length : Int) == (l1.length : Int)) = true := beq_iff_eq.mpr c3
 have c3b1 : ((l0.length : Int) != (l1.length : Int)) = false := bne_eq_false_iff_eq.mpr c3
 have c3b2 : (l0.length == l1.length) = true := by first | simpa using c3 | (simp at c3 ⊢; omega)
 clear c3
 have H' := am H
 clear H
 go_enter Try.func30, Try.ntmps30
 go_wp2
 go_loopg [5] k (fun kq v5 w' => ∃ (x5_1 : Int), v5 = .int .i64 x5_1 ∧ Aside0 (laws_eqStepS.l0 kq l0 l1 x5_1 = some r) ∧ Aside0 (kq ≤ k) ∧ Aside0 (Below w.heap.size w w'))
 case atStart => exact ⟨(0), rf, H', ⟨Nat.le_refl _⟩, ⟨ph HB.out⟩⟩
 case round =>
  clear H'
  obtain ⟨x5_1, rfl, HA, HK1, HB⟩ := hrel
  cases gk with
  | zero => exact absurd HA.out (by simp [laws_eqStepS.l0])
  | succ k1 =>
   have H := HA.out
   clear HA
   simp only [laws_eqStepS.l0] at H
   by_cases c4 : x5_1 < (l0.length : Int)
   rotate_left
   · rw [if_neg c4] at H
     have c4b0 := decide_eq_false c4
     clear c4
     obtain rfl := Option.some.inj H
     go_wp2
     go_ret
     exact (rq (ph HB.out))
   rw [if_pos c4] at H
   have c4b0 := decide_eq_true c4
   clear c4
   by_cases c5 : 0 ≤ x5_1
   rotate_left
   · rw [if_neg c5] at H
     exact absurd H (by simp)
   rw [if_pos c5] at H
   have c5b0 := decide_eq_true c5
   clear c5
   by_cases c6 : x5_1 < (l1.length : Int)
   rotate_left
   · rw [if_neg c6] at H
     exact absurd H (by simp)
   rw [if_pos c6] at H
   have c6b0 := decide_eq_true c6
   clear c6
   replace H := Option.bind_eq_some_iff.mp H
   obtain ⟨t193, A70, H⟩ := H
   replace H : (if t193 = true then (laws_eqStepS.l0 k1 l0 l1 (wrap64 (x5_1 + 1))) else (some false)) = some r := H
   have A7 := am A70
   clear A70
   by_cases c8 : t193 = true
   rotate_left
   · replace c8 := Bool.eq_false_iff.mpr c8
     subst c8
     have H1 : (some false) = some r := by rw [if_neg (show ¬ (false = true) by decide)] at H; exact H
     clear H
     have H := H1
     clear H1
     obtain rfl := Option.some.inj H
     try go_wp2
     replace HB := am (below_drew1 HB.out)
     have p191 : 0 ≤ (x5_1 : Int) := ofb
     have q191 : x5_1 < (l0.length : Int) := ofb
     obtain ⟨ad191, e191, hx191_0, hx191_1, hx191_2, hx191_3, hx191_4, hx191_5, hx191_6, hx191_7⟩ := at_T85 HR0.out x5_1 p191 q191
     have hw191_7 := hx191_7
     have hw191_6 := hx191_6
     have hw191_5 := hx191_5
     have hw191_4 := hx191_4
     have hw191_3 := hx191_3
     have hw191_2 := hx191_2
     have hw191_1 := hx191_1
     have hw191_0 := hx191_0
     cases e191
     replace hx191_0 := up HB.out hx191_0
     replace hx191_1 := up HB.out hx191_1
     replace hx191_2 := up HB.out hx191_2
     replace hx191_3 := up HB.out hx191_3
     replace hx191_4 := up HB.out hx191_4
     replace hx191_5 := up HB.out hx191_5
     replace hx191_6 := up HB.out hx191_6
     replace hx191_7 := up HB.out hx191_7
     replace p191 := eq_true p191
     replace q191 := eq_true q191
     have p192 : 0 ≤ (x5_1 : Int) := ofb
     have q192 : x5_1 < (l1.length : Int) := ofb
     obtain ⟨ad192, e192, hx192_0, hx192_1, hx192_2, hx192_3, hx192_4, hx192_5, hx192_6, hx192_7⟩ := at_T85 HR1.out x5_1 p192 q192
     have hw192_7 := hx192_7
     have hw192_6 := hx192_6
     have hw192_5 := hx192_5
     have hw192_4 := hx192_4
     have hw192_3 := hx192_3
     have hw192_2 := hx192_2
     have hw192_1 := hx192_1
     have hw192_0 := hx192_0
     cases e192
     replace hx192_0 := up HB.out hx192_0
     replace hx192_1 := up HB.out hx192_1
     replace hx192_2 := up HB.out hx192_2
     replace hx192_3 := up HB.out hx192_3
     replace hx192_4 := up HB.out hx192_4
     replace hx192_5 := up HB.out hx192_5
     replace hx192_6 := up HB.out hx192_6
     replace hx192_7 := up HB.out hx192_7
     replace p192 := eq_true p192
     replace q192 := eq_true q192
     refine start_ (n := 10) (S := fun w' => w'.cell? (ad191.add ((x5_1).toNat * 8)) = some (.int .i64 ((rd_T85 l0 x5_1).f0)) ∧ w'.cell? ⟨(ad191.add ((x5_1).toNat * 8)).block, (ad191.add ((x5_1).toNat * 8)).off + 1, none⟩ = some (.int .i64 ((rd_T85 l0 x5_1).f1)) ∧ w'.cell? ⟨(ad191.add ((x5_1).toNat * 8)).block, (ad191.add ((x5_1).toNat * 8)).off + 2, none⟩ = some (.int .i64 ((rd_T85 l0 x5_1).f2)) ∧ w'.cell? ⟨(ad191.add ((x5_1).toNat * 8)).block, (ad191.add ((x5_1).toNat * 8)).off + 3, none⟩ = some (.int .i64 ((rd_T85 l0 x5_1).f3)) ∧ w'.cell? ⟨(ad191.add ((x5_1).toNat * 8)).block, (ad191.add ((x5_1).toNat * 8)).off + 4, none⟩ = some (.int .i64 ((rd_T85 l0 x5_1).f4.f0)) ∧ w'.cell? ⟨(ad191.add ((x5_1).toNat * 8)).block, (ad191.add ((x5_1).toNat * 8)).off + 5, none⟩ = some (.int .i64 ((rd_T85 l0 x5_1).f4.f1)) ∧ w'.cell? ⟨(ad191.add ((x5_1).toNat * 8)).block, (ad191.add ((x5_1).toNat * 8)).off + 6, none⟩ = some (.int .i64 ((rd_T85 l0 x5_1).f4.f2)) ∧ w'.cell? ⟨(ad191.add ((x5_1).toNat * 8)).block, (ad191.add ((x5_1).toNat * 8)).off + 7, none⟩ = some (.int .i64 ((rd_T85 l0 x5_1).f4.f3)) ∧ w'.cell? (ad192.add ((x5_1).toNat * 8)) = some (.int .i64 ((rd_T85 l1 x5_1).f0)) ∧ w'.cell? ⟨(ad192.add ((x5_1).toNat * 8)).block, (ad192.add ((x5_1).toNat * 8)).off + 1, none⟩ = some (.int .i64 ((rd_T85 l1 x5_1).f1)) ∧ w'.cell? ⟨(ad192.add ((x5_1).toNat * 8)).block, (ad192.add ((x5_1).toNat * 8)).off + 2, none⟩ = some (.int .i64 ((rd_T85 l1 x5_1).f2)) ∧ w'.cell? ⟨(ad192.add ((x5_1).toNat * 8)).block, (ad192.add ((x5_1).toNat * 8)).off + 3, none⟩ = some (.int .i64 ((rd_T85 l1 x5_1).f3)) ∧ w'.cell? ⟨(ad192.add ((x5_1).toNat * 8)).block, (ad192.add ((x5_1).toNat * 8)).off + 4, none⟩ = some (.int .i64 ((rd_T85 l1 x5_1).f4.f0)) ∧ w'.cell? ⟨(ad192.add ((x5_1).toNat * 8)).block, (ad192.add ((x5_1).toNat * 8)).off + 5, none⟩ = some (.int .i64 ((rd_T85 l1 x5_1).f4.f1)) ∧ w'.cell? ⟨(ad192.add ((x5_1).toNat * 8)).block, (ad192.add ((x5_1).toNat * 8)).off + 6, none⟩ = some (.int .i64 ((rd_T85 l1 x5_1).f4.f2)) ∧ w'.cell? ⟨(ad192.add ((x5_1).toNat * 8)).block, (ad192.add ((x5_1).toNat * 8)).off + 7, none⟩ = some (.int .i64 ((rd_T85 l1 x5_1).f4.f3))) (ds := []) #[false, false, false, false, false, false, false, false, false, false] (by kernel_rfl) rfl rfl ⟨((HB.out.cell (World.block_lt_of_cell? w _ hw191_0)).trans hw191_0), ((HB.out.cell (World.block_lt_of_cell? w _ hw191_1)).trans hw191_1), ((HB.out.cell (World.block_lt_of_cell? w _ hw191_2)).trans hw191_2), ((HB.out.cell (World.block_lt_of_cell? w _ hw191_3)).trans hw191_3), ((HB.out.cell (World.block_lt_of_cell? w _ hw191_4)).trans hw191_4), ((HB.out.cell (World.block_lt_of_cell? w _ hw191_5)).trans hw191_5), ((HB.out.cell (World.block_lt_of_cell? w _ hw191_6)).trans hw191_6), ((HB.out.cell (World.block_lt_of_cell? w _ hw191_7)).trans hw191_7), ((HB.out.cell (World.block_lt_of_cell? w _ hw192_0)).trans hw192_0), ((HB.out.cell (World.block_lt_of_cell? w _ hw192_1)).trans hw192_1), ((HB.out.cell (World.block_lt_of_cell? w _ hw192_2)).trans hw192_2), ((HB.out.cell (World.block_lt_of_cell? w _ hw192_3)).trans hw192_3), ((HB.out.cell (World.block_lt_of_cell? w _ hw192_4)).trans hw192_4), ((HB.out.cell (World.block_lt_of_cell? w _ hw192_5)).trans hw192_5), ((HB.out.cell (World.block_lt_of_cell? w _ hw192_6)).trans hw192_6), ((HB.out.cell (World.block_lt_of_cell? w _ hw192_7)).trans hw192_7)⟩ (fun hHeld => ?_); refine with_tabW laws_eqStepS.tab6 laws_eqStepS.bits6 (fun HT_ HW_ => ?_)
     generalize wr.drew = w11 at HB hx191_0 hx191_1 hx191_2 hx191_3 hx191_4 hx191_5 hx191_6 hx191_7 hx192_0 hx192_1 hx192_2 hx192_3 hx192_4 hx192_5 hx192_6 hx192_7 hHeld ⊢
     refine pj_ 0 17 #[true, false, false, false, false, false, false, false, false, false] rfl rfl (any_of HT_.out (by kernel_rfl)) (fun _ _ _ h => h) ?_
     refine pj_ 1 18 #[true, true, false, false, false, false, false, false, false, false] rfl rfl (any_of HT_.out (by kernel_rfl)) (fun _ _ _ h => h) ?_
     refine pj_ 2 19 #[true, true, true, false, false, false, false, false, false, false] rfl rfl (any_of HT_.out (by kernel_rfl)) (fun _ _ _ h => h) ?_
     refine pj_ 4 21 #[true, true, true, false, true, false, false, false, false, false] rfl rfl (any_of HT_.out (by kernel_rfl)) (fun _ _ _ h => h) ?_
     refine pj_ 5 22 #[true, true, true, false, true, true, false, false, false, false] rfl rfl (any_of HT_.out (by kernel_rfl)) (fun _ _ _ h => h) ?_
     refine pj_ 6 23 #[true, true, true, false, true, true, true, false, false, false] rfl rfl (any_of HT_.out (by kernel_rfl)) (fun _ _ _ h => h) ?_
     refine pm_ 3 20 #[true, true, true, true, true, true, true, false, false, false] rfl rfl (take_ofW HT_.out HW_.out (by kernel_rfl)) (fun _ _ _ h => h) hHeld ?_
     refine pm_ 7 24 #[true, true, true, true, true, true, true, true, false, false] rfl rfl (take_ofW HT_.out HW_.out (by kernel_rfl)) (fun _ _ _ h => h) hHeld ?_
     refine one_ (i := 8) (N := some 25) #[true, true, true, true, true, true, true, true, true, false] rfl rfl (one_of HT_.out (by kernel_rfl)) (by decide) (fun K hK => ?_)
     refine goes_ Try.func63 (by kernel_rfl) rfl #[.agg #[.int .i64 ((rd_T85 l0 x5_1).f0), .int .i64 ((rd_T85 l0 x5_1).f1), .int .i64 ((rd_T85 l0 x5_1).f2), .int .i64 ((rd_T85 l0 x5_1).f3), .int .i64 ((rd_T85 l0 x5_1).f4.f0), .int .i64 ((rd_T85 l0 x5_1).f4.f1), .int .i64 ((rd_T85 l0 x5_1).f4.f2), .int .i64 ((rd_T85 l0 x5_1).f4.f3)], .agg #[.int .i64 ((rd_T85 l1 x5_1).f0), .int .i64 ((rd_T85 l1 x5_1).f1), .int .i64 ((rd_T85 l1 x5_1).f2), .int .i64 ((rd_T85 l1 x5_1).f3), .int .i64 ((rd_T85 l1 x5_1).f4.f0), .int .i64 ((rd_T85 l1 x5_1).f4.f1), .int .i64 ((rd_T85 l1 x5_1).f4.f2), .int .i64 ((rd_T85 l1 x5_1).f4.f3)]] (by rfl) rfl rfl (by (try simp only [List.map_toArray, List.map_cons, List.map_nil]); first | done | rfl | (simp only [List.length_drop, List.length_take]; rfl)) ?_
     with_reducible refine (laws_eqStep.calls ((rd_T85 l0 x5_1).f0) ((rd_T85 l0 x5_1).f1) ((rd_T85 l0 x5_1).f2) ((rd_T85 l0 x5_1).f3) ((rd_T85 l0 x5_1).f4.f0) ((rd_T85 l0 x5_1).f4.f1) ((rd_T85 l0 x5_1).f4.f2) ((rd_T85 l0 x5_1).f4.f3) ((rd_T85 l1 x5_1).f0) ((rd_T85 l1 x5_1).f1) ((rd_T85 l1 x5_1).f2) ((rd_T85 l1 x5_1).f3) ((rd_T85 l1 x5_1).f4.f0) ((rd_T85 l1 x5_1).f4.f1) ((rd_T85 l1 x5_1).f4.f2) ((rd_T85 l1 x5_1).f4.f3) false _ A7.out).mono ?_
     rintro e w12 ⟨rfl, hb⟩
     refine ⟨_, rfl, ?_⟩
     replace HB := am (below_step (ph HB.out) hb)
     (try clear hb)
     (try clear hb2)
     (try clear hk)
     (try clear hi)
     refine hK.out _ _ ⟨((HB.out.cell (World.block_lt_of_cell? w _ hw191_0)).trans hw191_0), ((HB.out.cell (World.block_lt_of_cell? w _ hw191_1)).trans hw191_1), ((HB.out.cell (World.block_lt_of_cell? w _ hw191_2)).trans hw191_2), ((HB.out.cell (World.block_lt_of_cell? w _ hw191_3)).trans hw191_3), ((HB.out.cell (World.block_lt_of_cell? w _ hw191_4)).trans hw191_4), ((HB.out.cell (World.block_lt_of_cell? w _ hw191_5)).trans hw191_5), ((HB.out.cell (World.block_lt_of_cell? w _ hw191_6)).trans hw191_6), ((HB.out.cell (World.block_lt_of_cell? w _ hw191_7)).trans hw191_7), ((HB.out.cell (World.block_lt_of_cell? w _ hw192_0)).trans hw192_0), ((HB.out.cell (World.block_lt_of_cell? w _ hw192_1)).trans hw192_1), ((HB.out.cell (World.block_lt_of_cell? w _ hw192_2)).trans hw192_2), ((HB.out.cell (World.block_lt_of_cell? w _ hw192_3)).trans hw192_3), ((HB.out.cell (World.block_lt_of_cell? w _ hw192_4)).trans hw192_4), ((HB.out.cell (World.block_lt_of_cell? w _ hw192_5)).trans hw192_5), ((HB.out.cell (World.block_lt_of_cell? w _ hw192_6)).trans hw192_6), ((HB.out.cell (World.block_lt_of_cell? w _ hw192_7)).trans hw192_7)⟩ (fun hHeld => ?_)
     clear hK K
     refine norm_ (a' := ?_) ?_ ?_
     rotate_left
     · show Act.put _ (some 25) _ = _
       simp only [Act.put, List.setIfInBounds_toArray, List.set_cons_zero, List.set_cons_succ, i64_w, i32_w]
       rfl
     refine pj_ 9 26 #[true, true, true, true, true, true, true, true, true, true] rfl rfl (any_of HT_.out (by kernel_rfl)) (fun _ _ _ h => h) ?_
     refine done_ (done_of HT_.out (by kernel_rfl)) ?_
     try go_wp2
     go_ret
     exact (rq (ph HB.out))
   subst c8
   have H1 : (laws_eqStepS.l0 k1 l0 l1 (wrap64 (x5_1 + 1))) = some r := by rw [if_pos rfl] at H; exact H
   clear H
   have H := H1
   clear H1
   have H' := am H
   clear H
   try go_wp2
   replace HB := am (below_drew1 HB.out)
   have p191 : 0 ≤ (x5_1 : Int) := ofb
   have q191 : x5_1 < (l0.length : Int) := ofb
   obtain ⟨ad191, e191, hx191_0, hx191_1, hx191_2, hx191_3, hx191_4, hx191_5, hx191_6, hx191_7⟩ := at_T85 HR0.out x5_1 p191 q191
   have hw191_7 := hx191_7
   have hw191_6 := hx191_6
   have hw191_5 := hx191_5
   have hw191_4 := hx191_4
   have hw191_3 := hx191_3
   have hw191_2 := hx191_2
   have hw191_1 := hx191_1
   have hw191_0 := hx191_0
   cases e191
   replace hx191_0 := up HB.out hx191_0
   replace hx191_1 := up HB.out hx191_1
   replace hx191_2 := up HB.out hx191_2
   replace hx191_3 := up HB.out hx191_3
   replace hx191_4 := up HB.out hx191_4
   replace hx191_5 := up HB.out hx191_5
   replace hx191_6 := up HB.out hx191_6
   replace hx191_7 := up HB.out hx191_7
   replace p191 := eq_true p191
   replace q191 := eq_true q191
   have p192 : 0 ≤ (x5_1 : Int) := ofb
   have q192 : x5_1 < (l1.length : Int) := ofb
   obtain ⟨ad192, e192, hx192_0, hx192_1, hx192_2, hx192_3, hx192_4, hx192_5, hx192_6, hx192_7⟩ := at_T85 HR1.out x5_1 p192 q192
   have hw192_7 := hx192_7
   have hw192_6 := hx192_6
   have hw192_5 := hx192_5
   have hw192_4 := hx192_4
   have hw192_3 := hx192_3
   have hw192_2 := hx192_2
   have hw192_1 := hx192_1
   have hw192_0 := hx192_0
   cases e192
   replace hx192_0 := up HB.out hx192_0
   replace hx192_1 := up HB.out hx192_1
   replace hx192_2 := up HB.out hx192_2
   replace hx192_3 := up HB.out hx192_3
   replace hx192_4 := up HB.out hx192_4
   replace hx192_5 := up HB.out hx192_5
   replace hx192_6 := up HB.out hx192_6
   replace hx192_7 := up HB.out hx192_7
   replace p192 := eq_true p192
   replace q192 := eq_true q192
   refine start_ (n := 10) (S := fun w' => w'.cell? (ad191.add ((x5_1).toNat * 8)) = some (.int .i64 ((rd_T85 l0 x5_1).f0)) ∧ w'.cell? ⟨(ad191.add ((x5_1).toNat * 8)).block, (ad191.add ((x5_1).toNat * 8)).off + 1, none⟩ = some (.int .i64 ((rd_T85 l0 x5_1).f1)) ∧ w'.cell? ⟨(ad191.add ((x5_1).toNat * 8)).block, (ad191.add ((x5_1).toNat * 8)).off + 2, none⟩ = some (.int .i64 ((rd_T85 l0 x5_1).f2)) ∧ w'.cell? ⟨(ad191.add ((x5_1).toNat * 8)).block, (ad191.add ((x5_1).toNat * 8)).off + 3, none⟩ = some (.int .i64 ((rd_T85 l0 x5_1).f3)) ∧ w'.cell? ⟨(ad191.add ((x5_1).toNat * 8)).block, (ad191.add ((x5_1).toNat * 8)).off + 4, none⟩ = some (.int .i64 ((rd_T85 l0 x5_1).f4.f0)) ∧ w'.cell? ⟨(ad191.add ((x5_1).toNat * 8)).block, (ad191.add ((x5_1).toNat * 8)).off + 5, none⟩ = some (.int .i64 ((rd_T85 l0 x5_1).f4.f1)) ∧ w'.cell? ⟨(ad191.add ((x5_1).toNat * 8)).block, (ad191.add ((x5_1).toNat * 8)).off + 6, none⟩ = some (.int .i64 ((rd_T85 l0 x5_1).f4.f2)) ∧ w'.cell? ⟨(ad191.add ((x5_1).toNat * 8)).block, (ad191.add ((x5_1).toNat * 8)).off + 7, none⟩ = some (.int .i64 ((rd_T85 l0 x5_1).f4.f3)) ∧ w'.cell? (ad192.add ((x5_1).toNat * 8)) = some (.int .i64 ((rd_T85 l1 x5_1).f0)) ∧ w'.cell? ⟨(ad192.add ((x5_1).toNat * 8)).block, (ad192.add ((x5_1).toNat * 8)).off + 1, none⟩ = some (.int .i64 ((rd_T85 l1 x5_1).f1)) ∧ w'.cell? ⟨(ad192.add ((x5_1).toNat * 8)).block, (ad192.add ((x5_1).toNat * 8)).off + 2, none⟩ = some (.int .i64 ((rd_T85 l1 x5_1).f2)) ∧ w'.cell? ⟨(ad192.add ((x5_1).toNat * 8)).block, (ad192.add ((x5_1).toNat * 8)).off + 3, none⟩ = some (.int .i64 ((rd_T85 l1 x5_1).f3)) ∧ w'.cell? ⟨(ad192.add ((x5_1).toNat * 8)).block, (ad192.add ((x5_1).toNat * 8)).off + 4, none⟩ = some (.int .i64 ((rd_T85 l1 x5_1).f4.f0)) ∧ w'.cell? ⟨(ad192.add ((x5_1).toNat * 8)).block, (ad192.add ((x5_1).toNat * 8)).off + 5, none⟩ = some (.int .i64 ((rd_T85 l1 x5_1).f4.f1)) ∧ w'.cell? ⟨(ad192.add ((x5_1).toNat * 8)).block, (ad192.add ((x5_1).toNat * 8)).off + 6, none⟩ = some (.int .i64 ((rd_T85 l1 x5_1).f4.f2)) ∧ w'.cell? ⟨(ad192.add ((x5_1).toNat * 8)).block, (ad192.add ((x5_1).toNat * 8)).off + 7, none⟩ = some (.int .i64 ((rd_T85 l1 x5_1).f4.f3))) (ds := []) #[false, false, false, false, false, false, false, false, false, false] (by kernel_rfl) rfl rfl ⟨((HB.out.cell (World.block_lt_of_cell? w _ hw191_0)).trans hw191_0), ((HB.out.cell (World.block_lt_of_cell? w _ hw191_1)).trans hw191_1), ((HB.out.cell (World.block_lt_of_cell? w _ hw191_2)).trans hw191_2), ((HB.out.cell (World.block_lt_of_cell? w _ hw191_3)).trans hw191_3), ((HB.out.cell (World.block_lt_of_cell? w _ hw191_4)).trans hw191_4), ((HB.out.cell (World.block_lt_of_cell? w _ hw191_5)).trans hw191_5), ((HB.out.cell (World.block_lt_of_cell? w _ hw191_6)).trans hw191_6), ((HB.out.cell (World.block_lt_of_cell? w _ hw191_7)).trans hw191_7), ((HB.out.cell (World.block_lt_of_cell? w _ hw192_0)).trans hw192_0), ((HB.out.cell (World.block_lt_of_cell? w _ hw192_1)).trans hw192_1), ((HB.out.cell (World.block_lt_of_cell? w _ hw192_2)).trans hw192_2), ((HB.out.cell (World.block_lt_of_cell? w _ hw192_3)).trans hw192_3), ((HB.out.cell (World.block_lt_of_cell? w _ hw192_4)).trans hw192_4), ((HB.out.cell (World.block_lt_of_cell? w _ hw192_5)).trans hw192_5), ((HB.out.cell (World.block_lt_of_cell? w _ hw192_6)).trans hw192_6), ((HB.out.cell (World.block_lt_of_cell? w _ hw192_7)).trans hw192_7)⟩ (fun hHeld => ?_); refine with_tabW laws_eqStepS.tab6 laws_eqStepS.bits6 (fun HT_ HW_ => ?_)
   generalize wr.drew = w9 at HB hx191_0 hx191_1 hx191_2 hx191_3 hx191_4 hx191_5 hx191_6 hx191_7 hx192_0 hx192_1 hx192_2 hx192_3 hx192_4 hx192_5 hx192_6 hx192_7 hHeld ⊢
   refine pj_ 0 17 #[true, false, false, false, false, false, false, false, false, false] rfl rfl (any_of HT_.out (by kernel_rfl)) (fun _ _ _ h => h) ?_
   refine pj_ 1 18 #[true, true, false, false, false, false, false, false, false, false] rfl rfl (any_of HT_.out (by kernel_rfl)) (fun _ _ _ h => h) ?_
   refine pj_ 2 19 #[true, true, true, false, false, false, false, false, false, false] rfl rfl (any_of HT_.out (by kernel_rfl)) (fun _ _ _ h => h) ?_
   refine pj_ 4 21 #[true, true, true, false, true, false, false, false, false, false] rfl rfl (any_of HT_.out (by kernel_rfl)) (fun _ _ _ h => h) ?_
   refine pj_ 5 22 #[true, true, true, false, true, true, false, false, false, false] rfl rfl (any_of HT_.out (by kernel_rfl)) (fun _ _ _ h => h) ?_
   refine pj_ 6 23 #[true, true, true, false, true, true, true, false, false, false] rfl rfl (any_of HT_.out (by kernel_rfl)) (fun _ _ _ h => h) ?_
   refine pm_ 3 20 #[true, true, true, true, true, true, true, false, false, false] rfl rfl (take_ofW HT_.out HW_.out (by kernel_rfl)) (fun _ _ _ h => h) hHeld ?_
   refine pm_ 7 24 #[true, true, true, true, true, true, true, true, false, false] rfl rfl (take_ofW HT_.out HW_.out (by kernel_rfl)) (fun _ _ _ h => h) hHeld ?_
   refine one_ (i := 8) (N := some 25) #[true, true, true, true, true, true, true, true, true, false] rfl rfl (one_of HT_.out (by kernel_rfl)) (by decide) (fun K hK => ?_)
   refine goes_ Try.func63 (by kernel_rfl) rfl #[.agg #[.int .i64 ((rd_T85 l0 x5_1).f0), .int .i64 ((rd_T85 l0 x5_1).f1), .int .i64 ((rd_T85 l0 x5_1).f2), .int .i64 ((rd_T85 l0 x5_1).f3), .int .i64 ((rd_T85 l0 x5_1).f4.f0), .int .i64 ((rd_T85 l0 x5_1).f4.f1), .int .i64 ((rd_T85 l0 x5_1).f4.f2), .int .i64 ((rd_T85 l0 x5_1).f4.f3)], .agg #[.int .i64 ((rd_T85 l1 x5_1).f0), .int .i64 ((rd_T85 l1 x5_1).f1), .int .i64 ((rd_T85 l1 x5_1).f2), .int .i64 ((rd_T85 l1 x5_1).f3), .int .i64 ((rd_T85 l1 x5_1).f4.f0), .int .i64 ((rd_T85 l1 x5_1).f4.f1), .int .i64 ((rd_T85 l1 x5_1).f4.f2), .int .i64 ((rd_T85 l1 x5_1).f4.f3)]] (by rfl) rfl rfl (by (try simp only [List.map_toArray, List.map_cons, List.map_nil]); first | done | rfl | (simp only [List.length_drop, List.length_take]; rfl)) ?_
   with_reducible refine (laws_eqStep.calls ((rd_T85 l0 x5_1).f0) ((rd_T85 l0 x5_1).f1) ((rd_T85 l0 x5_1).f2) ((rd_T85 l0 x5_1).f3) ((rd_T85 l0 x5_1).f4.f0) ((rd_T85 l0 x5_1).f4.f1) ((rd_T85 l0 x5_1).f4.f2) ((rd_T85 l0 x5_1).f4.f3) ((rd_T85 l1 x5_1).f0) ((rd_T85 l1 x5_1).f1) ((rd_T85 l1 x5_1).f2) ((rd_T85 l1 x5_1).f3) ((rd_T85 l1 x5_1).f4.f0) ((rd_T85 l1 x5_1).f4.f1) ((rd_T85 l1 x5_1).f4.f2) ((rd_T85 l1 x5_1).f4.f3) true _ A7.out).mono ?_
   rintro e w10 ⟨rfl, hb⟩
   refine ⟨_, rfl, ?_⟩
   replace HB := am (below_step (ph HB.out) hb)
   (try clear hb)
   (try clear hb2)
   (try clear hk)
   (try clear hi)
   refine hK.out _ _ ⟨((HB.out.cell (World.block_lt_of_cell? w _ hw191_0)).trans hw191_0), ((HB.out.cell (World.block_lt_of_cell? w _ hw191_1)).trans hw191_1), ((HB.out.cell (World.block_lt_of_cell? w _ hw191_2)).trans hw191_2), ((HB.out.cell (World.block_lt_of_cell? w _ hw191_3)).trans hw191_3), ((HB.out.cell (World.block_lt_of_cell? w _ hw191_4)).trans hw191_4), ((HB.out.cell (World.block_lt_of_cell? w _ hw191_5)).trans hw191_5), ((HB.out.cell (World.block_lt_of_cell? w _ hw191_6)).trans hw191_6), ((HB.out.cell (World.block_lt_of_cell? w _ hw191_7)).trans hw191_7), ((HB.out.cell (World.block_lt_of_cell? w _ hw192_0)).trans hw192_0), ((HB.out.cell (World.block_lt_of_cell? w _ hw192_1)).trans hw192_1), ((HB.out.cell (World.block_lt_of_cell? w _ hw192_2)).trans hw192_2), ((HB.out.cell (World.block_lt_of_cell? w _ hw192_3)).trans hw192_3), ((HB.out.cell (World.block_lt_of_cell? w _ hw192_4)).trans hw192_4), ((HB.out.cell (World.block_lt_of_cell? w _ hw192_5)).trans hw192_5), ((HB.out.cell (World.block_lt_of_cell? w _ hw192_6)).trans hw192_6), ((HB.out.cell (World.block_lt_of_cell? w _ hw192_7)).trans hw192_7)⟩ (fun hHeld => ?_)
   clear hK K
   refine norm_ (a' := ?_) ?_ ?_
   rotate_left
   · show Act.put _ (some 25) _ = _
     simp only [Act.put, List.setIfInBounds_toArray, List.set_cons_zero, List.set_cons_succ, i64_w, i32_w]
     rfl
   refine pj_ 9 26 #[true, true, true, true, true, true, true, true, true, true] rfl rfl (any_of HT_.out (by kernel_rfl)) (fun _ _ _ h => h) ?_
   refine done_ (done_of HT_.out (by kernel_rfl)) ?_
   try go_wp2
   go_roundg k1
   case measure => have := HK1.out; omega
   case rel => exact ⟨(wrap64 (x5_1 + 1)), rf, H', ⟨by have := HK1.out; omega⟩, ⟨ph HB.out⟩⟩
def laws_markStepS.l0 : Nat → List (S85) → Int → Int → Option (Int × (List (S85)))
 | 0, _, _, _ => none
 | k + 1, x0, x1, x5 => if x5 < (x0.length : Int) then (if 0 ≤ x5 then ((some (x0.set (x5 : Int).toNat (⟨x1, (rd_T85 x0 x5).f1, (rd_T85 x0 x5).f2, (rd_T85 x0 x5).f3, (⟨(rd_T85 x0 x5).f4.f0, (rd_T85 x0 x5).f4.f1, (rd_T85 x0 x5).f4.f2, (rd_T85 x0 x5).f4.f3⟩ : S30)⟩ : S85) : List (S85))).bind fun y194 => ((some (y194.set (x5 : Int).toNat (⟨(rd_T85 y194 x5).f0, wrap64 (x1 + 1), (rd_T85 y194 x5).f2, (rd_T85 y194 x5).f3, (⟨(rd_T85 y194 x5).f4.f0, (rd_T85 y194 x5).f4.f1, (rd_T85 y194 x5).f4.f2, (rd_T85 y194 x5).f4.f3⟩ : S30)⟩ : S85) : List (S85))).bind fun y195 => ((some (y195.set (x5 : Int).toNat (⟨(rd_T85 y195 x5).f0, (rd_T85 y195 x5).f1, wrap64 ((wrap64 (x1 + 1)) + 1), (rd_T85 y195 x5).f3, (⟨(rd_T85 y195 x5).f4.f0, (rd_T85 y195 x5).f4.f1, (rd_T85 y195 x5).f4.f2, (rd_T85 y195 x5).f4.f3⟩ : S30)⟩ : S85) : List (S85))).bind fun y196 => ((some (y196.set (x5 : Int).toNat (⟨(rd_T85 y196 x5).f0, (rd_T85 y196 x5).f1, (rd_T85 y196 x5).f2, wrap64 ((wrap64 ((wrap64 (x1 + 1)) + 1)) + 1), (⟨(rd_T85 y196 x5).f4.f0, (rd_T85 y196 x5).f4.f1, (rd_T85 y196 x5).f4.f2, (rd_T85 y196 x5).f4.f3⟩ : S30)⟩ : S85) : List (S85))).bind fun y197 => ((some (y197.set (x5 : Int).toNat (⟨(rd_T85 y197 x5).f0, (rd_T85 y197 x5).f1, (rd_T85 y197 x5).f2, (rd_T85 y197 x5).f3, (⟨wrap64 ((wrap64 ((wrap64 ((wrap64 (x1 + 1)) + 1)) + 1)) + 1), (rd_T85 y197 x5).f4.f1, (rd_T85 y197 x5).f4.f2, (rd_T85 y197 x5).f4.f3⟩ : S30)⟩ : S85) : List (S85))).bind fun y198 => ((some (y198.set (x5 : Int).toNat (⟨(rd_T85 y198 x5).f0, (rd_T85 y198 x5).f1, (rd_T85 y198 x5).f2, (rd_T85 y198 x5).f3, (⟨(rd_T85 y198 x5).f4.f0, wrap64 ((wrap64 ((wrap64 ((wrap64 ((wrap64 (x1 + 1)) + 1)) + 1)) + 1)) + 1), (rd_T85 y198 x5).f4.f2, (rd_T85 y198 x5).f4.f3⟩ : S30)⟩ : S85) : List (S85))).bind fun y199 => ((some (y199.set (x5 : Int).toNat (⟨(rd_T85 y199 x5).f0, (rd_T85 y199 x5).f1, (rd_T85 y199 x5).f2, (rd_T85 y199 x5).f3, (⟨(rd_T85 y199 x5).f4.f0, (rd_T85 y199 x5).f4.f1, wrap64 ((wrap64 ((wrap64 ((wrap64 ((wrap64 ((wrap64 (x1 + 1)) + 1)) + 1)) + 1)) + 1)) + 1), (rd_T85 y199 x5).f4.f3⟩ : S30)⟩ : S85) : List (S85))).bind fun y200 => (laws_markStepS.l0 k (y200.set (x5 : Int).toNat (⟨(rd_T85 y200 x5).f0, (rd_T85 y200 x5).f1, (rd_T85 y200 x5).f2, (rd_T85 y200 x5).f3, (⟨(rd_T85 y200 x5).f4.f0, (rd_T85 y200 x5).f4.f1, (rd_T85 y200 x5).f4.f2, wrap64 ((wrap64 ((wrap64 ((wrap64 ((wrap64 ((wrap64 ((wrap64 (x1 + 1)) + 1)) + 1)) + 1)) + 1)) + 1)) + 1)⟩ : S30)⟩ : S85)) (wrap64 ((wrap64 ((wrap64 ((wrap64 ((wrap64 ((wrap64 ((wrap64 ((wrap64 (x1 + 1)) + 1)) + 1)) + 1)) + 1)) + 1)) + 1)) + 1)) (wrap64 (x5 + 1)))))))))) else (none)) else (some (x1, x0))
def laws_markStepS.f (k : Nat) (l0 : List (S85)) (a1 : Int) : Option (Int × (List (S85))) := laws_markStepS.l0 k l0 a1 0
theorem laws_markStepS.mono_l : ∀ k, (∀ y0 y1 y2, LeO (laws_markStepS.l0 k y0 y1 y2) (laws_markStepS.l0 (k + 1) y0 y1 y2))
 | 0 => fun _ _ _ r h => by simp [laws_markStepS.l0] at h
 | k + 1 => by
  have ih0 := laws_markStepS.mono_l k
  · intro y0 y1 y2
    unfold laws_markStepS.l0
    repeat' first
    | (with_reducible exact ih0 _ _ _)
    | (with_reducible exact LeO.refl _)
    | (with_reducible exact LeO.none _)
    | (with_reducible refine LeO.ite ?_ ?_)
    | (with_reducible refine LeO.bind ?_ (fun _ => ?_))
    | exact ih0 _ _ _
    | exact LeO.none _
    | refine LeO.ite ?_ ?_
    | refine LeO.bind ?_ (fun _ => ?_)
theorem laws_markStepS.mono : ∀ a0 a1 k, LeO (laws_markStepS.f k a0 a1) (laws_markStepS.f (k + 1) a0 a1) := by
 intro a0 a1 k
 have ih0 := laws_markStepS.mono_l k
 unfold laws_markStepS.f
 repeat' first
  | (with_reducible exact ih0 _ _ _)
  | (with_reducible exact LeO.refl _)
  | (with_reducible exact LeO.none _)
  | (with_reducible refine LeO.ite ?_ ?_)
  | (with_reducible refine LeO.bind ?_ (fun _ => ?_))
  | exact ih0 _ _ _
  | exact LeO.none _
  | refine LeO.ite ?_ ?_
  | refine LeO.bind ?_ (fun _ => ?_)
set_option maxHeartbeats 8000000 in
set_option maxRecDepth 100000 in
theorem laws_markStepS.calls (k : Nat) (P0_ : Nat → Prop) (u9000_ : Value) (l0 : List (S85)) (a1 : Int) (r1 : Int) (r2 : List (S85)) (w0 w : World) (hB : Below w0.heap.size w0 w) (ho0 : Kd.R k85 85 w w0.heap.size P0_ u9000_ l0) (h : laws_markStepS.f k l0 a1 = some (r1, r2)) :
 Calls Try.prog 31 #[u9000_, .int .i64 a1] w fun e w' => e = .returned (.int .i64 r1) ∧ Kd.R k85 85 w' w0.heap.size (fun k_ => (P0_ k_ ∨ w.heap.size ≤ k_)) u9000_ r2 ∧ Below w0.heap.size w0 w' ∧ Kept w w' (fun k_ => P0_ k_) := by
 have HO0 := am (show Kd.R k85 85 w w0.heap.size (fun k_ => (P0_ k_ ∨ w.heap.size ≤ k_)) u9000_ l0 from Kd.R_mono ho0 (fun k_ hk => (.inl hk)))
 have HK := am (Kept.refl w (fun k_ => P0_ k_))
 have HW0 := am hB.size
 have HB := am hB
 clear hB
 have H : (laws_markStepS.l0 k l0 a1 0) = some (r1, r2) := h
 clear h
 have H' := am H
 clear H
 go_enter Try.func31, Try.ntmps31
 go_wp2
 go_loopg [1, 5] k (fun kq v1 v5 w' => ∃ (x0_1 : List (S85)) (x1_1 : Int) (x5_1 : Int), v1 = .int .i64 x1_1 ∧ v5 = .int .i64 x5_1 ∧ Aside0 (laws_markStepS.l0 kq x0_1 x1_1 x5_1 = some (r1, r2)) ∧ Aside0 (kq ≤ k) ∧ Aside0 (Kd.R k85 85 w' w0.heap.size (fun k_ => (P0_ k_ ∨ w.heap.size ≤ k_)) u9000_ x0_1) ∧ Aside0 (Kept w w' (fun k_ => P0_ k_)) ∧ Aside0 (Below w0.heap.size w0 w'))
 case atStart => exact ⟨(l0), (a1), (0), rf, rf, H', ⟨Nat.le_refl _⟩, ⟨pr HO0.out⟩, ⟨pk HK.out⟩, ⟨ph HB.out⟩⟩
 case round =>
  clear H'
  obtain ⟨x0_1, x1_1, x5_1, rfl, rfl, HA, HK1, HO_0, HK, HB⟩ := hrel
  cases gk with
  | zero => exact absurd HA.out (by simp [laws_markStepS.l0])
  | succ k1 =>
   have H := HA.out
   clear HA
   simp only [laws_markStepS.l0] at H
   by_cases c3 : x5_1 < (x0_1.length : Int)
   rotate_left
   · rw [if_neg c3] at H
     have c3b0 := decide_eq_false c3
     clear c3
     simp only [Option.some.injEq, Prod.mk.injEq] at H
     obtain ⟨rfl, rfl⟩ := H
     obtain ⟨Ao30, co30, eo30⟩ := Kd.R_slice HO_0.out
     subst eo30
     go_wp2
     go_ret
     exact (rq ⟨pr HO_0.out, ph HB.out, pk HK.out⟩)
   rw [if_pos c3] at H
   have c3b0 := decide_eq_true c3
   clear c3
   by_cases c4 : 0 ≤ x5_1
   rotate_left
   · rw [if_neg c4] at H
     exact absurd H (by simp)
   rw [if_pos c4] at H
   have c4b0 := decide_eq_true c4
   clear c4
   obtain ⟨y194, hy194⟩ : ∃ y_ : List (S85), y_ = (x0_1.set (x5_1 : Int).toNat (⟨x1_1, (rd_T85 x0_1 x5_1).f1, (rd_T85 x0_1 x5_1).f2, (rd_T85 x0_1 x5_1).f3, (⟨(rd_T85 x0_1 x5_1).f4.f0, (rd_T85 x0_1 x5_1).f4.f1, (rd_T85 x0_1 x5_1).f4.f2, (rd_T85 x0_1 x5_1).f4.f3⟩ : S30)⟩ : S85)) := ⟨_, rfl⟩
   replace H : ((some (y194.set (x5_1 : Int).toNat (⟨(rd_T85 y194 x5_1).f0, wrap64 (x1_1 + 1), (rd_T85 y194 x5_1).f2, (rd_T85 y194 x5_1).f3, (⟨(rd_T85 y194 x5_1).f4.f0, (rd_T85 y194 x5_1).f4.f1, (rd_T85 y194 x5_1).f4.f2, (rd_T85 y194 x5_1).f4.f3⟩ : S30)⟩ : S85) : List (S85))).bind fun y195 => ((some (y195.set (x5_1 : Int).toNat (⟨(rd_T85 y195 x5_1).f0, (rd_T85 y195 x5_1).f1, wrap64 ((wrap64 (x1_1 + 1)) + 1), (rd_T85 y195 x5_1).f3, (⟨(rd_T85 y195 x5_1).f4.f0, (rd_T85 y195 x5_1).f4.f1, (rd_T85 y195 x5_1).f4.f2, (rd_T85 y195 x5_1).f4.f3⟩ : S30)⟩ : S85) : List (S85))).bind fun y196 => ((some (y196.set (x5_1 : Int).toNat (⟨(rd_T85 y196 x5_1).f0, (rd_T85 y196 x5_1).f1, (rd_T85 y196 x5_1).f2, wrap64 ((wrap64 ((wrap64 (x1_1 + 1)) + 1)) + 1), (⟨(rd_T85 y196 x5_1).f4.f0, (rd_T85 y196 x5_1).f4.f1, (rd_T85 y196 x5_1).f4.f2, (rd_T85 y196 x5_1).f4.f3⟩ : S30)⟩ : S85) : List (S85))).bind fun y197 => ((some (y197.set (x5_1 : Int).toNat (⟨(rd_T85 y197 x5_1).f0, (rd_T85 y197 x5_1).f1, (rd_T85 y197 x5_1).f2, (rd_T85 y197 x5_1).f3, (⟨wrap64 ((wrap64 ((wrap64 ((wrap64 (x1_1 + 1)) + 1)) + 1)) + 1), (rd_T85 y197 x5_1).f4.f1, (rd_T85 y197 x5_1).f4.f2, (rd_T85 y197 x5_1).f4.f3⟩ : S30)⟩ : S85) : List (S85))).bind fun y198 => ((some (y198.set (x5_1 : Int).toNat (⟨(rd_T85 y198 x5_1).f0, (rd_T85 y198 x5_1).f1, (rd_T85 y198 x5_1).f2, (rd_T85 y198 x5_1).f3, (⟨(rd_T85 y198 x5_1).f4.f0, wrap64 ((wrap64 ((wrap64 ((wrap64 ((wrap64 (x1_1 + 1)) + 1)) + 1)) + 1)) + 1), (rd_T85 y198 x5_1).f4.f2, (rd_T85 y198 x5_1).f4.f3⟩ : S30)⟩ : S85) : List (S85))).bind fun y199 => ((some (y199.set (x5_1 : Int).toNat (⟨(rd_T85 y199 x5_1).f0, (rd_T85 y199 x5_1).f1, (rd_T85 y199 x5_1).f2, (rd_T85 y199 x5_1).f3, (⟨(rd_T85 y199 x5_1).f4.f0, (rd_T85 y199 x5_1).f4.f1, wrap64 ((wrap64 ((wrap64 ((wrap64 ((wrap64 ((wrap64 (x1_1 + 1)) + 1)) + 1)) + 1)) + 1)) + 1), (rd_T85 y199 x5_1).f4.f3⟩ : S30)⟩ : S85) : List (S85))).bind fun y200 => (laws_markStepS.l0 k1 (y200.set (x5_1 : Int).toNat (⟨(rd_T85 y200 x5_1).f0, (rd_T85 y200 x5_1).f1, (rd_T85 y200 x5_1).f2, (rd_T85 y200 x5_1).f3, (⟨(rd_T85 y200 x5_1).f4.f0, (rd_T85 y200 x5_1).f4.f1, (rd_T85 y200 x5_1).f4.f2, wrap64 ((wrap64 ((wrap64 ((wrap64 ((wrap64 ((wrap64 ((wrap64 (x1_1 + 1)) + 1)) + 1)) + 1)) + 1)) + 1)) + 1)⟩ : S30)⟩ : S85)) (wrap64 ((wrap64 ((wrap64 ((wrap64 ((wrap64 ((wrap64 ((wrap64 ((wrap64 (x1_1 + 1)) + 1)) + 1)) + 1)) + 1)) + 1)) + 1)) + 1)) (wrap64 (x5_1 + 1))))))))) = some (r1, r2) := by first | (rw [hy194]; with_reducible exact H) | (have H2_ := (Option.bind_some _ _).symm.trans H; rw [hy194]; with_reducible exact H2_) | (have H2_ := (Option.bind_some _ _).symm.trans H; with_reducible exact H2_) | with_reducible exact H | (rw [hy194]; exact H) | exact H
   have Ny194 := am hy194
   clear hy194
   obtain ⟨y195, hy195⟩ : ∃ y_ : List (S85), y_ = (y194.set (x5_1 : Int).toNat (⟨(rd_T85 y194 x5_1).f0, wrap64 (x1_1 + 1), (rd_T85 y194 x5_1).f2, (rd_T85 y194 x5_1).f3, (⟨(rd_T85 y194 x5_1).f4.f0, (rd_T85 y194 x5_1).f4.f1, (rd_T85 y194 x5_1).f4.f2, (rd_T85 y194 x5_1).f4.f3⟩ : S30)⟩ : S85)) := ⟨_, rfl⟩
   replace H : ((some (y195.set (x5_1 : Int).toNat (⟨(rd_T85 y195 x5_1).f0, (rd_T85 y195 x5_1).f1, wrap64 ((wrap64 (x1_1 + 1)) + 1), (rd_T85 y195 x5_1).f3, (⟨(rd_T85 y195 x5_1).f4.f0, (rd_T85 y195 x5_1).f4.f1, (rd_T85 y195 x5_1).f4.f2, (rd_T85 y195 x5_1).f4.f3⟩ : S30)⟩ : S85) : List (S85))).bind fun y196 => ((some (y196.set (x5_1 : Int).toNat (⟨(rd_T85 y196 x5_1).f0, (rd_T85 y196 x5_1).f1, (rd_T85 y196 x5_1).f2, wrap64 ((wrap64 ((wrap64 (x1_1 + 1)) + 1)) + 1), (⟨(rd_T85 y196 x5_1).f4.f0, (rd_T85 y196 x5_1).f4.f1, (rd_T85 y196 x5_1).f4.f2, (rd_T85 y196 x5_1).f4.f3⟩ : S30)⟩ : S85) : List (S85))).bind fun y197 => ((some (y197.set (x5_1 : Int).toNat (⟨(rd_T85 y197 x5_1).f0, (rd_T85 y197 x5_1).f1, (rd_T85 y197 x5_1).f2, (rd_T85 y197 x5_1).f3, (⟨wrap64 ((wrap64 ((wrap64 ((wrap64 (x1_1 + 1)) + 1)) + 1)) + 1), (rd_T85 y197 x5_1).f4.f1, (rd_T85 y197 x5_1).f4.f2, (rd_T85 y197 x5_1).f4.f3⟩ : S30)⟩ : S85) : List (S85))).bind fun y198 => ((some (y198.set (x5_1 : Int).toNat (⟨(rd_T85 y198 x5_1).f0, (rd_T85 y198 x5_1).f1, (rd_T85 y198 x5_1).f2, (rd_T85 y198 x5_1).f3, (⟨(rd_T85 y198 x5_1).f4.f0, wrap64 ((wrap64 ((wrap64 ((wrap64 ((wrap64 (x1_1 + 1)) + 1)) + 1)) + 1)) + 1), (rd_T85 y198 x5_1).f4.f2, (rd_T85 y198 x5_1).f4.f3⟩ : S30)⟩ : S85) : List (S85))).bind fun y199 => ((some (y199.set (x5_1 : Int).toNat (⟨(rd_T85 y199 x5_1).f0, (rd_T85 y199 x5_1).f1, (rd_T85 y199 x5_1).f2, (rd_T85 y199 x5_1).f3, (⟨(rd_T85 y199 x5_1).f4.f0, (rd_T85 y199 x5_1).f4.f1, wrap64 ((wrap64 ((wrap64 ((wrap64 ((wrap64 ((wrap64 (x1_1 + 1)) + 1)) + 1)) + 1)) + 1)) + 1), (rd_T85 y199 x5_1).f4.f3⟩ : S30)⟩ : S85) : List (S85))).bind fun y200 => (laws_markStepS.l0 k1 (y200.set (x5_1 : Int).toNat (⟨(rd_T85 y200 x5_1).f0, (rd_T85 y200 x5_1).f1, (rd_T85 y200 x5_1).f2, (rd_T85 y200 x5_1).f3, (⟨(rd_T85 y200 x5_1).f4.f0, (rd_T85 y200 x5_1).f4.f1, (rd_T85 y200 x5_1).f4.f2, wrap64 ((wrap64 ((wrap64 ((wrap64 ((wrap64 ((wrap64 ((wrap64 (x1_1 + 1)) + 1)) + 1)) + 1)) + 1)) + 1)) + 1)⟩ : S30)⟩ : S85)) (wrap64 ((wrap64 ((wrap64 ((wrap64 ((wrap64 ((wrap64 ((wrap64 ((wrap64 (x1_1 + 1)) + 1)) + 1)) + 1)) + 1)) + 1)) + 1)) + 1)) (wrap64 (x5_1 + 1)))))))) = some (r1, r2) := by first | (rw [hy195]; with_reducible exact H) | (have H2_ := (Option.bind_some _ _).symm.trans H; rw [hy195]; with_reducible exact H2_) | (have H2_ := (Option.bind_some _ _).symm.trans H; with_reducible exact H2_) | with_reducible exact H | (rw [hy195]; exact H) | exact H
   have Ny195 := am hy195
   clear hy195
   obtain ⟨y196, hy196⟩ : ∃ y_ : List (S85), y_ = (y195.set (x5_1 : Int).toNat (⟨(rd_T85 y195 x5_1).f0, (rd_T85 y195 x5_1).f1, wrap64 ((wrap64 (x1_1 + 1)) + 1), (rd_T85 y195 x5_1).f3, (⟨(rd_T85 y195 x5_1).f4.f0, (rd_T85 y195 x5_1).f4.f1, (rd_T85 y195 x5_1).f4.f2, (rd_T85 y195 x5_1).f4.f3⟩ : S30)⟩ : S85)) := ⟨_, rfl⟩
   replace H : ((some (y196.set (x5_1 : Int).toNat (⟨(rd_T85 y196 x5_1).f0, (rd_T85 y196 x5_1).f1, (rd_T85 y196 x5_1).f2, wrap64 ((wrap64 ((wrap64 (x1_1 + 1)) + 1)) + 1), (⟨(rd_T85 y196 x5_1).f4.f0, (rd_T85 y196 x5_1).f4.f1, (rd_T85 y196 x5_1).f4.f2, (rd_T85 y196 x5_1).f4.f3⟩ : S30)⟩ : S85) : List (S85))).bind fun y197 => ((some (y197.set (x5_1 : Int).toNat (⟨(rd_T85 y197 x5_1).f0, (rd_T85 y197 x5_1).f1, (rd_T85 y197 x5_1).f2, (rd_T85 y197 x5_1).f3, (⟨wrap64 ((wrap64 ((wrap64 ((wrap64 (x1_1 + 1)) + 1)) + 1)) + 1), (rd_T85 y197 x5_1).f4.f1, (rd_T85 y197 x5_1).f4.f2, (rd_T85 y197 x5_1).f4.f3⟩ : S30)⟩ : S85) : List (S85))).bind fun y198 => ((some (y198.set (x5_1 : Int).toNat (⟨(rd_T85 y198 x5_1).f0, (rd_T85 y198 x5_1).f1, (rd_T85 y198 x5_1).f2, (rd_T85 y198 x5_1).f3, (⟨(rd_T85 y198 x5_1).f4.f0, wrap64 ((wrap64 ((wrap64 ((wrap64 ((wrap64 (x1_1 + 1)) + 1)) + 1)) + 1)) + 1), (rd_T85 y198 x5_1).f4.f2, (rd_T85 y198 x5_1).f4.f3⟩ : S30)⟩ : S85) : List (S85))).bind fun y199 => ((some (y199.set (x5_1 : Int).toNat (⟨(rd_T85 y199 x5_1).f0, (rd_T85 y199 x5_1).f1, (rd_T85 y199 x5_1).f2, (rd_T85 y199 x5_1).f3, (⟨(rd_T85 y199 x5_1).f4.f0, (rd_T85 y199 x5_1).f4.f1, wrap64 ((wrap64 ((wrap64 ((wrap64 ((wrap64 ((wrap64 (x1_1 + 1)) + 1)) + 1)) + 1)) + 1)) + 1), (rd_T85 y199 x5_1).f4.f3⟩ : S30)⟩ : S85) : List (S85))).bind fun y200 => (laws_markStepS.l0 k1 (y200.set (x5_1 : Int).toNat (⟨(rd_T85 y200 x5_1).f0, (rd_T85 y200 x5_1).f1, (rd_T85 y200 x5_1).f2, (rd_T85 y200 x5_1).f3, (⟨(rd_T85 y200 x5_1).f4.f0, (rd_T85 y200 x5_1).f4.f1, (rd_T85 y200 x5_1).f4.f2, wrap64 ((wrap64 ((wrap64 ((wrap64 ((wrap64 ((wrap64 ((wrap64 (x1_1 + 1)) + 1)) + 1)) + 1)) + 1)) + 1)) + 1)⟩ : S30)⟩ : S85)) (wrap64 ((wrap64 ((wrap64 ((wrap64 ((wrap64 ((wrap64 ((wrap64 ((wrap64 (x1_1 + 1)) + 1)) + 1)) + 1)) + 1)) + 1)) + 1)) + 1)) (wrap64 (x5_1 + 1))))))) = some (r1, r2) := by first | (rw [hy196]; with_reducible exact H) | (have H2_ := (Option.bind_some _ _).symm.trans H; rw [hy196]; with_reducible exact H2_) | (have H2_ := (Option.bind_some _ _).symm.trans H; with_reducible exact H2_) | with_reducible exact H | (rw [hy196]; exact H) | exact H
   have Ny196 := am hy196
   clear hy196
   obtain ⟨y197, hy197⟩ : ∃ y_ : List (S85), y_ = (y196.set (x5_1 : Int).toNat (⟨(rd_T85 y196 x5_1).f0, (rd_T85 y196 x5_1).f1, (rd_T85 y196 x5_1).f2, wrap64 ((wrap64 ((wrap64 (x1_1 + 1)) + 1)) + 1), (⟨(rd_T85 y196 x5_1).f4.f0, (rd_T85 y196 x5_1).f4.f1, (rd_T85 y196 x5_1).f4.f2, (rd_T85 y196 x5_1).f4.f3⟩ : S30)⟩ : S85)) := ⟨_, rfl⟩
   replace H : ((some (y197.set (x5_1 : Int).toNat (⟨(rd_T85 y197 x5_1).f0, (rd_T85 y197 x5_1).f1, (rd_T85 y197 x5_1).f2, (rd_T85 y197 x5_1).f3, (⟨wrap64 ((wrap64 ((wrap64 ((wrap64 (x1_1 + 1)) + 1)) + 1)) + 1), (rd_T85 y197 x5_1).f4.f1, (rd_T85 y197 x5_1).f4.f2, (rd_T85 y197 x5_1).f4.f3⟩ : S30)⟩ : S85) : List (S85))).bind fun y198 => ((some (y198.set (x5_1 : Int).toNat (⟨(rd_T85 y198 x5_1).f0, (rd_T85 y198 x5_1).f1, (rd_T85 y198 x5_1).f2, (rd_T85 y198 x5_1).f3, (⟨(rd_T85 y198 x5_1).f4.f0, wrap64 ((wrap64 ((wrap64 ((wrap64 ((wrap64 (x1_1 + 1)) + 1)) + 1)) + 1)) + 1), (rd_T85 y198 x5_1).f4.f2, (rd_T85 y198 x5_1).f4.f3⟩ : S30)⟩ : S85) : List (S85))).bind fun y199 => ((some (y199.set (x5_1 : Int).toNat (⟨(rd_T85 y199 x5_1).f0, (rd_T85 y199 x5_1).f1, (rd_T85 y199 x5_1).f2, (rd_T85 y199 x5_1).f3, (⟨(rd_T85 y199 x5_1).f4.f0, (rd_T85 y199 x5_1).f4.f1, wrap64 ((wrap64 ((wrap64 ((wrap64 ((wrap64 ((wrap64 (x1_1 + 1)) + 1)) + 1)) + 1)) + 1)) + 1), (rd_T85 y199 x5_1).f4.f3⟩ : S30)⟩ : S85) : List (S85))).bind fun y200 => (laws_markStepS.l0 k1 (y200.set (x5_1 : Int).toNat (⟨(rd_T85 y200 x5_1).f0, (rd_T85 y200 x5_1).f1, (rd_T85 y200 x5_1).f2, (rd_T85 y200 x5_1).f3, (⟨(rd_T85 y200 x5_1).f4.f0, (rd_T85 y200 x5_1).f4.f1, (rd_T85 y200 x5_1).f4.f2, wrap64 ((wrap64 ((wrap64 ((wrap64 ((wrap64 ((wrap64 ((wrap64 (x1_1 + 1)) + 1)) + 1)) + 1)) + 1)) + 1)) + 1)⟩ : S30)⟩ : S85)) (wrap64 ((wrap64 ((wrap64 ((wrap64 ((wrap64 ((wrap64 ((wrap64 ((wrap64 (x1_1 + 1)) + 1)) + 1)) + 1)) + 1)) + 1)) + 1)) + 1)) (wrap64 (x5_1 + 1)))))) = some (r1, r2) := by first | (rw [hy197]; with_reducible exact H) | (have H2_ := (Option.bind_some _ _).symm.trans H; rw [hy197]; with_reducible exact H2_) | (have H2_ := (Option.bind_some _ _).symm.trans H; with_reducible exact H2_) | with_reducible exact H | (rw [hy197]; exact H) | exact H
   have Ny197 := am hy197
   clear hy197
   obtain ⟨y198, hy198⟩ : ∃ y_ : List (S85), y_ = (y197.set (x5_1 : Int).toNat (⟨(rd_T85 y197 x5_1).f0, (rd_T85 y197 x5_1).f1, (rd_T85 y197 x5_1).f2, (rd_T85 y197 x5_1).f3, (⟨wrap64 ((wrap64 ((wrap64 ((wrap64 (x1_1 + 1)) + 1)) + 1)) + 1), (rd_T85 y197 x5_1).f4.f1, (rd_T85 y197 x5_1).f4.f2, (rd_T85 y197 x5_1).f4.f3⟩ : S30)⟩ : S85)) := ⟨_, rfl⟩
   replace H : ((some (y198.set (x5_1 : Int).toNat (⟨(rd_T85 y198 x5_1).f0, (rd_T85 y198 x5_1).f1, (rd_T85 y198 x5_1).f2, (rd_T85 y198 x5_1).f3, (⟨(rd_T85 y198 x5_1).f4.f0, wrap64 ((wrap64 ((wrap64 ((wrap64 ((wrap64 (x1_1 + 1)) + 1)) + 1)) + 1)) + 1), (rd_T85 y198 x5_1).f4.f2, (rd_T85 y198 x5_1).f4.f3⟩ : S30)⟩ : S85) : List (S85))).bind fun y199 => ((some (y199.set (x5_1 : Int).toNat (⟨(rd_T85 y199 x5_1).f0, (rd_T85 y199 x5_1).f1, (rd_T85 y199 x5_1).f2, (rd_T85 y199 x5_1).f3, (⟨(rd_T85 y199 x5_1).f4.f0, (rd_T85 y199 x5_1).f4.f1, wrap64 ((wrap64 ((wrap64 ((wrap64 ((wrap64 ((wrap64 (x1_1 + 1)) + 1)) + 1)) + 1)) + 1)) + 1), (rd_T85 y199 x5_1).f4.f3⟩ : S30)⟩ : S85) : List (S85))).bind fun y200 => (laws_markStepS.l0 k1 (y200.set (x5_1 : Int).toNat (⟨(rd_T85 y200 x5_1).f0, (rd_T85 y200 x5_1).f1, (rd_T85 y200 x5_1).f2, (rd_T85 y200 x5_1).f3, (⟨(rd_T85 y200 x5_1).f4.f0, (rd_T85 y200 x5_1).f4.f1, (rd_T85 y200 x5_1).f4.f2, wrap64 ((wrap64 ((wrap64 ((wrap64 ((wrap64 ((wrap64 ((wrap64 (x1_1 + 1)) + 1)) + 1)) + 1)) + 1)) + 1)) + 1)⟩ : S30)⟩ : S85)) (wrap64 ((wrap64 ((wrap64 ((wrap64 ((wrap64 ((wrap64 ((wrap64 ((wrap64 (x1_1 + 1)) + 1)) + 1)) + 1)) + 1)) + 1)) + 1)) + 1)) (wrap64 (x5_1 + 1))))) = some (r1, r2) := by first | (rw [hy198]; with_reducible exact H) | (have H2_ := (Option.bind_some _ _).symm.trans H; rw [hy198]; with_reducible exact H2_) | (have H2_ := (Option.bind_some _ _).symm.trans H; with_reducible exact H2_) | with_reducible exact H | (rw [hy198]; exact H) | exact H
   have Ny198 := am hy198
   clear hy198
   obtain ⟨y199, hy199⟩ : ∃ y_ : List (S85), y_ = (y198.set (x5_1 : Int).toNat (⟨(rd_T85 y198 x5_1).f0, (rd_T85 y198 x5_1).f1, (rd_T85 y198 x5_1).f2, (rd_T85 y198 x5_1).f3, (⟨(rd_T85 y198 x5_1).f4.f0, wrap64 ((wrap64 ((wrap64 ((wrap64 ((wrap64 (x1_1 + 1)) + 1)) + 1)) + 1)) + 1), (rd_T85 y198 x5_1).f4.f2, (rd_T85 y198 x5_1).f4.f3⟩ : S30)⟩ : S85)) := ⟨_, rfl⟩
   replace H : ((some (y199.set (x5_1 : Int).toNat (⟨(rd_T85 y199 x5_1).f0, (rd_T85 y199 x5_1).f1, (rd_T85 y199 x5_1).f2, (rd_T85 y199 x5_1).f3, (⟨(rd_T85 y199 x5_1).f4.f0, (rd_T85 y199 x5_1).f4.f1, wrap64 ((wrap64 ((wrap64 ((wrap64 ((wrap64 ((wrap64 (x1_1 + 1)) + 1)) + 1)) + 1)) + 1)) + 1), (rd_T85 y199 x5_1).f4.f3⟩ : S30)⟩ : S85) : List (S85))).bind fun y200 => (laws_markStepS.l0 k1 (y200.set (x5_1 : Int).toNat (⟨(rd_T85 y200 x5_1).f0, (rd_T85 y200 x5_1).f1, (rd_T85 y200 x5_1).f2, (rd_T85 y200 x5_1).f3, (⟨(rd_T85 y200 x5_1).f4.f0, (rd_T85 y200 x5_1).f4.f1, (rd_T85 y200 x5_1).f4.f2, wrap64 ((wrap64 ((wrap64 ((wrap64 ((wrap64 ((wrap64 ((wrap64 (x1_1 + 1)) + 1)) + 1)) + 1)) + 1)) + 1)) + 1)⟩ : S30)⟩ : S85)) (wrap64 ((wrap64 ((wrap64 ((wrap64 ((wrap64 ((wrap64 ((wrap64 ((wrap64 (x1_1 + 1)) + 1)) + 1)) + 1)) + 1)) + 1)) + 1)) + 1)) (wrap64 (x5_1 + 1)))) = some (r1, r2) := by first | (rw [hy199]; with_reducible exact H) | (have H2_ := (Option.bind_some _ _).symm.trans H; rw [hy199]; with_reducible exact H2_) | (have H2_ := (Option.bind_some _ _).symm.trans H; with_reducible exact H2_) | with_reducible exact H | (rw [hy199]; exact H) | exact H
   have Ny199 := am hy199
   clear hy199
   obtain ⟨y200, hy200⟩ : ∃ y_ : List (S85), y_ = (y199.set (x5_1 : Int).toNat (⟨(rd_T85 y199 x5_1).f0, (rd_T85 y199 x5_1).f1, (rd_T85 y199 x5_1).f2, (rd_T85 y199 x5_1).f3, (⟨(rd_T85 y199 x5_1).f4.f0, (rd_T85 y199 x5_1).f4.f1, wrap64 ((wrap64 ((wrap64 ((wrap64 ((wrap64 ((wrap64 (x1_1 + 1)) + 1)) + 1)) + 1)) + 1)) + 1), (rd_T85 y199 x5_1).f4.f3⟩ : S30)⟩ : S85)) := ⟨_, rfl⟩
   replace H : (laws_markStepS.l0 k1 (y200.set (x5_1 : Int).toNat (⟨(rd_T85 y200 x5_1).f0, (rd_T85 y200 x5_1).f1, (rd_T85 y200 x5_1).f2, (rd_T85 y200 x5_1).f3, (⟨(rd_T85 y200 x5_1).f4.f0, (rd_T85 y200 x5_1).f4.f1, (rd_T85 y200 x5_1).f4.f2, wrap64 ((wrap64 ((wrap64 ((wrap64 ((wrap64 ((wrap64 ((wrap64 (x1_1 + 1)) + 1)) + 1)) + 1)) + 1)) + 1)) + 1)⟩ : S30)⟩ : S85)) (wrap64 ((wrap64 ((wrap64 ((wrap64 ((wrap64 ((wrap64 ((wrap64 ((wrap64 (x1_1 + 1)) + 1)) + 1)) + 1)) + 1)) + 1)) + 1)) + 1)) (wrap64 (x5_1 + 1))) = some (r1, r2) := by first | (rw [hy200]; with_reducible exact H) | (have H2_ := (Option.bind_some _ _).symm.trans H; rw [hy200]; with_reducible exact H2_) | (have H2_ := (Option.bind_some _ _).symm.trans H; with_reducible exact H2_) | with_reducible exact H | (rw [hy200]; exact H) | exact H
   have Ny200 := am hy200
   clear hy200
   obtain ⟨y201, hy201⟩ : ∃ y_ : List (S85), y_ = (y200.set (x5_1 : Int).toNat (⟨(rd_T85 y200 x5_1).f0, (rd_T85 y200 x5_1).f1, (rd_T85 y200 x5_1).f2, (rd_T85 y200 x5_1).f3, (⟨(rd_T85 y200 x5_1).f4.f0, (rd_T85 y200 x5_1).f4.f1, (rd_T85 y200 x5_1).f4.f2, wrap64 ((wrap64 ((wrap64 ((wrap64 ((wrap64 ((wrap64 ((wrap64 (x1_1 + 1)) + 1)) + 1)) + 1)) + 1)) + 1)) + 1)⟩ : S30)⟩ : S85)) := ⟨_, rfl⟩
   replace H : (laws_markStepS.l0 k1 y201 (wrap64 ((wrap64 ((wrap64 ((wrap64 ((wrap64 ((wrap64 ((wrap64 ((wrap64 (x1_1 + 1)) + 1)) + 1)) + 1)) + 1)) + 1)) + 1)) + 1)) (wrap64 (x5_1 + 1))) = some (r1, r2) := by first | (rw [hy201]; with_reducible exact H) | (have H2_ := (Option.bind_some _ _).symm.trans H; rw [hy201]; with_reducible exact H2_) | (have H2_ := (Option.bind_some _ _).symm.trans H; with_reducible exact H2_) | with_reducible exact H | (rw [hy201]; exact H) | exact H
   have Ny201 := am hy201
   clear hy201
   have H' := am H
   clear H
   obtain ⟨Ao13, co13, eo13⟩ := Kd.R_slice HO_0.out
   subst eo13
   have p5 : 0 ≤ (x5_1 : Int) := ofb
   have q5 : (x5_1 : Int) < ((x0_1.length : Int) : Int) := ofb
   obtain ⟨go5, co5, eo5, gb5, gl5, cl5, HG5⟩ := Kd.R_form HO_0.out (by omega)
   (first | cases eo5 | (injection eo5 with ea_ en_ ec_; (first | subst ea_ | (injection ea_ with ea_; subst ea_)); subst ec_; clear en_))
   have GB5 := am gb5
   have GG5 := am HG5
   clear gb5 gl5 HG5
   have HMgo5 := am (show (P0_ go5 ∨ w.heap.size ≤ go5) from (HO_0.out.1 _ rfl))
   obtain ⟨ce5, hcl5, hM5, hcc5, hfr5⟩ := Kd.R_elem HO_0.out z85 (x5_1 : Int) p5 q5
   obtain rfl := k85_openM hM5
   have hx5_0 : wr.cell? ⟨go5, (x5_1 : Int).toNat * 8, none⟩ = some (.int .i64 ((rd_T85 x0_1 x5_1).f0)) := hcc5 0 _ rfl
   have hx5_1 : wr.cell? ⟨go5, (x5_1 : Int).toNat * 8 + 1, none⟩ = some (.int .i64 ((rd_T85 x0_1 x5_1).f1)) := hcc5 1 _ rfl
   have hx5_2 : wr.cell? ⟨go5, (x5_1 : Int).toNat * 8 + 2, none⟩ = some (.int .i64 ((rd_T85 x0_1 x5_1).f2)) := hcc5 2 _ rfl
   have hx5_3 : wr.cell? ⟨go5, (x5_1 : Int).toNat * 8 + 3, none⟩ = some (.int .i64 ((rd_T85 x0_1 x5_1).f3)) := hcc5 3 _ rfl
   have hx5_4 : wr.cell? ⟨go5, (x5_1 : Int).toNat * 8 + 4, none⟩ = some (.int .i64 ((rd_T85 x0_1 x5_1).f4.f0)) := hcc5 4 _ rfl
   have hx5_5 : wr.cell? ⟨go5, (x5_1 : Int).toNat * 8 + 5, none⟩ = some (.int .i64 ((rd_T85 x0_1 x5_1).f4.f1)) := hcc5 5 _ rfl
   have hx5_6 : wr.cell? ⟨go5, (x5_1 : Int).toNat * 8 + 6, none⟩ = some (.int .i64 ((rd_T85 x0_1 x5_1).f4.f2)) := hcc5 6 _ rfl
   have hx5_7 : wr.cell? ⟨go5, (x5_1 : Int).toNat * 8 + 7, none⟩ = some (.int .i64 ((rd_T85 x0_1 x5_1).f4.f3)) := hcc5 7 _ rfl
   have hf5_0 : wr.frozen? ⟨go5, (x5_1 : Int).toNat * 8, none⟩ = false := hfr5 0
   have hf5_1 : wr.frozen? ⟨go5, (x5_1 : Int).toNat * 8 + 1, none⟩ = false := hfr5 1
   have hf5_2 : wr.frozen? ⟨go5, (x5_1 : Int).toNat * 8 + 2, none⟩ = false := hfr5 2
   have hf5_3 : wr.frozen? ⟨go5, (x5_1 : Int).toNat * 8 + 3, none⟩ = false := hfr5 3
   have hf5_4 : wr.frozen? ⟨go5, (x5_1 : Int).toNat * 8 + 4, none⟩ = false := hfr5 4
   have hf5_5 : wr.frozen? ⟨go5, (x5_1 : Int).toNat * 8 + 5, none⟩ = false := hfr5 5
   have hf5_6 : wr.frozen? ⟨go5, (x5_1 : Int).toNat * 8 + 6, none⟩ = false := hfr5 6
   have hf5_7 : wr.frozen? ⟨go5, (x5_1 : Int).toNat * 8 + 7, none⟩ = false := hfr5 7
   clear hcl5 hcc5 hfr5 hM5
   replace p5 := eq_true p5
   replace q5 := eq_true q5
   have HX14 := am (show Kd.R k85 85 wr w0.heap.size (fun k_ => (P0_ k_ ∨ w.heap.size ≤ k_)) (.slice (some ⟨go5, 0, none⟩) x0_1.length co13) x0_1 from (pr HO_0.out))
   obtain ⟨ce14, hcl14, hM14, hcc14, hfr14⟩ := Kd.R_elem HX14.out z85 (x5_1 : Int) (ofb) (by have h_ : (x5_1 : Int) < ((x0_1.length : Int) : Int) := ofb; first | exact h_ | (have e_ := (Kd.R_reads' HO_0.out).1; omega) | simpa using h_)
   obtain rfl := k85_openM hM14
   have HP14 := Kd.R_seg HX14.out (x5_1 : Int) (ofb) (by have h_ : (x5_1 : Int) < ((x0_1.length : Int) : Int) := ofb; first | exact h_ | (have e_ := (Kd.R_reads' HO_0.out).1; omega) | simpa using h_) (seg := [.int .i64 x1_1]) (j := 0) hcl14 hcc14 (show 1 ≤ 8 from by decide) (x' := (⟨x1_1, (rd_T85 x0_1 x5_1).f1, (rd_T85 x0_1 x5_1).f2, (rd_T85 x0_1 x5_1).f3, (⟨(rd_T85 x0_1 x5_1).f4.f0, (rd_T85 x0_1 x5_1).f4.f1, (rd_T85 x0_1 x5_1).f4.f2, (rd_T85 x0_1 x5_1).f4.f3⟩ : S30)⟩ : S85)) (k85_mkM _ _ _ (⟨x1_1, (rd_T85 x0_1 x5_1).f1, (rd_T85 x0_1 x5_1).f2, (rd_T85 x0_1 x5_1).f3, (⟨(rd_T85 x0_1 x5_1).f4.f0, (rd_T85 x0_1 x5_1).f4.f1, (rd_T85 x0_1 x5_1).f4.f2, (rd_T85 x0_1 x5_1).f4.f3⟩ : S30)⟩ : S85) ) (fun _ hk => hk)
   have hx14_0 := hcc14 0 _ rfl
   (try simp only [show (k85).sz = 8 from rfl, Nat.mul_one, Nat.add_zero] at hx14_0)
   have hf14_0 := hfr14 0
   (try simp only [show (k85).sz = 8 from rfl, Nat.mul_one, Nat.add_zero] at hf14_0)
   clear hcl14 hcc14 hfr14 hM14
   go_wp2_with (first | ((with_reducible refine gate_store (t := 3) (p := 16) rfl ?_); refine store_event (t := 3) (p := 16) (v := ?vo_w15) (w1 := (wr.setCell ⟨go5, (x5_1 : Int).toNat * 8, none⟩ (.int .i64 x1_1))) ?hg ?ho ?hn ?hr ?_; (case ho => rfl); (case hg => rfl); (case hn => rfl); (case hr => first | (go_simp; done) | (go_simp; rfl)); intro w15 hw; have hg : wr.grownBy w15 (some go5) := (by rw [hw]; exact HP14.2); have hp_ : Kd.R k85 85 w15 w0.heap.size (fun k_ => (P0_ k_ ∨ w.heap.size ≤ k_)) (.slice (some ⟨go5, 0, none⟩) x0_1.length co13) y194 := (by rw [hw, Ny194.out]; exact HP14.1); clear HP14; replace HB := am ((by rw [hw]; exact below_set (HB.out) GB5.out : Below w0.heap.size w0 w15)); replace HK := am (Kept.of_grown (S := (fun k_ => P0_ k_)) hg (pk HK.out) (fun k_ e_ => (HO_0.out.1 k_ e_))); replace HO_0 := am (hp_); clear hg hw hp_; have p6 : 0 ≤ (x5_1 : Int) := ofb; have q6 : (x5_1 : Int) < ((x0_1.length : Int) : Int) := ofb; obtain ⟨ce6, hcl6, hM6, hcc6, hfr6⟩ := Kd.R_elem HO_0.out z85 (x5_1 : Int) p6 q6; obtain rfl := k85_openM hM6; have hx6_0 : w15.cell? ⟨go5, (x5_1 : Int).toNat * 8, none⟩ = some (.int .i64 ((rd_T85 y194 x5_1).f0)) := hcc6 0 _ rfl; have hx6_1 : w15.cell? ⟨go5, (x5_1 : Int).toNat * 8 + 1, none⟩ = some (.int .i64 ((rd_T85 y194 x5_1).f1)) := hcc6 1 _ rfl; have hx6_2 : w15.cell? ⟨go5, (x5_1 : Int).toNat * 8 + 2, none⟩ = some (.int .i64 ((rd_T85 y194 x5_1).f2)) := hcc6 2 _ rfl; have hx6_3 : w15.cell? ⟨go5, (x5_1 : Int).toNat * 8 + 3, none⟩ = some (.int .i64 ((rd_T85 y194 x5_1).f3)) := hcc6 3 _ rfl; have hx6_4 : w15.cell? ⟨go5, (x5_1 : Int).toNat * 8 + 4, none⟩ = some (.int .i64 ((rd_T85 y194 x5_1).f4.f0)) := hcc6 4 _ rfl; have hx6_5 : w15.cell? ⟨go5, (x5_1 : Int).toNat * 8 + 5, none⟩ = some (.int .i64 ((rd_T85 y194 x5_1).f4.f1)) := hcc6 5 _ rfl; have hx6_6 : w15.cell? ⟨go5, (x5_1 : Int).toNat * 8 + 6, none⟩ = some (.int .i64 ((rd_T85 y194 x5_1).f4.f2)) := hcc6 6 _ rfl; have hx6_7 : w15.cell? ⟨go5, (x5_1 : Int).toNat * 8 + 7, none⟩ = some (.int .i64 ((rd_T85 y194 x5_1).f4.f3)) := hcc6 7 _ rfl; have hf6_0 : w15.frozen? ⟨go5, (x5_1 : Int).toNat * 8, none⟩ = false := hfr6 0; have hf6_1 : w15.frozen? ⟨go5, (x5_1 : Int).toNat * 8 + 1, none⟩ = false := hfr6 1; have hf6_2 : w15.frozen? ⟨go5, (x5_1 : Int).toNat * 8 + 2, none⟩ = false := hfr6 2; have hf6_3 : w15.frozen? ⟨go5, (x5_1 : Int).toNat * 8 + 3, none⟩ = false := hfr6 3; have hf6_4 : w15.frozen? ⟨go5, (x5_1 : Int).toNat * 8 + 4, none⟩ = false := hfr6 4; have hf6_5 : w15.frozen? ⟨go5, (x5_1 : Int).toNat * 8 + 5, none⟩ = false := hfr6 5; have hf6_6 : w15.frozen? ⟨go5, (x5_1 : Int).toNat * 8 + 6, none⟩ = false := hfr6 6; have hf6_7 : w15.frozen? ⟨go5, (x5_1 : Int).toNat * 8 + 7, none⟩ = false := hfr6 7; clear hcl6 hcc6 hfr6 hM6; replace p6 := eq_true p6; replace q6 := eq_true q6; have HX16 := am (show Kd.R k85 85 w15 w0.heap.size (fun k_ => (P0_ k_ ∨ w.heap.size ≤ k_)) (.slice (some ⟨go5, 0, none⟩) x0_1.length co13) y194 from (pr HO_0.out)); obtain ⟨ce16, hcl16, hM16, hcc16, hfr16⟩ := Kd.R_elem HX16.out z85 (x5_1 : Int) (ofb) (by have h_ : (x5_1 : Int) < ((x0_1.length : Int) : Int) := ofb; first | exact h_ | (have e_ := (Kd.R_reads' HO_0.out).1; omega) | simpa using h_); obtain rfl := k85_openM hM16; have HP16 := Kd.R_seg HX16.out (x5_1 : Int) (ofb) (by have h_ : (x5_1 : Int) < ((x0_1.length : Int) : Int) := ofb; first | exact h_ | (have e_ := (Kd.R_reads' HO_0.out).1; omega) | simpa using h_) (seg := [.int .i64 (wrap64 (x1_1 + 1))]) (j := 1) hcl16 hcc16 (show 2 ≤ 8 from by decide) (x' := (⟨(rd_T85 y194 x5_1).f0, wrap64 (x1_1 + 1), (rd_T85 y194 x5_1).f2, (rd_T85 y194 x5_1).f3, (⟨(rd_T85 y194 x5_1).f4.f0, (rd_T85 y194 x5_1).f4.f1, (rd_T85 y194 x5_1).f4.f2, (rd_T85 y194 x5_1).f4.f3⟩ : S30)⟩ : S85)) (k85_mkM _ _ _ (⟨(rd_T85 y194 x5_1).f0, wrap64 (x1_1 + 1), (rd_T85 y194 x5_1).f2, (rd_T85 y194 x5_1).f3, (⟨(rd_T85 y194 x5_1).f4.f0, (rd_T85 y194 x5_1).f4.f1, (rd_T85 y194 x5_1).f4.f2, (rd_T85 y194 x5_1).f4.f3⟩ : S30)⟩ : S85) ) (fun _ hk => hk); have hx16_1 := hcc16 1 _ rfl; (try simp only [show (k85).sz = 8 from rfl, Nat.mul_one, Nat.add_zero] at hx16_1); have hf16_1 := hfr16 1; (try simp only [show (k85).sz = 8 from rfl, Nat.mul_one, Nat.add_zero] at hf16_1); clear hcl16 hcc16 hfr16 hM16) | ((with_reducible refine gate_store (t := 3) (p := 23) rfl ?_); refine store_event (t := 3) (p := 23) (v := ?vo_w17) (w1 := (w15.setCell ⟨go5, (x5_1 : Int).toNat * 8 + 1, none⟩ (.int .i64 (wrap64 (x1_1 + 1))))) ?hg ?ho ?hn ?hr ?_; (case ho => rfl); (case hg => rfl); (case hn => rfl); (case hr => first | (go_simp; done) | (go_simp; rfl)); intro w17 hw; have hg : w15.grownBy w17 (some go5) := (by rw [hw]; exact HP16.2); have hp_ : Kd.R k85 85 w17 w0.heap.size (fun k_ => (P0_ k_ ∨ w.heap.size ≤ k_)) (.slice (some ⟨go5, 0, none⟩) x0_1.length co13) y195 := (by rw [hw, Ny195.out]; exact HP16.1); clear HP16; replace HB := am ((by rw [hw]; exact below_set (HB.out) GB5.out : Below w0.heap.size w0 w17)); replace HK := am (Kept.of_grown (S := (fun k_ => P0_ k_)) hg (pk HK.out) (fun k_ e_ => (HO_0.out.1 k_ e_))); replace HO_0 := am (hp_); clear hg hw hp_; have p7 : 0 ≤ (x5_1 : Int) := ofb; have q7 : (x5_1 : Int) < ((x0_1.length : Int) : Int) := ofb; obtain ⟨ce7, hcl7, hM7, hcc7, hfr7⟩ := Kd.R_elem HO_0.out z85 (x5_1 : Int) p7 q7; obtain rfl := k85_openM hM7; have hx7_0 : w17.cell? ⟨go5, (x5_1 : Int).toNat * 8, none⟩ = some (.int .i64 ((rd_T85 y195 x5_1).f0)) := hcc7 0 _ rfl; have hx7_1 : w17.cell? ⟨go5, (x5_1 : Int).toNat * 8 + 1, none⟩ = some (.int .i64 ((rd_T85 y195 x5_1).f1)) := hcc7 1 _ rfl; have hx7_2 : w17.cell? ⟨go5, (x5_1 : Int).toNat * 8 + 2, none⟩ = some (.int .i64 ((rd_T85 y195 x5_1).f2)) := hcc7 2 _ rfl; have hx7_3 : w17.cell? ⟨go5, (x5_1 : Int).toNat * 8 + 3, none⟩ = some (.int .i64 ((rd_T85 y195 x5_1).f3)) := hcc7 3 _ rfl; have hx7_4 : w17.cell? ⟨go5, (x5_1 : Int).toNat * 8 + 4, none⟩ = some (.int .i64 ((rd_T85 y195 x5_1).f4.f0)) := hcc7 4 _ rfl; have hx7_5 : w17.cell? ⟨go5, (x5_1 : Int).toNat * 8 + 5, none⟩ = some (.int .i64 ((rd_T85 y195 x5_1).f4.f1)) := hcc7 5 _ rfl; have hx7_6 : w17.cell? ⟨go5, (x5_1 : Int).toNat * 8 + 6, none⟩ = some (.int .i64 ((rd_T85 y195 x5_1).f4.f2)) := hcc7 6 _ rfl; have hx7_7 : w17.cell? ⟨go5, (x5_1 : Int).toNat * 8 + 7, none⟩ = some (.int .i64 ((rd_T85 y195 x5_1).f4.f3)) := hcc7 7 _ rfl; have hf7_0 : w17.frozen? ⟨go5, (x5_1 : Int).toNat * 8, none⟩ = false := hfr7 0; have hf7_1 : w17.frozen? ⟨go5, (x5_1 : Int).toNat * 8 + 1, none⟩ = false := hfr7 1; have hf7_2 : w17.frozen? ⟨go5, (x5_1 : Int).toNat * 8 + 2, none⟩ = false := hfr7 2; have hf7_3 : w17.frozen? ⟨go5, (x5_1 : Int).toNat * 8 + 3, none⟩ = false := hfr7 3; have hf7_4 : w17.frozen? ⟨go5, (x5_1 : Int).toNat * 8 + 4, none⟩ = false := hfr7 4; have hf7_5 : w17.frozen? ⟨go5, (x5_1 : Int).toNat * 8 + 5, none⟩ = false := hfr7 5; have hf7_6 : w17.frozen? ⟨go5, (x5_1 : Int).toNat * 8 + 6, none⟩ = false := hfr7 6; have hf7_7 : w17.frozen? ⟨go5, (x5_1 : Int).toNat * 8 + 7, none⟩ = false := hfr7 7; clear hcl7 hcc7 hfr7 hM7; replace p7 := eq_true p7; replace q7 := eq_true q7; have HX18 := am (show Kd.R k85 85 w17 w0.heap.size (fun k_ => (P0_ k_ ∨ w.heap.size ≤ k_)) (.slice (some ⟨go5, 0, none⟩) x0_1.length co13) y195 from (pr HO_0.out)); obtain ⟨ce18, hcl18, hM18, hcc18, hfr18⟩ := Kd.R_elem HX18.out z85 (x5_1 : Int) (ofb) (by have h_ : (x5_1 : Int) < ((x0_1.length : Int) : Int) := ofb; first | exact h_ | (have e_ := (Kd.R_reads' HO_0.out).1; omega) | simpa using h_); obtain rfl := k85_openM hM18; have HP18 := Kd.R_seg HX18.out (x5_1 : Int) (ofb) (by have h_ : (x5_1 : Int) < ((x0_1.length : Int) : Int) := ofb; first | exact h_ | (have e_ := (Kd.R_reads' HO_0.out).1; omega) | simpa using h_) (seg := [.int .i64 (wrap64 ((wrap64 (x1_1 + 1)) + 1))]) (j := 2) hcl18 hcc18 (show 3 ≤ 8 from by decide) (x' := (⟨(rd_T85 y195 x5_1).f0, (rd_T85 y195 x5_1).f1, wrap64 ((wrap64 (x1_1 + 1)) + 1), (rd_T85 y195 x5_1).f3, (⟨(rd_T85 y195 x5_1).f4.f0, (rd_T85 y195 x5_1).f4.f1, (rd_T85 y195 x5_1).f4.f2, (rd_T85 y195 x5_1).f4.f3⟩ : S30)⟩ : S85)) (k85_mkM _ _ _ (⟨(rd_T85 y195 x5_1).f0, (rd_T85 y195 x5_1).f1, wrap64 ((wrap64 (x1_1 + 1)) + 1), (rd_T85 y195 x5_1).f3, (⟨(rd_T85 y195 x5_1).f4.f0, (rd_T85 y195 x5_1).f4.f1, (rd_T85 y195 x5_1).f4.f2, (rd_T85 y195 x5_1).f4.f3⟩ : S30)⟩ : S85) ) (fun _ hk => hk); have hx18_2 := hcc18 2 _ rfl; (try simp only [show (k85).sz = 8 from rfl, Nat.mul_one, Nat.add_zero] at hx18_2); have hf18_2 := hfr18 2; (try simp only [show (k85).sz = 8 from rfl, Nat.mul_one, Nat.add_zero] at hf18_2); clear hcl18 hcc18 hfr18 hM18) | ((with_reducible refine gate_store (t := 3) (p := 30) rfl ?_); refine store_event (t := 3) (p := 30) (v := ?vo_w19) (w1 := (w17.setCell ⟨go5, (x5_1 : Int).toNat * 8 + 2, none⟩ (.int .i64 (wrap64 ((wrap64 (x1_1 + 1)) + 1))))) ?hg ?ho ?hn ?hr ?_; (case ho => rfl); (case hg => rfl); (case hn => rfl); (case hr => first | (go_simp; done) | (go_simp; rfl)); intro w19 hw; have hg : w17.grownBy w19 (some go5) := (by rw [hw]; exact HP18.2); have hp_ : Kd.R k85 85 w19 w0.heap.size (fun k_ => (P0_ k_ ∨ w.heap.size ≤ k_)) (.slice (some ⟨go5, 0, none⟩) x0_1.length co13) y196 := (by rw [hw, Ny196.out]; exact HP18.1); clear HP18; replace HB := am ((by rw [hw]; exact below_set (HB.out) GB5.out : Below w0.heap.size w0 w19)); replace HK := am (Kept.of_grown (S := (fun k_ => P0_ k_)) hg (pk HK.out) (fun k_ e_ => (HO_0.out.1 k_ e_))); replace HO_0 := am (hp_); clear hg hw hp_; have p8 : 0 ≤ (x5_1 : Int) := ofb; have q8 : (x5_1 : Int) < ((x0_1.length : Int) : Int) := ofb; obtain ⟨ce8, hcl8, hM8, hcc8, hfr8⟩ := Kd.R_elem HO_0.out z85 (x5_1 : Int) p8 q8; obtain rfl := k85_openM hM8; have hx8_0 : w19.cell? ⟨go5, (x5_1 : Int).toNat * 8, none⟩ = some (.int .i64 ((rd_T85 y196 x5_1).f0)) := hcc8 0 _ rfl; have hx8_1 : w19.cell? ⟨go5, (x5_1 : Int).toNat * 8 + 1, none⟩ = some (.int .i64 ((rd_T85 y196 x5_1).f1)) := hcc8 1 _ rfl; have hx8_2 : w19.cell? ⟨go5, (x5_1 : Int).toNat * 8 + 2, none⟩ = some (.int .i64 ((rd_T85 y196 x5_1).f2)) := hcc8 2 _ rfl; have hx8_3 : w19.cell? ⟨go5, (x5_1 : Int).toNat * 8 + 3, none⟩ = some (.int .i64 ((rd_T85 y196 x5_1).f3)) := hcc8 3 _ rfl; have hx8_4 : w19.cell? ⟨go5, (x5_1 : Int).toNat * 8 + 4, none⟩ = some (.int .i64 ((rd_T85 y196 x5_1).f4.f0)) := hcc8 4 _ rfl; have hx8_5 : w19.cell? ⟨go5, (x5_1 : Int).toNat * 8 + 5, none⟩ = some (.int .i64 ((rd_T85 y196 x5_1).f4.f1)) := hcc8 5 _ rfl; have hx8_6 : w19.cell? ⟨go5, (x5_1 : Int).toNat * 8 + 6, none⟩ = some (.int .i64 ((rd_T85 y196 x5_1).f4.f2)) := hcc8 6 _ rfl; have hx8_7 : w19.cell? ⟨go5, (x5_1 : Int).toNat * 8 + 7, none⟩ = some (.int .i64 ((rd_T85 y196 x5_1).f4.f3)) := hcc8 7 _ rfl; have hf8_0 : w19.frozen? ⟨go5, (x5_1 : Int).toNat * 8, none⟩ = false := hfr8 0; have hf8_1 : w19.frozen? ⟨go5, (x5_1 : Int).toNat * 8 + 1, none⟩ = false := hfr8 1; have hf8_2 : w19.frozen? ⟨go5, (x5_1 : Int).toNat * 8 + 2, none⟩ = false := hfr8 2; have hf8_3 : w19.frozen? ⟨go5, (x5_1 : Int).toNat * 8 + 3, none⟩ = false := hfr8 3; have hf8_4 : w19.frozen? ⟨go5, (x5_1 : Int).toNat * 8 + 4, none⟩ = false := hfr8 4; have hf8_5 : w19.frozen? ⟨go5, (x5_1 : Int).toNat * 8 + 5, none⟩ = false := hfr8 5; have hf8_6 : w19.frozen? ⟨go5, (x5_1 : Int).toNat * 8 + 6, none⟩ = false := hfr8 6; have hf8_7 : w19.frozen? ⟨go5, (x5_1 : Int).toNat * 8 + 7, none⟩ = false := hfr8 7; clear hcl8 hcc8 hfr8 hM8; replace p8 := eq_true p8; replace q8 := eq_true q8; have HX20 := am (show Kd.R k85 85 w19 w0.heap.size (fun k_ => (P0_ k_ ∨ w.heap.size ≤ k_)) (.slice (some ⟨go5, 0, none⟩) x0_1.length co13) y196 from (pr HO_0.out)); obtain ⟨ce20, hcl20, hM20, hcc20, hfr20⟩ := Kd.R_elem HX20.out z85 (x5_1 : Int) (ofb) (by have h_ : (x5_1 : Int) < ((x0_1.length : Int) : Int) := ofb; first | exact h_ | (have e_ := (Kd.R_reads' HO_0.out).1; omega) | simpa using h_); obtain rfl := k85_openM hM20; have HP20 := Kd.R_seg HX20.out (x5_1 : Int) (ofb) (by have h_ : (x5_1 : Int) < ((x0_1.length : Int) : Int) := ofb; first | exact h_ | (have e_ := (Kd.R_reads' HO_0.out).1; omega) | simpa using h_) (seg := [.int .i64 (wrap64 ((wrap64 ((wrap64 (x1_1 + 1)) + 1)) + 1))]) (j := 3) hcl20 hcc20 (show 4 ≤ 8 from by decide) (x' := (⟨(rd_T85 y196 x5_1).f0, (rd_T85 y196 x5_1).f1, (rd_T85 y196 x5_1).f2, wrap64 ((wrap64 ((wrap64 (x1_1 + 1)) + 1)) + 1), (⟨(rd_T85 y196 x5_1).f4.f0, (rd_T85 y196 x5_1).f4.f1, (rd_T85 y196 x5_1).f4.f2, (rd_T85 y196 x5_1).f4.f3⟩ : S30)⟩ : S85)) (k85_mkM _ _ _ (⟨(rd_T85 y196 x5_1).f0, (rd_T85 y196 x5_1).f1, (rd_T85 y196 x5_1).f2, wrap64 ((wrap64 ((wrap64 (x1_1 + 1)) + 1)) + 1), (⟨(rd_T85 y196 x5_1).f4.f0, (rd_T85 y196 x5_1).f4.f1, (rd_T85 y196 x5_1).f4.f2, (rd_T85 y196 x5_1).f4.f3⟩ : S30)⟩ : S85) ) (fun _ hk => hk); have hx20_3 := hcc20 3 _ rfl; (try simp only [show (k85).sz = 8 from rfl, Nat.mul_one, Nat.add_zero] at hx20_3); have hf20_3 := hfr20 3; (try simp only [show (k85).sz = 8 from rfl, Nat.mul_one, Nat.add_zero] at hf20_3); clear hcl20 hcc20 hfr20 hM20) | ((with_reducible refine gate_store (t := 3) (p := 37) rfl ?_); refine store_event (t := 3) (p := 37) (v := ?vo_w21) (w1 := (w19.setCell ⟨go5, (x5_1 : Int).toNat * 8 + 3, none⟩ (.int .i64 (wrap64 ((wrap64 ((wrap64 (x1_1 + 1)) + 1)) + 1))))) ?hg ?ho ?hn ?hr ?_; (case ho => rfl); (case hg => rfl); (case hn => rfl); (case hr => first | (go_simp; done) | (go_simp; rfl)); intro w21 hw; have hg : w19.grownBy w21 (some go5) := (by rw [hw]; exact HP20.2); have hp_ : Kd.R k85 85 w21 w0.heap.size (fun k_ => (P0_ k_ ∨ w.heap.size ≤ k_)) (.slice (some ⟨go5, 0, none⟩) x0_1.length co13) y197 := (by rw [hw, Ny197.out]; exact HP20.1); clear HP20; replace HB := am ((by rw [hw]; exact below_set (HB.out) GB5.out : Below w0.heap.size w0 w21)); replace HK := am (Kept.of_grown (S := (fun k_ => P0_ k_)) hg (pk HK.out) (fun k_ e_ => (HO_0.out.1 k_ e_))); replace HO_0 := am (hp_); clear hg hw hp_; have p9 : 0 ≤ (x5_1 : Int) := ofb; have q9 : (x5_1 : Int) < ((x0_1.length : Int) : Int) := ofb; obtain ⟨ce9, hcl9, hM9, hcc9, hfr9⟩ := Kd.R_elem HO_0.out z85 (x5_1 : Int) p9 q9; obtain rfl := k85_openM hM9; have hx9_0 : w21.cell? ⟨go5, (x5_1 : Int).toNat * 8, none⟩ = some (.int .i64 ((rd_T85 y197 x5_1).f0)) := hcc9 0 _ rfl; have hx9_1 : w21.cell? ⟨go5, (x5_1 : Int).toNat * 8 + 1, none⟩ = some (.int .i64 ((rd_T85 y197 x5_1).f1)) := hcc9 1 _ rfl; have hx9_2 : w21.cell? ⟨go5, (x5_1 : Int).toNat * 8 + 2, none⟩ = some (.int .i64 ((rd_T85 y197 x5_1).f2)) := hcc9 2 _ rfl; have hx9_3 : w21.cell? ⟨go5, (x5_1 : Int).toNat * 8 + 3, none⟩ = some (.int .i64 ((rd_T85 y197 x5_1).f3)) := hcc9 3 _ rfl; have hx9_4 : w21.cell? ⟨go5, (x5_1 : Int).toNat * 8 + 4, none⟩ = some (.int .i64 ((rd_T85 y197 x5_1).f4.f0)) := hcc9 4 _ rfl; have hx9_5 : w21.cell? ⟨go5, (x5_1 : Int).toNat * 8 + 5, none⟩ = some (.int .i64 ((rd_T85 y197 x5_1).f4.f1)) := hcc9 5 _ rfl; have hx9_6 : w21.cell? ⟨go5, (x5_1 : Int).toNat * 8 + 6, none⟩ = some (.int .i64 ((rd_T85 y197 x5_1).f4.f2)) := hcc9 6 _ rfl; have hx9_7 : w21.cell? ⟨go5, (x5_1 : Int).toNat * 8 + 7, none⟩ = some (.int .i64 ((rd_T85 y197 x5_1).f4.f3)) := hcc9 7 _ rfl; have hf9_0 : w21.frozen? ⟨go5, (x5_1 : Int).toNat * 8, none⟩ = false := hfr9 0; have hf9_1 : w21.frozen? ⟨go5, (x5_1 : Int).toNat * 8 + 1, none⟩ = false := hfr9 1; have hf9_2 : w21.frozen? ⟨go5, (x5_1 : Int).toNat * 8 + 2, none⟩ = false := hfr9 2; have hf9_3 : w21.frozen? ⟨go5, (x5_1 : Int).toNat * 8 + 3, none⟩ = false := hfr9 3; have hf9_4 : w21.frozen? ⟨go5, (x5_1 : Int).toNat * 8 + 4, none⟩ = false := hfr9 4; have hf9_5 : w21.frozen? ⟨go5, (x5_1 : Int).toNat * 8 + 5, none⟩ = false := hfr9 5; have hf9_6 : w21.frozen? ⟨go5, (x5_1 : Int).toNat * 8 + 6, none⟩ = false := hfr9 6; have hf9_7 : w21.frozen? ⟨go5, (x5_1 : Int).toNat * 8 + 7, none⟩ = false := hfr9 7; clear hcl9 hcc9 hfr9 hM9; replace p9 := eq_true p9; replace q9 := eq_true q9; have HX22 := am (show Kd.R k85 85 w21 w0.heap.size (fun k_ => (P0_ k_ ∨ w.heap.size ≤ k_)) (.slice (some ⟨go5, 0, none⟩) x0_1.length co13) y197 from (pr HO_0.out)); obtain ⟨ce22, hcl22, hM22, hcc22, hfr22⟩ := Kd.R_elem HX22.out z85 (x5_1 : Int) (ofb) (by have h_ : (x5_1 : Int) < ((x0_1.length : Int) : Int) := ofb; first | exact h_ | (have e_ := (Kd.R_reads' HO_0.out).1; omega) | simpa using h_); obtain rfl := k85_openM hM22; have HP22 := Kd.R_seg HX22.out (x5_1 : Int) (ofb) (by have h_ : (x5_1 : Int) < ((x0_1.length : Int) : Int) := ofb; first | exact h_ | (have e_ := (Kd.R_reads' HO_0.out).1; omega) | simpa using h_) (seg := [.int .i64 (wrap64 ((wrap64 ((wrap64 ((wrap64 (x1_1 + 1)) + 1)) + 1)) + 1))]) (j := 4) hcl22 hcc22 (show 5 ≤ 8 from by decide) (x' := (⟨(rd_T85 y197 x5_1).f0, (rd_T85 y197 x5_1).f1, (rd_T85 y197 x5_1).f2, (rd_T85 y197 x5_1).f3, (⟨wrap64 ((wrap64 ((wrap64 ((wrap64 (x1_1 + 1)) + 1)) + 1)) + 1), (rd_T85 y197 x5_1).f4.f1, (rd_T85 y197 x5_1).f4.f2, (rd_T85 y197 x5_1).f4.f3⟩ : S30)⟩ : S85)) (k85_mkM _ _ _ (⟨(rd_T85 y197 x5_1).f0, (rd_T85 y197 x5_1).f1, (rd_T85 y197 x5_1).f2, (rd_T85 y197 x5_1).f3, (⟨wrap64 ((wrap64 ((wrap64 ((wrap64 (x1_1 + 1)) + 1)) + 1)) + 1), (rd_T85 y197 x5_1).f4.f1, (rd_T85 y197 x5_1).f4.f2, (rd_T85 y197 x5_1).f4.f3⟩ : S30)⟩ : S85) ) (fun _ hk => hk); have hx22_4 := hcc22 4 _ rfl; (try simp only [show (k85).sz = 8 from rfl, Nat.mul_one, Nat.add_zero] at hx22_4); have hf22_4 := hfr22 4; (try simp only [show (k85).sz = 8 from rfl, Nat.mul_one, Nat.add_zero] at hf22_4); clear hcl22 hcc22 hfr22 hM22) | ((with_reducible refine gate_store (t := 3) (p := 45) rfl ?_); refine store_event (t := 3) (p := 45) (v := ?vo_w23) (w1 := (w21.setCell ⟨go5, (x5_1 : Int).toNat * 8 + 4, none⟩ (.int .i64 (wrap64 ((wrap64 ((wrap64 ((wrap64 (x1_1 + 1)) + 1)) + 1)) + 1))))) ?hg ?ho ?hn ?hr ?_; (case ho => rfl); (case hg => rfl); (case hn => rfl); (case hr => first | (go_simp; done) | (go_simp; rfl)); intro w23 hw; have hg : w21.grownBy w23 (some go5) := (by rw [hw]; exact HP22.2); have hp_ : Kd.R k85 85 w23 w0.heap.size (fun k_ => (P0_ k_ ∨ w.heap.size ≤ k_)) (.slice (some ⟨go5, 0, none⟩) x0_1.length co13) y198 := (by rw [hw, Ny198.out]; exact HP22.1); clear HP22; replace HB := am ((by rw [hw]; exact below_set (HB.out) GB5.out : Below w0.heap.size w0 w23)); replace HK := am (Kept.of_grown (S := (fun k_ => P0_ k_)) hg (pk HK.out) (fun k_ e_ => (HO_0.out.1 k_ e_))); replace HO_0 := am (hp_); clear hg hw hp_; have p10 : 0 ≤ (x5_1 : Int) := ofb; have q10 : (x5_1 : Int) < ((x0_1.length : Int) : Int) := ofb; obtain ⟨ce10, hcl10, hM10, hcc10, hfr10⟩ := Kd.R_elem HO_0.out z85 (x5_1 : Int) p10 q10; obtain rfl := k85_openM hM10; have hx10_0 : w23.cell? ⟨go5, (x5_1 : Int).toNat * 8, none⟩ = some (.int .i64 ((rd_T85 y198 x5_1).f0)) := hcc10 0 _ rfl; have hx10_1 : w23.cell? ⟨go5, (x5_1 : Int).toNat * 8 + 1, none⟩ = some (.int .i64 ((rd_T85 y198 x5_1).f1)) := hcc10 1 _ rfl; have hx10_2 : w23.cell? ⟨go5, (x5_1 : Int).toNat * 8 + 2, none⟩ = some (.int .i64 ((rd_T85 y198 x5_1).f2)) := hcc10 2 _ rfl; have hx10_3 : w23.cell? ⟨go5, (x5_1 : Int).toNat * 8 + 3, none⟩ = some (.int .i64 ((rd_T85 y198 x5_1).f3)) := hcc10 3 _ rfl; have hx10_4 : w23.cell? ⟨go5, (x5_1 : Int).toNat * 8 + 4, none⟩ = some (.int .i64 ((rd_T85 y198 x5_1).f4.f0)) := hcc10 4 _ rfl; have hx10_5 : w23.cell? ⟨go5, (x5_1 : Int).toNat * 8 + 5, none⟩ = some (.int .i64 ((rd_T85 y198 x5_1).f4.f1)) := hcc10 5 _ rfl; have hx10_6 : w23.cell? ⟨go5, (x5_1 : Int).toNat * 8 + 6, none⟩ = some (.int .i64 ((rd_T85 y198 x5_1).f4.f2)) := hcc10 6 _ rfl; have hx10_7 : w23.cell? ⟨go5, (x5_1 : Int).toNat * 8 + 7, none⟩ = some (.int .i64 ((rd_T85 y198 x5_1).f4.f3)) := hcc10 7 _ rfl; have hf10_0 : w23.frozen? ⟨go5, (x5_1 : Int).toNat * 8, none⟩ = false := hfr10 0; have hf10_1 : w23.frozen? ⟨go5, (x5_1 : Int).toNat * 8 + 1, none⟩ = false := hfr10 1; have hf10_2 : w23.frozen? ⟨go5, (x5_1 : Int).toNat * 8 + 2, none⟩ = false := hfr10 2; have hf10_3 : w23.frozen? ⟨go5, (x5_1 : Int).toNat * 8 + 3, none⟩ = false := hfr10 3; have hf10_4 : w23.frozen? ⟨go5, (x5_1 : Int).toNat * 8 + 4, none⟩ = false := hfr10 4; have hf10_5 : w23.frozen? ⟨go5, (x5_1 : Int).toNat * 8 + 5, none⟩ = false := hfr10 5; have hf10_6 : w23.frozen? ⟨go5, (x5_1 : Int).toNat * 8 + 6, none⟩ = false := hfr10 6; have hf10_7 : w23.frozen? ⟨go5, (x5_1 : Int).toNat * 8 + 7, none⟩ = false := hfr10 7; clear hcl10 hcc10 hfr10 hM10; replace p10 := eq_true p10; replace q10 := eq_true q10; have HX24 := am (show Kd.R k85 85 w23 w0.heap.size (fun k_ => (P0_ k_ ∨ w.heap.size ≤ k_)) (.slice (some ⟨go5, 0, none⟩) x0_1.length co13) y198 from (pr HO_0.out)); obtain ⟨ce24, hcl24, hM24, hcc24, hfr24⟩ := Kd.R_elem HX24.out z85 (x5_1 : Int) (ofb) (by have h_ : (x5_1 : Int) < ((x0_1.length : Int) : Int) := ofb; first | exact h_ | (have e_ := (Kd.R_reads' HO_0.out).1; omega) | simpa using h_); obtain rfl := k85_openM hM24; have HP24 := Kd.R_seg HX24.out (x5_1 : Int) (ofb) (by have h_ : (x5_1 : Int) < ((x0_1.length : Int) : Int) := ofb; first | exact h_ | (have e_ := (Kd.R_reads' HO_0.out).1; omega) | simpa using h_) (seg := [.int .i64 (wrap64 ((wrap64 ((wrap64 ((wrap64 ((wrap64 (x1_1 + 1)) + 1)) + 1)) + 1)) + 1))]) (j := 5) hcl24 hcc24 (show 6 ≤ 8 from by decide) (x' := (⟨(rd_T85 y198 x5_1).f0, (rd_T85 y198 x5_1).f1, (rd_T85 y198 x5_1).f2, (rd_T85 y198 x5_1).f3, (⟨(rd_T85 y198 x5_1).f4.f0, wrap64 ((wrap64 ((wrap64 ((wrap64 ((wrap64 (x1_1 + 1)) + 1)) + 1)) + 1)) + 1), (rd_T85 y198 x5_1).f4.f2, (rd_T85 y198 x5_1).f4.f3⟩ : S30)⟩ : S85)) (k85_mkM _ _ _ (⟨(rd_T85 y198 x5_1).f0, (rd_T85 y198 x5_1).f1, (rd_T85 y198 x5_1).f2, (rd_T85 y198 x5_1).f3, (⟨(rd_T85 y198 x5_1).f4.f0, wrap64 ((wrap64 ((wrap64 ((wrap64 ((wrap64 (x1_1 + 1)) + 1)) + 1)) + 1)) + 1), (rd_T85 y198 x5_1).f4.f2, (rd_T85 y198 x5_1).f4.f3⟩ : S30)⟩ : S85) ) (fun _ hk => hk); have hx24_5 := hcc24 5 _ rfl; (try simp only [show (k85).sz = 8 from rfl, Nat.mul_one, Nat.add_zero] at hx24_5); have hf24_5 := hfr24 5; (try simp only [show (k85).sz = 8 from rfl, Nat.mul_one, Nat.add_zero] at hf24_5); clear hcl24 hcc24 hfr24 hM24) | ((with_reducible refine gate_store (t := 3) (p := 53) rfl ?_); refine store_event (t := 3) (p := 53) (v := ?vo_w25) (w1 := (w23.setCell ⟨go5, (x5_1 : Int).toNat * 8 + 5, none⟩ (.int .i64 (wrap64 ((wrap64 ((wrap64 ((wrap64 ((wrap64 (x1_1 + 1)) + 1)) + 1)) + 1)) + 1))))) ?hg ?ho ?hn ?hr ?_; (case ho => rfl); (case hg => rfl); (case hn => rfl); (case hr => first | (go_simp; done) | (go_simp; rfl)); intro w25 hw; have hg : w23.grownBy w25 (some go5) := (by rw [hw]; exact HP24.2); have hp_ : Kd.R k85 85 w25 w0.heap.size (fun k_ => (P0_ k_ ∨ w.heap.size ≤ k_)) (.slice (some ⟨go5, 0, none⟩) x0_1.length co13) y199 := (by rw [hw, Ny199.out]; exact HP24.1); clear HP24; replace HB := am ((by rw [hw]; exact below_set (HB.out) GB5.out : Below w0.heap.size w0 w25)); replace HK := am (Kept.of_grown (S := (fun k_ => P0_ k_)) hg (pk HK.out) (fun k_ e_ => (HO_0.out.1 k_ e_))); replace HO_0 := am (hp_); clear hg hw hp_; have p11 : 0 ≤ (x5_1 : Int) := ofb; have q11 : (x5_1 : Int) < ((x0_1.length : Int) : Int) := ofb; obtain ⟨ce11, hcl11, hM11, hcc11, hfr11⟩ := Kd.R_elem HO_0.out z85 (x5_1 : Int) p11 q11; obtain rfl := k85_openM hM11; have hx11_0 : w25.cell? ⟨go5, (x5_1 : Int).toNat * 8, none⟩ = some (.int .i64 ((rd_T85 y199 x5_1).f0)) := hcc11 0 _ rfl; have hx11_1 : w25.cell? ⟨go5, (x5_1 : Int).toNat * 8 + 1, none⟩ = some (.int .i64 ((rd_T85 y199 x5_1).f1)) := hcc11 1 _ rfl; have hx11_2 : w25.cell? ⟨go5, (x5_1 : Int).toNat * 8 + 2, none⟩ = some (.int .i64 ((rd_T85 y199 x5_1).f2)) := hcc11 2 _ rfl; have hx11_3 : w25.cell? ⟨go5, (x5_1 : Int).toNat * 8 + 3, none⟩ = some (.int .i64 ((rd_T85 y199 x5_1).f3)) := hcc11 3 _ rfl; have hx11_4 : w25.cell? ⟨go5, (x5_1 : Int).toNat * 8 + 4, none⟩ = some (.int .i64 ((rd_T85 y199 x5_1).f4.f0)) := hcc11 4 _ rfl; have hx11_5 : w25.cell? ⟨go5, (x5_1 : Int).toNat * 8 + 5, none⟩ = some (.int .i64 ((rd_T85 y199 x5_1).f4.f1)) := hcc11 5 _ rfl; have hx11_6 : w25.cell? ⟨go5, (x5_1 : Int).toNat * 8 + 6, none⟩ = some (.int .i64 ((rd_T85 y199 x5_1).f4.f2)) := hcc11 6 _ rfl; have hx11_7 : w25.cell? ⟨go5, (x5_1 : Int).toNat * 8 + 7, none⟩ = some (.int .i64 ((rd_T85 y199 x5_1).f4.f3)) := hcc11 7 _ rfl; have hf11_0 : w25.frozen? ⟨go5, (x5_1 : Int).toNat * 8, none⟩ = false := hfr11 0; have hf11_1 : w25.frozen? ⟨go5, (x5_1 : Int).toNat * 8 + 1, none⟩ = false := hfr11 1; have hf11_2 : w25.frozen? ⟨go5, (x5_1 : Int).toNat * 8 + 2, none⟩ = false := hfr11 2; have hf11_3 : w25.frozen? ⟨go5, (x5_1 : Int).toNat * 8 + 3, none⟩ = false := hfr11 3; have hf11_4 : w25.frozen? ⟨go5, (x5_1 : Int).toNat * 8 + 4, none⟩ = false := hfr11 4; have hf11_5 : w25.frozen? ⟨go5, (x5_1 : Int).toNat * 8 + 5, none⟩ = false := hfr11 5; have hf11_6 : w25.frozen? ⟨go5, (x5_1 : Int).toNat * 8 + 6, none⟩ = false := hfr11 6; have hf11_7 : w25.frozen? ⟨go5, (x5_1 : Int).toNat * 8 + 7, none⟩ = false := hfr11 7; clear hcl11 hcc11 hfr11 hM11; replace p11 := eq_true p11; replace q11 := eq_true q11; have HX26 := am (show Kd.R k85 85 w25 w0.heap.size (fun k_ => (P0_ k_ ∨ w.heap.size ≤ k_)) (.slice (some ⟨go5, 0, none⟩) x0_1.length co13) y199 from (pr HO_0.out)); obtain ⟨ce26, hcl26, hM26, hcc26, hfr26⟩ := Kd.R_elem HX26.out z85 (x5_1 : Int) (ofb) (by have h_ : (x5_1 : Int) < ((x0_1.length : Int) : Int) := ofb; first | exact h_ | (have e_ := (Kd.R_reads' HO_0.out).1; omega) | simpa using h_); obtain rfl := k85_openM hM26; have HP26 := Kd.R_seg HX26.out (x5_1 : Int) (ofb) (by have h_ : (x5_1 : Int) < ((x0_1.length : Int) : Int) := ofb; first | exact h_ | (have e_ := (Kd.R_reads' HO_0.out).1; omega) | simpa using h_) (seg := [.int .i64 (wrap64 ((wrap64 ((wrap64 ((wrap64 ((wrap64 ((wrap64 (x1_1 + 1)) + 1)) + 1)) + 1)) + 1)) + 1))]) (j := 6) hcl26 hcc26 (show 7 ≤ 8 from by decide) (x' := (⟨(rd_T85 y199 x5_1).f0, (rd_T85 y199 x5_1).f1, (rd_T85 y199 x5_1).f2, (rd_T85 y199 x5_1).f3, (⟨(rd_T85 y199 x5_1).f4.f0, (rd_T85 y199 x5_1).f4.f1, wrap64 ((wrap64 ((wrap64 ((wrap64 ((wrap64 ((wrap64 (x1_1 + 1)) + 1)) + 1)) + 1)) + 1)) + 1), (rd_T85 y199 x5_1).f4.f3⟩ : S30)⟩ : S85)) (k85_mkM _ _ _ (⟨(rd_T85 y199 x5_1).f0, (rd_T85 y199 x5_1).f1, (rd_T85 y199 x5_1).f2, (rd_T85 y199 x5_1).f3, (⟨(rd_T85 y199 x5_1).f4.f0, (rd_T85 y199 x5_1).f4.f1, wrap64 ((wrap64 ((wrap64 ((wrap64 ((wrap64 ((wrap64 (x1_1 + 1)) + 1)) + 1)) + 1)) + 1)) + 1), (rd_T85 y199 x5_1).f4.f3⟩ : S30)⟩ : S85) ) (fun _ hk => hk); have hx26_6 := hcc26 6 _ rfl; (try simp only [show (k85).sz = 8 from rfl, Nat.mul_one, Nat.add_zero] at hx26_6); have hf26_6 := hfr26 6; (try simp only [show (k85).sz = 8 from rfl, Nat.mul_one, Nat.add_zero] at hf26_6); clear hcl26 hcc26 hfr26 hM26) | ((with_reducible refine gate_store (t := 3) (p := 61) rfl ?_); refine store_event (t := 3) (p := 61) (v := ?vo_w27) (w1 := (w25.setCell ⟨go5, (x5_1 : Int).toNat * 8 + 6, none⟩ (.int .i64 (wrap64 ((wrap64 ((wrap64 ((wrap64 ((wrap64 ((wrap64 (x1_1 + 1)) + 1)) + 1)) + 1)) + 1)) + 1))))) ?hg ?ho ?hn ?hr ?_; (case ho => rfl); (case hg => rfl); (case hn => rfl); (case hr => first | (go_simp; done) | (go_simp; rfl)); intro w27 hw; have hg : w25.grownBy w27 (some go5) := (by rw [hw]; exact HP26.2); have hp_ : Kd.R k85 85 w27 w0.heap.size (fun k_ => (P0_ k_ ∨ w.heap.size ≤ k_)) (.slice (some ⟨go5, 0, none⟩) x0_1.length co13) y200 := (by rw [hw, Ny200.out]; exact HP26.1); clear HP26; replace HB := am ((by rw [hw]; exact below_set (HB.out) GB5.out : Below w0.heap.size w0 w27)); replace HK := am (Kept.of_grown (S := (fun k_ => P0_ k_)) hg (pk HK.out) (fun k_ e_ => (HO_0.out.1 k_ e_))); replace HO_0 := am (hp_); clear hg hw hp_; have p12 : 0 ≤ (x5_1 : Int) := ofb; have q12 : (x5_1 : Int) < ((x0_1.length : Int) : Int) := ofb; obtain ⟨ce12, hcl12, hM12, hcc12, hfr12⟩ := Kd.R_elem HO_0.out z85 (x5_1 : Int) p12 q12; obtain rfl := k85_openM hM12; have hx12_0 : w27.cell? ⟨go5, (x5_1 : Int).toNat * 8, none⟩ = some (.int .i64 ((rd_T85 y200 x5_1).f0)) := hcc12 0 _ rfl; have hx12_1 : w27.cell? ⟨go5, (x5_1 : Int).toNat * 8 + 1, none⟩ = some (.int .i64 ((rd_T85 y200 x5_1).f1)) := hcc12 1 _ rfl; have hx12_2 : w27.cell? ⟨go5, (x5_1 : Int).toNat * 8 + 2, none⟩ = some (.int .i64 ((rd_T85 y200 x5_1).f2)) := hcc12 2 _ rfl; have hx12_3 : w27.cell? ⟨go5, (x5_1 : Int).toNat * 8 + 3, none⟩ = some (.int .i64 ((rd_T85 y200 x5_1).f3)) := hcc12 3 _ rfl; have hx12_4 : w27.cell? ⟨go5, (x5_1 : Int).toNat * 8 + 4, none⟩ = some (.int .i64 ((rd_T85 y200 x5_1).f4.f0)) := hcc12 4 _ rfl; have hx12_5 : w27.cell? ⟨go5, (x5_1 : Int).toNat * 8 + 5, none⟩ = some (.int .i64 ((rd_T85 y200 x5_1).f4.f1)) := hcc12 5 _ rfl; have hx12_6 : w27.cell? ⟨go5, (x5_1 : Int).toNat * 8 + 6, none⟩ = some (.int .i64 ((rd_T85 y200 x5_1).f4.f2)) := hcc12 6 _ rfl; have hx12_7 : w27.cell? ⟨go5, (x5_1 : Int).toNat * 8 + 7, none⟩ = some (.int .i64 ((rd_T85 y200 x5_1).f4.f3)) := hcc12 7 _ rfl; have hf12_0 : w27.frozen? ⟨go5, (x5_1 : Int).toNat * 8, none⟩ = false := hfr12 0; have hf12_1 : w27.frozen? ⟨go5, (x5_1 : Int).toNat * 8 + 1, none⟩ = false := hfr12 1; have hf12_2 : w27.frozen? ⟨go5, (x5_1 : Int).toNat * 8 + 2, none⟩ = false := hfr12 2; have hf12_3 : w27.frozen? ⟨go5, (x5_1 : Int).toNat * 8 + 3, none⟩ = false := hfr12 3; have hf12_4 : w27.frozen? ⟨go5, (x5_1 : Int).toNat * 8 + 4, none⟩ = false := hfr12 4; have hf12_5 : w27.frozen? ⟨go5, (x5_1 : Int).toNat * 8 + 5, none⟩ = false := hfr12 5; have hf12_6 : w27.frozen? ⟨go5, (x5_1 : Int).toNat * 8 + 6, none⟩ = false := hfr12 6; have hf12_7 : w27.frozen? ⟨go5, (x5_1 : Int).toNat * 8 + 7, none⟩ = false := hfr12 7; clear hcl12 hcc12 hfr12 hM12; replace p12 := eq_true p12; replace q12 := eq_true q12; have HX28 := am (show Kd.R k85 85 w27 w0.heap.size (fun k_ => (P0_ k_ ∨ w.heap.size ≤ k_)) (.slice (some ⟨go5, 0, none⟩) x0_1.length co13) y200 from (pr HO_0.out)); obtain ⟨ce28, hcl28, hM28, hcc28, hfr28⟩ := Kd.R_elem HX28.out z85 (x5_1 : Int) (ofb) (by have h_ : (x5_1 : Int) < ((x0_1.length : Int) : Int) := ofb; first | exact h_ | (have e_ := (Kd.R_reads' HO_0.out).1; omega) | simpa using h_); obtain rfl := k85_openM hM28; have HP28 := Kd.R_seg HX28.out (x5_1 : Int) (ofb) (by have h_ : (x5_1 : Int) < ((x0_1.length : Int) : Int) := ofb; first | exact h_ | (have e_ := (Kd.R_reads' HO_0.out).1; omega) | simpa using h_) (seg := [.int .i64 (wrap64 ((wrap64 ((wrap64 ((wrap64 ((wrap64 ((wrap64 ((wrap64 (x1_1 + 1)) + 1)) + 1)) + 1)) + 1)) + 1)) + 1))]) (j := 7) hcl28 hcc28 (show 8 ≤ 8 from by decide) (x' := (⟨(rd_T85 y200 x5_1).f0, (rd_T85 y200 x5_1).f1, (rd_T85 y200 x5_1).f2, (rd_T85 y200 x5_1).f3, (⟨(rd_T85 y200 x5_1).f4.f0, (rd_T85 y200 x5_1).f4.f1, (rd_T85 y200 x5_1).f4.f2, wrap64 ((wrap64 ((wrap64 ((wrap64 ((wrap64 ((wrap64 ((wrap64 (x1_1 + 1)) + 1)) + 1)) + 1)) + 1)) + 1)) + 1)⟩ : S30)⟩ : S85)) (k85_mkM _ _ _ (⟨(rd_T85 y200 x5_1).f0, (rd_T85 y200 x5_1).f1, (rd_T85 y200 x5_1).f2, (rd_T85 y200 x5_1).f3, (⟨(rd_T85 y200 x5_1).f4.f0, (rd_T85 y200 x5_1).f4.f1, (rd_T85 y200 x5_1).f4.f2, wrap64 ((wrap64 ((wrap64 ((wrap64 ((wrap64 ((wrap64 ((wrap64 (x1_1 + 1)) + 1)) + 1)) + 1)) + 1)) + 1)) + 1)⟩ : S30)⟩ : S85) ) (fun _ hk => hk); have hx28_7 := hcc28 7 _ rfl; (try simp only [show (k85).sz = 8 from rfl, Nat.mul_one, Nat.add_zero] at hx28_7); have hf28_7 := hfr28 7; (try simp only [show (k85).sz = 8 from rfl, Nat.mul_one, Nat.add_zero] at hf28_7); clear hcl28 hcc28 hfr28 hM28) | ((with_reducible refine gate_store (t := 3) (p := 69) rfl ?_); refine store_event (t := 3) (p := 69) (v := ?vo_w29) (w1 := (w27.setCell ⟨go5, (x5_1 : Int).toNat * 8 + 7, none⟩ (.int .i64 (wrap64 ((wrap64 ((wrap64 ((wrap64 ((wrap64 ((wrap64 ((wrap64 (x1_1 + 1)) + 1)) + 1)) + 1)) + 1)) + 1)) + 1))))) ?hg ?ho ?hn ?hr ?_; (case ho => rfl); (case hg => rfl); (case hn => rfl); (case hr => first | (go_simp; done) | (go_simp; rfl)); intro w29 hw; have hg : w27.grownBy w29 (some go5) := (by rw [hw]; exact HP28.2); have hp_ : Kd.R k85 85 w29 w0.heap.size (fun k_ => (P0_ k_ ∨ w.heap.size ≤ k_)) (.slice (some ⟨go5, 0, none⟩) x0_1.length co13) y201 := (by rw [hw, Ny201.out]; exact HP28.1); clear HP28; replace HB := am ((by rw [hw]; exact below_set (HB.out) GB5.out : Below w0.heap.size w0 w29)); replace HK := am (Kept.of_grown (S := (fun k_ => P0_ k_)) hg (pk HK.out) (fun k_ e_ => (HO_0.out.1 k_ e_))); replace HO_0 := am (hp_); clear hg hw hp_))
   go_roundg k1
   case measure => have := HK1.out; omega
   case rel => exact ⟨(y201), (wrap64 ((wrap64 ((wrap64 ((wrap64 ((wrap64 ((wrap64 ((wrap64 ((wrap64 (x1_1 + 1)) + 1)) + 1)) + 1)) + 1)) + 1)) + 1)) + 1)), (wrap64 (x5_1 + 1)), rf, rf, H', ⟨by have := HK1.out; omega⟩, ⟨pr HO_0.out⟩, ⟨pk HK.out⟩, ⟨ph HB.out⟩⟩
end Go.Proofs.Ytoedphbikgoapaa.Re
