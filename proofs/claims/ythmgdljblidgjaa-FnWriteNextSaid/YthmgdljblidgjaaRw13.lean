-- printed by wip/pp/pp.py
import Derived.Test.YthmgdljblidgjaaRw0
import Derived.Test.YthmgdljblidgjaaRw12
namespace Go.Proofs.Ythmgdljblidgjaa.Rw
open Go.RowKit Go.Proofs.YthmgdljblidgjaaW.PrintWords Go.Proofs.YthmgdljblidgjaaW.PrintLast Go.Proofs.YthmgdljblidgjaaW.PrintMore
attribute [local go_sem] max2_int min2_int max_two min_two max_three min_three max_four min_four
set_option linter.unusedVariables false
set_option linter.unusedSimpArgs false
mutual
def laws_lqOthers.l0 : Nat → List (S36) → List (S36) → Int → Int → Option (Bool)
 | 0, _, _, _, _ => none
 | k + 1, x0, x1, x2, x7 => if x7 < (x0.length : Int) then (laws_lqOthers.j1 k x0 x1 x2 x7 (decide (x7 < (x1.length : Int)))) else (laws_lqOthers.j1 k x0 x1 x2 x7 false)
def laws_lqOthers.j1 : Nat → List (S36) → List (S36) → Int → Int → Bool → Option (Bool)
 | 0, _, _, _, _, _ => none
 | k + 1, x0, x1, x2, x7, x17 => if x17 = true then (if x7 = x2 then (laws_lqOthers.l0 k x0 x1 x2 (wrap64 (x7 + 1))) else (if 0 ≤ x7 then (if x7 < (x0.length : Int) then (if x7 < (x1.length : Int) then (if ((rd_T36 x0 x7).f1) = ((rd_T36 x1 x7).f1) then ((laws_lqPages.f k ((rd_T36 x0 x7).f0) ((rd_T36 x1 x7).f0)).bind fun t451 => (if t451 = true then (laws_lqOthers.l0 k x0 x1 x2 (wrap64 (x7 + 1))) else (some false))) else (some false)) else (none)) else (none)) else (none))) else (some ((x0.length : Int) == (x1.length : Int)))
end
def laws_lqOthers.f (k : Nat) (l0 : List (S36)) (l1 : List (S36)) (a2 : Int) : Option (Bool) := laws_lqOthers.l0 k l0 l1 a2 0
theorem laws_lqOthers.mono_l : ∀ k, (∀ y0 y1 y2 y3, LeO (laws_lqOthers.l0 k y0 y1 y2 y3) (laws_lqOthers.l0 (k + 1) y0 y1 y2 y3)) ∧ (∀ y0 y1 y2 y3 y4, LeO (laws_lqOthers.j1 k y0 y1 y2 y3 y4) (laws_lqOthers.j1 (k + 1) y0 y1 y2 y3 y4))
 | 0 => ⟨fun _ _ _ _ r h => by simp [laws_lqOthers.l0] at h, fun _ _ _ _ _ r h => by simp [laws_lqOthers.j1] at h⟩
 | k + 1 => by
  obtain ⟨ih0, ih1⟩ := laws_lqOthers.mono_l k
  refine ⟨?_, ?_⟩
  · intro y0 y1 y2 y3
    unfold laws_lqOthers.l0
    with_reducible repeat' first | exact ih0 _ _ _ _ | exact ih1 _ _ _ _ _ | exact laws_lqPages.mono _ _ _ | exact LeO.refl _ | exact LeO.none _ | refine LeO.ite ?_ ?_ | refine LeO.bind ?_ (fun _ => ?_)
  · intro y0 y1 y2 y3 y4
    unfold laws_lqOthers.j1
    with_reducible repeat' first | exact ih0 _ _ _ _ | exact ih1 _ _ _ _ _ | exact laws_lqPages.mono _ _ _ | exact LeO.refl _ | exact LeO.none _ | refine LeO.ite ?_ ?_ | refine LeO.bind ?_ (fun _ => ?_)
theorem laws_lqOthers.mono : ∀ a0 a1 a2 k, LeO (laws_lqOthers.f k a0 a1 a2) (laws_lqOthers.f (k + 1) a0 a1 a2) := by
 intro a0 a1 a2 k
 obtain ⟨ih0, ih1⟩ := laws_lqOthers.mono_l k
 unfold laws_lqOthers.f
 with_reducible repeat' first | exact ih0 _ _ _ _ | exact ih1 _ _ _ _ _ | exact laws_lqPages.mono _ _ _ | exact LeO.refl _ | exact LeO.none _ | refine LeO.ite ?_ ?_ | refine LeO.bind ?_ (fun _ => ?_)
def laws_lqOthers.T4 : Bool × List (List Nat × List Nat) := (true, [([], []), ([], []), ([0, 1], [0, 1]), ([2], [2]), ([3], [3]), ([3], [3]), ([4, 5, 3], [3, 4, 5]), ([6, 3], [3, 6]), ([7, 3], [3, 7]), ([3], [3]), ([3], [3]), ([9, 10, 3], [3, 9, 10]), ([11, 3], [3, 11]), ([12, 3], [3, 12]), ([8, 13, 3], [3, 8, 13]), ([14, 3, 3], [3, 14]), ([15], [15]), ([15], [15]), ([16, 17, 15], [15, 16, 17]), ([18, 15], [15, 18]), ([19, 15], [15, 19]), ([15], [15]), ([15], [15]), ([21, 22, 15], [15, 21, 22]), ([23, 15], [15, 23]), ([24, 15], [15, 24]), ([20, 25, 15, 15], [15, 20, 25]), ([26, 15], [15, 26]), ([15, 27, 3], [3, 15, 27]), ([3, 28], [3, 28])])
def laws_lqOthers.B4 : List Nat := [0, 0, 3, 7, 15, 15, 63, 127, 255, 15, 15, 1551, 3599, 7695, 16383, 32767, 65535, 65535, 262143, 524287, 1048575, 65535, 65535, 6356991, 14745599, 31522815, 67108863, 134217727, 268435455, 536870911]
theorem laws_lqOthers.tab4 : rtab .any (opsOf Try.f9 4) = laws_lqOthers.T4 := by kernel_rfl
theorem laws_lqOthers.bits4 : waitsOk laws_lqOthers.T4.2 laws_lqOthers.B4 = true := by kernel_rfl
set_option maxHeartbeats 8000000 in
set_option maxRecDepth 100000 in
theorem laws_lqOthers.calls (k : Nat) (A0 : Option Addr) (c0 : Nat) (l0 : List (S36)) (A1 : Option Addr) (c1 : Nat) (l1 : List (S36)) (a2 : Int) (r : Bool) (w : World) (hr0 : Kd.C k36 w A0 l0.length l0) (hc0 : l0.length ≤ c0) (hr1 : Kd.C k36 w A1 l1.length l1) (hc1 : l1.length ≤ c1) (h : laws_lqOthers.f k l0 l1 a2 = some r) :
 Calls Try.prog 9 #[.slice A0 l0.length c0, .slice A1 l1.length c1, .int .i64 a2] w fun e w' => e = .returned (.bool r) ∧ Below w.heap.size w w' := by
 have HR0 := am hr0
 have HC0 := am hc0
 clear hr0 hc0
 have HR1 := am hr1
 have HC1 := am hc1
 clear hr1 hc1
 have HB := am (Below.refl w.heap.size w)
 have H : (laws_lqOthers.l0 k l0 l1 a2 0) = some r := h
 clear h
 have H' := am H
 clear H
 go_enter Try.func9, Try.ntmps9
 go_wp2
 go_loopg [7] k (fun kq v7 w' => ∃ (x7_1 : Int), v7 = .int .i64 x7_1 ∧ Aside0 (laws_lqOthers.l0 kq l0 l1 a2 x7_1 = some r) ∧ Aside0 (kq ≤ k) ∧ Aside0 (Below w.heap.size w w'))
 case atStart => exact ⟨(0), rf, H', ⟨Nat.le_refl _⟩, ⟨ph HB.out⟩⟩
 case round =>
  clear H'
  obtain ⟨x7_1, rfl, HA, HK1, HB⟩ := hrel
  cases gk with
  | zero => exact absurd HA.out (by simp [laws_lqOthers.l0])
  | succ k1 =>
   have H := HA.out
   clear HA
   simp only [laws_lqOthers.l0] at H
   have HC4 := am H
   clear H
   go_upto_region 2 with (fail)
   go_cut [17] (fun v17 wc => ∃ (kq : Nat) (x17_3 : Bool), v17 = .bool x17_3 ∧ Aside0 (laws_lqOthers.j1 kq l0 l1 a2 x7_1 x17_3 = some r) ∧ Aside0 (kq ≤ k1) ∧ Aside0 (Below w.heap.size w wc))
   case first =>
    have H := HC4.out
    clear HC4
    by_cases c5 : x7_1 < (l0.length : Int)
    rotate_left
    · rw [if_neg c5] at H
      have c5b0 := decide_eq_false c5
      clear c5
      (first | rw [c5b0] | (simp only [i64_w, i32_w]; rw [c5b0]) | skip)
      have H' := am H
      clear H
      go_wp2
      go_meet
      case rel => exact ⟨_, (false), rf, H', ⟨by have := HK1.out; first | omega | exact Nat.le_refl _⟩, ⟨ph HB.out⟩⟩
    rw [if_pos c5] at H
    have c5b0 := decide_eq_true c5
    clear c5
    (first | rw [c5b0] | (simp only [i64_w, i32_w]; rw [c5b0]) | skip)
    have H' := am H
    clear H
    go_wp2
    go_meet
    case rel => exact ⟨_, (decide (x7_1 < (l1.length : Int))), rf, H', ⟨by have := HK1.out; first | omega | exact Nat.le_refl _⟩, ⟨ph HB.out⟩⟩
   case rest =>
    clear HC4
    obtain ⟨kq, x17_3, rfl, HA, HJ3, HB⟩ := hcut
    cases kq with
    | zero => exact absurd HA.out (by simp [laws_lqOthers.j1])
    | succ kj3 =>
     have H := HA.out
     clear HA
     simp only [laws_lqOthers.j1] at H
     by_cases c6 : x17_3 = true
     rotate_left
     · replace c6 := Bool.eq_false_iff.mpr c6
       subst c6
       rw [if_neg (show ¬ (false = true) by decide)] at H
       obtain rfl := Option.some.inj H
       go_wp2
       go_ret
       exact (rq (ph HB.out))
     subst c6
     rw [if_pos rfl] at H
     by_cases c7 : x7_1 = a2
     · rw [if_pos c7] at H
       have c7b0 : (x7_1 == a2) = true := beq_iff_eq.mpr c7
       have c7b1 : (x7_1 != a2) = false := bne_eq_false_iff_eq.mpr c7
       clear c7
       have H' := am H
       clear H
       try go_wp2
       replace HB := am (below_drew1 HB.out)
       refine start_ (n := 30) (S := fun w' => True) (ds := []) (bt 30 0) (by kernel_rfl) rfl rfl trivial (fun hHeld => ?_); refine with_tabW laws_lqOthers.tab4 laws_lqOthers.bits4 (fun HT_ HW_ => ?_)
       generalize wc.drew = w8 at HB hHeld ⊢
       refine qj 0 20 (bt 30 1) rfl rfl HT_.out ?_
       refine qj 1 21 (bt 30 3) rfl rfl HT_.out ?_
       refine qj 2 22 (bt 30 7) rfl rfl HT_.out ?_
       refine qj 3 23 (bt 30 15) rfl rfl HT_.out ?_
       refine qv 4 24 (bt 30 31) rfl rfl HT_.out ?_
       refine qv 5 25 (bt 30 63) rfl rfl HT_.out ?_
       refine qv 6 26 (bt 30 127) rfl rfl HT_.out ?_
       refine qv 7 27 (bt 30 255) rfl rfl HT_.out ?_
       refine qv 8 28 (bt 30 511) rfl rfl HT_.out ?_
       refine qv 9 29 (bt 30 1023) rfl rfl HT_.out ?_
       refine qv 10 30 (bt 30 2047) rfl rfl HT_.out ?_
       refine qv 11 31 (bt 30 4095) rfl rfl HT_.out ?_
       refine qv 12 32 (bt 30 8191) rfl rfl HT_.out ?_
       refine qv 13 33 (bt 30 16383) rfl rfl HT_.out ?_
       refine qv 14 34 (bt 30 32767) rfl rfl HT_.out ?_
       refine qv 15 35 (bt 30 65535) rfl rfl HT_.out ?_
       refine qv 16 36 (bt 30 131071) rfl rfl HT_.out ?_
       refine qv 17 37 (bt 30 262143) rfl rfl HT_.out ?_
       refine qv 18 38 (bt 30 524287) rfl rfl HT_.out ?_
       refine qv 19 39 (bt 30 1048575) rfl rfl HT_.out ?_
       refine qv 20 40 (bt 30 2097151) rfl rfl HT_.out ?_
       refine qv 21 41 (bt 30 4194303) rfl rfl HT_.out ?_
       refine qv 22 42 (bt 30 8388607) rfl rfl HT_.out ?_
       refine qv 23 43 (bt 30 16777215) rfl rfl HT_.out ?_
       refine qv 24 44 (bt 30 33554431) rfl rfl HT_.out ?_
       refine qv 25 45 (bt 30 67108863) rfl rfl HT_.out ?_
       refine qv 26 46 (bt 30 134217727) rfl rfl HT_.out ?_
       refine qv 27 47 (bt 30 268435455) rfl rfl HT_.out ?_
       refine qv 28 48 (bt 30 536870911) rfl rfl HT_.out ?_
       refine qj 29 49 (bt 30 1073741823) rfl rfl HT_.out ?_
       refine done_ (done_of HT_.out (by kernel_rfl)) ?_
       try go_wp2
       go_roundg kj3
       case measure => have := HK1.out; have := HJ3.out; omega
       case rel => exact ⟨(wrap64 (x7_1 + 1)), rf, H', ⟨by have := HK1.out; have := HJ3.out; omega⟩, ⟨ph HB.out⟩⟩
     rw [if_neg c7] at H
     have c7b0 : (x7_1 == a2) = false := beq_eq_false_iff_ne.mpr c7
     have c7b1 : (x7_1 != a2) = true := bne_iff_ne.mpr c7
     obtain ⟨c9b0, H⟩ := ifd H
     obtain ⟨c10b0, H⟩ := ifd H
     obtain ⟨c11b0, H⟩ := ifd H
     by_cases c12 : ((rd_T36 l0 x7_1).f1) = ((rd_T36 l1 x7_1).f1)
     rotate_left
     · rw [if_neg c12] at H
       have c12b0 : (((rd_T36 l0 x7_1).f1) == ((rd_T36 l1 x7_1).f1)) = false := beq_eq_false_iff_ne.mpr c12
       have c12b1 : (((rd_T36 l0 x7_1).f1) != ((rd_T36 l1 x7_1).f1)) = true := bne_iff_ne.mpr c12
       obtain rfl := Option.some.inj H
       try go_wp2
       replace HB := am (below_drew1 HB.out)
       have p447 : 0 ≤ (x7_1 : Int) := ofb
       have q447 : x7_1 < (l0.length : Int) := ofb
       obtain ⟨ad447, A447_0, c447_0, e447, hx447_0, hx447_1, hl447_0, hi447_0⟩ := at_T36 HR0.out x7_1 p447 q447
       have hw447_1 := hx447_1
       have hw447_0 := hx447_0
       cases e447
       replace hx447_0 := up HB.out hx447_0
       replace hx447_1 := up HB.out hx447_1
       have HR447_0 := am hi447_0
       have HC447_0 := am hl447_0
       clear hi447_0 hl447_0
       replace p447 := eq_true p447
       replace q447 := eq_true q447
       have p448 : 0 ≤ (x7_1 : Int) := ofb
       have q448 : x7_1 < (l1.length : Int) := ofb
       obtain ⟨ad448, A448_0, c448_0, e448, hx448_0, hx448_1, hl448_0, hi448_0⟩ := at_T36 HR1.out x7_1 p448 q448
       have hw448_1 := hx448_1
       have hw448_0 := hx448_0
       cases e448
       replace hx448_0 := up HB.out hx448_0
       replace hx448_1 := up HB.out hx448_1
       have HR448_0 := am hi448_0
       have HC448_0 := am hl448_0
       clear hi448_0 hl448_0
       replace p448 := eq_true p448
       replace q448 := eq_true q448
       refine start_ (n := 30) (S := fun w' => w'.cell? (ad447.add ((x7_1).toNat * 2)) = some (.slice A447_0 ((rd_T36 l0 x7_1).f0).length c447_0) ∧ w'.cell? ⟨(ad447.add ((x7_1).toNat * 2)).block, (ad447.add ((x7_1).toNat * 2)).off + 1, none⟩ = some (.int .i64 ((rd_T36 l0 x7_1).f1)) ∧ w'.cell? (ad448.add ((x7_1).toNat * 2)) = some (.slice A448_0 ((rd_T36 l1 x7_1).f0).length c448_0) ∧ w'.cell? ⟨(ad448.add ((x7_1).toNat * 2)).block, (ad448.add ((x7_1).toNat * 2)).off + 1, none⟩ = some (.int .i64 ((rd_T36 l1 x7_1).f1))) (ds := []) (bt 30 0) (by kernel_rfl) rfl rfl ⟨((HB.out.cell (World.block_lt_of_cell? w _ hw447_0)).trans hw447_0), ((HB.out.cell (World.block_lt_of_cell? w _ hw447_1)).trans hw447_1), ((HB.out.cell (World.block_lt_of_cell? w _ hw448_0)).trans hw448_0), ((HB.out.cell (World.block_lt_of_cell? w _ hw448_1)).trans hw448_1)⟩ (fun hHeld => ?_); refine with_tabW laws_lqOthers.tab4 laws_lqOthers.bits4 (fun HT_ HW_ => ?_)
       generalize wc.drew = w17 at HB HR447_0 HR448_0 hx447_0 hx447_1 hx448_0 hx448_1 hHeld ⊢
       refine qj 0 20 (bt 30 1) rfl rfl HT_.out ?_
       refine qj 1 21 (bt 30 3) rfl rfl HT_.out ?_
       refine qj 2 22 (bt 30 7) rfl rfl HT_.out ?_
       refine qj 3 23 (bt 30 15) rfl rfl HT_.out ?_
       refine qj 4 24 (bt 30 31) rfl rfl HT_.out ?_
       refine qj 5 25 (bt 30 63) rfl rfl HT_.out ?_
       refine qj 6 26 (bt 30 127) rfl rfl HT_.out ?_
       refine qj 7 27 (bt 30 255) rfl rfl HT_.out ?_
       refine qj 9 29 (bt 30 767) rfl rfl HT_.out ?_
       refine qj 10 30 (bt 30 1791) rfl rfl HT_.out ?_
       refine qj 11 31 (bt 30 3839) rfl rfl HT_.out ?_
       refine qj 12 32 (bt 30 7935) rfl rfl HT_.out ?_
       refine qm 8 28 (bt 30 8191) rfl rfl HT_.out HW_.out hHeld ?_
       refine qm 13 33 (bt 30 16383) rfl rfl HT_.out HW_.out hHeld ?_
       refine qj 14 34 (bt 30 32767) rfl rfl HT_.out ?_
       refine qj 15 35 (bt 30 65535) rfl rfl HT_.out ?_
       refine qv 16 36 (bt 30 131071) rfl rfl HT_.out ?_
       refine qv 17 37 (bt 30 262143) rfl rfl HT_.out ?_
       refine qv 18 38 (bt 30 524287) rfl rfl HT_.out ?_
       refine qv 19 39 (bt 30 1048575) rfl rfl HT_.out ?_
       refine qv 20 40 (bt 30 2097151) rfl rfl HT_.out ?_
       refine qv 21 41 (bt 30 4194303) rfl rfl HT_.out ?_
       refine qv 22 42 (bt 30 8388607) rfl rfl HT_.out ?_
       refine qv 23 43 (bt 30 16777215) rfl rfl HT_.out ?_
       refine qv 24 44 (bt 30 33554431) rfl rfl HT_.out ?_
       refine qv 25 45 (bt 30 67108863) rfl rfl HT_.out ?_
       refine qv 26 46 (bt 30 134217727) rfl rfl HT_.out ?_
       refine qv 27 47 (bt 30 268435455) rfl rfl HT_.out ?_
       refine qj 28 48 (bt 30 536870911) rfl rfl HT_.out ?_
       refine qj 29 49 (bt 30 1073741823) rfl rfl HT_.out ?_
       refine done_ (done_of HT_.out (by kernel_rfl)) ?_
       try go_wp2
       go_ret
       exact (rq (ph HB.out))
     rw [if_pos c12] at H
     have c12b0 : (((rd_T36 l0 x7_1).f1) == ((rd_T36 l1 x7_1).f1)) = true := beq_iff_eq.mpr c12
     have c12b1 : (((rd_T36 l0 x7_1).f1) != ((rd_T36 l1 x7_1).f1)) = false := bne_eq_false_iff_eq.mpr c12
     clear c12
     replace H := Option.bind_eq_some_iff.mp H
     obtain ⟨t451, A130, H⟩ := H
     have A13 := am A130
     clear A130
     by_cases c14 : t451 = true
     rotate_left
     · replace c14 := Bool.eq_false_iff.mpr c14
       subst c14
       rw [if_neg (show ¬ (false = true) by decide)] at H
       obtain rfl := Option.some.inj H
       try go_wp2
       replace HB := am (below_drew1 HB.out)
       have p447 : 0 ≤ (x7_1 : Int) := ofb
       have q447 : x7_1 < (l0.length : Int) := ofb
       obtain ⟨ad447, A447_0, c447_0, e447, hx447_0, hx447_1, hl447_0, hi447_0⟩ := at_T36 HR0.out x7_1 p447 q447
       have hw447_1 := hx447_1
       have hw447_0 := hx447_0
       cases e447
       replace hx447_0 := up HB.out hx447_0
       replace hx447_1 := up HB.out hx447_1
       have HR447_0 := am hi447_0
       have HC447_0 := am hl447_0
       clear hi447_0 hl447_0
       replace p447 := eq_true p447
       replace q447 := eq_true q447
       have p448 : 0 ≤ (x7_1 : Int) := ofb
       have q448 : x7_1 < (l1.length : Int) := ofb
       obtain ⟨ad448, A448_0, c448_0, e448, hx448_0, hx448_1, hl448_0, hi448_0⟩ := at_T36 HR1.out x7_1 p448 q448
       have hw448_1 := hx448_1
       have hw448_0 := hx448_0
       cases e448
       replace hx448_0 := up HB.out hx448_0
       replace hx448_1 := up HB.out hx448_1
       have HR448_0 := am hi448_0
       have HC448_0 := am hl448_0
       clear hi448_0 hl448_0
       replace p448 := eq_true p448
       replace q448 := eq_true q448
       have p449 : 0 ≤ (x7_1 : Int) := ofb
       have q449 : x7_1 < (l0.length : Int) := ofb
       obtain ⟨ad449, A449_0, c449_0, e449, hx449_0, hx449_1, hl449_0, hi449_0⟩ := at_T36 HR0.out x7_1 p449 q449
       have hw449_1 := hx449_1
       have hw449_0 := hx449_0
       obtain rfl : ad447 = ad449 := (by injection e449)
       replace hx449_0 := up HB.out hx449_0
       replace hx449_1 := up HB.out hx449_1
       have HR449_0 := am hi449_0
       have HC449_0 := am hl449_0
       clear hi449_0 hl449_0
       replace p449 := eq_true p449
       replace q449 := eq_true q449
       have ea_ := Option.some.inj (hx447_0.symm.trans hx449_0)
       injection ea_ with ea_ en_ ec_
       subst ea_
       subst ec_
       clear en_
       have p450 : 0 ≤ (x7_1 : Int) := ofb
       have q450 : x7_1 < (l1.length : Int) := ofb
       obtain ⟨ad450, A450_0, c450_0, e450, hx450_0, hx450_1, hl450_0, hi450_0⟩ := at_T36 HR1.out x7_1 p450 q450
       have hw450_1 := hx450_1
       have hw450_0 := hx450_0
       obtain rfl : ad448 = ad450 := (by injection e450)
       replace hx450_0 := up HB.out hx450_0
       replace hx450_1 := up HB.out hx450_1
       have HR450_0 := am hi450_0
       have HC450_0 := am hl450_0
       clear hi450_0 hl450_0
       replace p450 := eq_true p450
       replace q450 := eq_true q450
       have ea_ := Option.some.inj (hx448_0.symm.trans hx450_0)
       injection ea_ with ea_ en_ ec_
       subst ea_
       subst ec_
       clear en_
       refine start_ (n := 30) (S := fun w' => w'.cell? (ad447.add ((x7_1).toNat * 2)) = some (.slice A447_0 ((rd_T36 l0 x7_1).f0).length c447_0) ∧ w'.cell? ⟨(ad447.add ((x7_1).toNat * 2)).block, (ad447.add ((x7_1).toNat * 2)).off + 1, none⟩ = some (.int .i64 ((rd_T36 l0 x7_1).f1)) ∧ w'.cell? (ad448.add ((x7_1).toNat * 2)) = some (.slice A448_0 ((rd_T36 l1 x7_1).f0).length c448_0) ∧ w'.cell? ⟨(ad448.add ((x7_1).toNat * 2)).block, (ad448.add ((x7_1).toNat * 2)).off + 1, none⟩ = some (.int .i64 ((rd_T36 l1 x7_1).f1)) ∧ w'.cell? (ad447.add ((x7_1).toNat * 2)) = some (.slice A447_0 ((rd_T36 l0 x7_1).f0).length c447_0) ∧ w'.cell? ⟨(ad447.add ((x7_1).toNat * 2)).block, (ad447.add ((x7_1).toNat * 2)).off + 1, none⟩ = some (.int .i64 ((rd_T36 l0 x7_1).f1)) ∧ w'.cell? (ad448.add ((x7_1).toNat * 2)) = some (.slice A448_0 ((rd_T36 l1 x7_1).f0).length c448_0) ∧ w'.cell? ⟨(ad448.add ((x7_1).toNat * 2)).block, (ad448.add ((x7_1).toNat * 2)).off + 1, none⟩ = some (.int .i64 ((rd_T36 l1 x7_1).f1))) (ds := []) (bt 30 0) (by kernel_rfl) rfl rfl ⟨((HB.out.cell (World.block_lt_of_cell? w _ hw447_0)).trans hw447_0), ((HB.out.cell (World.block_lt_of_cell? w _ hw447_1)).trans hw447_1), ((HB.out.cell (World.block_lt_of_cell? w _ hw448_0)).trans hw448_0), ((HB.out.cell (World.block_lt_of_cell? w _ hw448_1)).trans hw448_1), ((HB.out.cell (World.block_lt_of_cell? w _ hw449_0)).trans hw449_0), ((HB.out.cell (World.block_lt_of_cell? w _ hw449_1)).trans hw449_1), ((HB.out.cell (World.block_lt_of_cell? w _ hw450_0)).trans hw450_0), ((HB.out.cell (World.block_lt_of_cell? w _ hw450_1)).trans hw450_1)⟩ (fun hHeld => ?_); refine with_tabW laws_lqOthers.tab4 laws_lqOthers.bits4 (fun HT_ HW_ => ?_)
       generalize wc.drew = w16 at HB HR447_0 HR448_0 HR449_0 HR450_0 hx447_0 hx447_1 hx448_0 hx448_1 hx449_0 hx449_1 hx450_0 hx450_1 hHeld ⊢
       refine qj 0 20 (bt 30 1) rfl rfl HT_.out ?_
       refine qj 1 21 (bt 30 3) rfl rfl HT_.out ?_
       refine qj 2 22 (bt 30 7) rfl rfl HT_.out ?_
       refine qj 3 23 (bt 30 15) rfl rfl HT_.out ?_
       refine qj 4 24 (bt 30 31) rfl rfl HT_.out ?_
       refine qj 5 25 (bt 30 63) rfl rfl HT_.out ?_
       refine qj 6 26 (bt 30 127) rfl rfl HT_.out ?_
       refine qj 7 27 (bt 30 255) rfl rfl HT_.out ?_
       refine qj 9 29 (bt 30 767) rfl rfl HT_.out ?_
       refine qj 10 30 (bt 30 1791) rfl rfl HT_.out ?_
       refine qj 11 31 (bt 30 3839) rfl rfl HT_.out ?_
       refine qj 12 32 (bt 30 7935) rfl rfl HT_.out ?_
       refine qm 8 28 (bt 30 8191) rfl rfl HT_.out HW_.out hHeld ?_
       refine qm 13 33 (bt 30 16383) rfl rfl HT_.out HW_.out hHeld ?_
       refine qj 14 34 (bt 30 32767) rfl rfl HT_.out ?_
       refine qj 15 35 (bt 30 65535) rfl rfl HT_.out ?_
       refine qj 16 36 (bt 30 131071) rfl rfl HT_.out ?_
       refine qj 17 37 (bt 30 262143) rfl rfl HT_.out ?_
       refine qj 18 38 (bt 30 524287) rfl rfl HT_.out ?_
       refine qj 19 39 (bt 30 1048575) rfl rfl HT_.out ?_
       refine qj 21 41 (bt 30 3145727) rfl rfl HT_.out ?_
       refine qj 22 42 (bt 30 7340031) rfl rfl HT_.out ?_
       refine qj 23 43 (bt 30 15728639) rfl rfl HT_.out ?_
       refine qj 24 44 (bt 30 32505855) rfl rfl HT_.out ?_
       refine qm 20 40 (bt 30 33554431) rfl rfl HT_.out HW_.out hHeld ?_
       refine qm 25 45 (bt 30 67108863) rfl rfl HT_.out HW_.out hHeld ?_
       refine qo 26 (some 46) (bt 30 134217727) rfl rfl HT_.out fun K hK => ?_
       refine qg Try.func10 #[.slice A447_0 ((rd_T36 l0 x7_1).f0).length c447_0, .slice A448_0 ((rd_T36 l1 x7_1).f0).length c448_0] rfl rfl ?_
       with_reducible refine (laws_lqPages.calls kj3 _ _ ((rd_T36 l0 x7_1).f0) _ _ ((rd_T36 l1 x7_1).f0) false _ ?side1 ?side2 ?side3 ?side4 A13.out).mono ?_
       (case side1 => exact pc (Kd.C_below HR449_0.out HB.out))
       (case side2 => exact HC449_0.out)
       (case side3 => exact pc (Kd.C_below HR450_0.out HB.out))
       (case side4 => exact HC450_0.out)
       rintro e w' ⟨rfl, ⟨nd, rfl⟩⟩
       refine ⟨_, rfl, ?_⟩
       refine hK.out _ _ ⟨((HB.out.cell (World.block_lt_of_cell? w _ hw447_0)).trans hw447_0), ((HB.out.cell (World.block_lt_of_cell? w _ hw447_1)).trans hw447_1), ((HB.out.cell (World.block_lt_of_cell? w _ hw448_0)).trans hw448_0), ((HB.out.cell (World.block_lt_of_cell? w _ hw448_1)).trans hw448_1), ((HB.out.cell (World.block_lt_of_cell? w _ hw449_0)).trans hw449_0), ((HB.out.cell (World.block_lt_of_cell? w _ hw449_1)).trans hw449_1), ((HB.out.cell (World.block_lt_of_cell? w _ hw450_0)).trans hw450_0), ((HB.out.cell (World.block_lt_of_cell? w _ hw450_1)).trans hw450_1)⟩ (fun hHeld => ?_)
       clear hK K
       refine qn (some 46) ?_
       refine qj 27 47 (bt 30 268435455) rfl rfl HT_.out ?_
       refine qj 28 48 (bt 30 536870911) rfl rfl HT_.out ?_
       refine qj 29 49 (bt 30 1073741823) rfl rfl HT_.out ?_
       refine done_ (done_of HT_.out (by kernel_rfl)) ?_
       try go_wp2
       go_ret
       exact (rq (ph HB.out))
     subst c14
     rw [if_pos rfl] at H
     have H' := am H
     clear H
     try go_wp2
     replace HB := am (below_drew1 HB.out)
     have p447 : 0 ≤ (x7_1 : Int) := ofb
     have q447 : x7_1 < (l0.length : Int) := ofb
     obtain ⟨ad447, A447_0, c447_0, e447, hx447_0, hx447_1, hl447_0, hi447_0⟩ := at_T36 HR0.out x7_1 p447 q447
     have hw447_1 := hx447_1
     have hw447_0 := hx447_0
     cases e447
     replace hx447_0 := up HB.out hx447_0
     replace hx447_1 := up HB.out hx447_1
     have HR447_0 := am hi447_0
     have HC447_0 := am hl447_0
     clear hi447_0 hl447_0
     replace p447 := eq_true p447
     replace q447 := eq_true q447
     have p448 : 0 ≤ (x7_1 : Int) := ofb
     have q448 : x7_1 < (l1.length : Int) := ofb
     obtain ⟨ad448, A448_0, c448_0, e448, hx448_0, hx448_1, hl448_0, hi448_0⟩ := at_T36 HR1.out x7_1 p448 q448
     have hw448_1 := hx448_1
     have hw448_0 := hx448_0
     cases e448
     replace hx448_0 := up HB.out hx448_0
     replace hx448_1 := up HB.out hx448_1
     have HR448_0 := am hi448_0
     have HC448_0 := am hl448_0
     clear hi448_0 hl448_0
     replace p448 := eq_true p448
     replace q448 := eq_true q448
     have p449 : 0 ≤ (x7_1 : Int) := ofb
     have q449 : x7_1 < (l0.length : Int) := ofb
     obtain ⟨ad449, A449_0, c449_0, e449, hx449_0, hx449_1, hl449_0, hi449_0⟩ := at_T36 HR0.out x7_1 p449 q449
     have hw449_1 := hx449_1
     have hw449_0 := hx449_0
     obtain rfl : ad447 = ad449 := (by injection e449)
     replace hx449_0 := up HB.out hx449_0
     replace hx449_1 := up HB.out hx449_1
     have HR449_0 := am hi449_0
     have HC449_0 := am hl449_0
     clear hi449_0 hl449_0
     replace p449 := eq_true p449
     replace q449 := eq_true q449
     have ea_ := Option.some.inj (hx447_0.symm.trans hx449_0)
     injection ea_ with ea_ en_ ec_
     subst ea_
     subst ec_
     clear en_
     have p450 : 0 ≤ (x7_1 : Int) := ofb
     have q450 : x7_1 < (l1.length : Int) := ofb
     obtain ⟨ad450, A450_0, c450_0, e450, hx450_0, hx450_1, hl450_0, hi450_0⟩ := at_T36 HR1.out x7_1 p450 q450
     have hw450_1 := hx450_1
     have hw450_0 := hx450_0
     obtain rfl : ad448 = ad450 := (by injection e450)
     replace hx450_0 := up HB.out hx450_0
     replace hx450_1 := up HB.out hx450_1
     have HR450_0 := am hi450_0
     have HC450_0 := am hl450_0
     clear hi450_0 hl450_0
     replace p450 := eq_true p450
     replace q450 := eq_true q450
     have ea_ := Option.some.inj (hx448_0.symm.trans hx450_0)
     injection ea_ with ea_ en_ ec_
     subst ea_
     subst ec_
     clear en_
     refine start_ (n := 30) (S := fun w' => w'.cell? (ad447.add ((x7_1).toNat * 2)) = some (.slice A447_0 ((rd_T36 l0 x7_1).f0).length c447_0) ∧ w'.cell? ⟨(ad447.add ((x7_1).toNat * 2)).block, (ad447.add ((x7_1).toNat * 2)).off + 1, none⟩ = some (.int .i64 ((rd_T36 l0 x7_1).f1)) ∧ w'.cell? (ad448.add ((x7_1).toNat * 2)) = some (.slice A448_0 ((rd_T36 l1 x7_1).f0).length c448_0) ∧ w'.cell? ⟨(ad448.add ((x7_1).toNat * 2)).block, (ad448.add ((x7_1).toNat * 2)).off + 1, none⟩ = some (.int .i64 ((rd_T36 l1 x7_1).f1)) ∧ w'.cell? (ad447.add ((x7_1).toNat * 2)) = some (.slice A447_0 ((rd_T36 l0 x7_1).f0).length c447_0) ∧ w'.cell? ⟨(ad447.add ((x7_1).toNat * 2)).block, (ad447.add ((x7_1).toNat * 2)).off + 1, none⟩ = some (.int .i64 ((rd_T36 l0 x7_1).f1)) ∧ w'.cell? (ad448.add ((x7_1).toNat * 2)) = some (.slice A448_0 ((rd_T36 l1 x7_1).f0).length c448_0) ∧ w'.cell? ⟨(ad448.add ((x7_1).toNat * 2)).block, (ad448.add ((x7_1).toNat * 2)).off + 1, none⟩ = some (.int .i64 ((rd_T36 l1 x7_1).f1))) (ds := []) (bt 30 0) (by kernel_rfl) rfl rfl ⟨((HB.out.cell (World.block_lt_of_cell? w _ hw447_0)).trans hw447_0), ((HB.out.cell (World.block_lt_of_cell? w _ hw447_1)).trans hw447_1), ((HB.out.cell (World.block_lt_of_cell? w _ hw448_0)).trans hw448_0), ((HB.out.cell (World.block_lt_of_cell? w _ hw448_1)).trans hw448_1), ((HB.out.cell (World.block_lt_of_cell? w _ hw449_0)).trans hw449_0), ((HB.out.cell (World.block_lt_of_cell? w _ hw449_1)).trans hw449_1), ((HB.out.cell (World.block_lt_of_cell? w _ hw450_0)).trans hw450_0), ((HB.out.cell (World.block_lt_of_cell? w _ hw450_1)).trans hw450_1)⟩ (fun hHeld => ?_); refine with_tabW laws_lqOthers.tab4 laws_lqOthers.bits4 (fun HT_ HW_ => ?_)
     generalize wc.drew = w15 at HB HR447_0 HR448_0 HR449_0 HR450_0 hx447_0 hx447_1 hx448_0 hx448_1 hx449_0 hx449_1 hx450_0 hx450_1 hHeld ⊢
     refine qj 0 20 (bt 30 1) rfl rfl HT_.out ?_
     refine qj 1 21 (bt 30 3) rfl rfl HT_.out ?_
     refine qj 2 22 (bt 30 7) rfl rfl HT_.out ?_
     refine qj 3 23 (bt 30 15) rfl rfl HT_.out ?_
     refine qj 4 24 (bt 30 31) rfl rfl HT_.out ?_
     refine qj 5 25 (bt 30 63) rfl rfl HT_.out ?_
     refine qj 6 26 (bt 30 127) rfl rfl HT_.out ?_
     refine qj 7 27 (bt 30 255) rfl rfl HT_.out ?_
     refine qj 9 29 (bt 30 767) rfl rfl HT_.out ?_
     refine qj 10 30 (bt 30 1791) rfl rfl HT_.out ?_
     refine qj 11 31 (bt 30 3839) rfl rfl HT_.out ?_
     refine qj 12 32 (bt 30 7935) rfl rfl HT_.out ?_
     refine qm 8 28 (bt 30 8191) rfl rfl HT_.out HW_.out hHeld ?_
     refine qm 13 33 (bt 30 16383) rfl rfl HT_.out HW_.out hHeld ?_
     refine qj 14 34 (bt 30 32767) rfl rfl HT_.out ?_
     refine qj 15 35 (bt 30 65535) rfl rfl HT_.out ?_
     refine qj 16 36 (bt 30 131071) rfl rfl HT_.out ?_
     refine qj 17 37 (bt 30 262143) rfl rfl HT_.out ?_
     refine qj 18 38 (bt 30 524287) rfl rfl HT_.out ?_
     refine qj 19 39 (bt 30 1048575) rfl rfl HT_.out ?_
     refine qj 21 41 (bt 30 3145727) rfl rfl HT_.out ?_
     refine qj 22 42 (bt 30 7340031) rfl rfl HT_.out ?_
     refine qj 23 43 (bt 30 15728639) rfl rfl HT_.out ?_
     refine qj 24 44 (bt 30 32505855) rfl rfl HT_.out ?_
     refine qm 20 40 (bt 30 33554431) rfl rfl HT_.out HW_.out hHeld ?_
     refine qm 25 45 (bt 30 67108863) rfl rfl HT_.out HW_.out hHeld ?_
     refine qo 26 (some 46) (bt 30 134217727) rfl rfl HT_.out fun K hK => ?_
     refine qg Try.func10 #[.slice A447_0 ((rd_T36 l0 x7_1).f0).length c447_0, .slice A448_0 ((rd_T36 l1 x7_1).f0).length c448_0] rfl rfl ?_
     with_reducible refine (laws_lqPages.calls kj3 _ _ ((rd_T36 l0 x7_1).f0) _ _ ((rd_T36 l1 x7_1).f0) true _ ?side1 ?side2 ?side3 ?side4 A13.out).mono ?_
     (case side1 => exact pc (Kd.C_below HR449_0.out HB.out))
     (case side2 => exact HC449_0.out)
     (case side3 => exact pc (Kd.C_below HR450_0.out HB.out))
     (case side4 => exact HC450_0.out)
     rintro e w' ⟨rfl, ⟨nd, rfl⟩⟩
     refine ⟨_, rfl, ?_⟩
     refine hK.out _ _ ⟨((HB.out.cell (World.block_lt_of_cell? w _ hw447_0)).trans hw447_0), ((HB.out.cell (World.block_lt_of_cell? w _ hw447_1)).trans hw447_1), ((HB.out.cell (World.block_lt_of_cell? w _ hw448_0)).trans hw448_0), ((HB.out.cell (World.block_lt_of_cell? w _ hw448_1)).trans hw448_1), ((HB.out.cell (World.block_lt_of_cell? w _ hw449_0)).trans hw449_0), ((HB.out.cell (World.block_lt_of_cell? w _ hw449_1)).trans hw449_1), ((HB.out.cell (World.block_lt_of_cell? w _ hw450_0)).trans hw450_0), ((HB.out.cell (World.block_lt_of_cell? w _ hw450_1)).trans hw450_1)⟩ (fun hHeld => ?_)
     clear hK K
     refine qn (some 46) ?_
     refine qj 27 47 (bt 30 268435455) rfl rfl HT_.out ?_
     refine qj 28 48 (bt 30 536870911) rfl rfl HT_.out ?_
     refine qj 29 49 (bt 30 1073741823) rfl rfl HT_.out ?_
     refine done_ (done_of HT_.out (by kernel_rfl)) ?_
     try go_wp2
     go_roundg kj3
     case measure => have := HK1.out; have := HJ3.out; omega
     case rel => exact ⟨(wrap64 (x7_1 + 1)), rf, H', ⟨by have := HK1.out; have := HJ3.out; omega⟩, ⟨ph HB.out⟩⟩
end Go.Proofs.Ythmgdljblidgjaa.Rw
