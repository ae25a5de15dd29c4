-- printed by wip/pp/pp.py
import Derived.Test.YtkgedhalodehgaaR10
import Derived.Test.YtkgedhalodehgaaR18
import Derived.Test.YtkgedhalodehgaaR19
import Derived.Test.YtkgedhalodehgaaR110
import Derived.Test.YtkgedhalodehgaaR112
import Derived.Test.YtkgedhalodehgaaR113
namespace Go.Proofs.Ytkgedhalodehgaa.R1
open Go.RowKit Go.Proofs.YtkgedhalodehgaaW.PrintWords Go.Proofs.YtkgedhalodehgaaW.PrintLast Go.Proofs.YtkgedhalodehgaaW.PrintMore
attribute [local go_sem] max2_int min2_int max_two min_two max_three min_three max_four min_four
set_option linter.unusedVariables false
set_option linter.unusedSimpArgs false
mutual
def laws_FnOldLast.j0 : Nat → List (S33) → Bool → Bool → Option (Bool)
 | 0, _, _, _ => none
 | k + 1, x3, x4, x25 => if x25 = true then ((spec_FindOrder.f x3).bind fun t385 => (some (x4 == t385))) else ((impl_FindOld.f x3).bind fun t386 => (laws_FnOldLast.l0 k x3 t386 0))
def laws_FnOldLast.l0 : Nat → List (S33) → Int → Int → Option (Bool)
 | 0, _, _, _ => none
 | k + 1, x3, x5, x6 => if x6 < 4 then (if 0 ≤ x5 then (if x5 < (x3.length : Int) then (if 0 ≤ x6 then (if x6 < (((rd_T33 x3 x5).f0).length : Int) then (laws_FnOldLast.l1 k x3 x5 x6 0 ((rd_T30 ((rd_T33 x3 x5).f0) x6).f0) ((rd_T30 ((rd_T33 x3 x5).f0) x6).f1.f0) ((rd_T30 ((rd_T33 x3 x5).f0) x6).f1.f1) ((rd_T30 ((rd_T33 x3 x5).f0) x6).f1.f2) ((rd_T30 ((rd_T33 x3 x5).f0) x6).f1.f3)) else (none)) else (none)) else (none)) else (none)) else ((impl_FlashOk.f x3).bind fun t387 => (some t387))
def laws_FnOldLast.l1 : Nat → List (S33) → Int → Int → Int → Int → Int → Int → Int → Int → Option (Bool)
 | 0, _, _, _, _, _, _, _, _, _ => none
 | k + 1, x3, x5, x6, x8, x391000, x391001, x391002, x391003, x391004 => if x8 < (x3.length : Int) then (laws_FnOldLast.l2 k x3 x5 x6 x8 0 x391000 x391001 x391002 x391003 x391004) else (laws_FnOldLast.l0 k x3 x5 (wrap64 (x6 + 1)))
def laws_FnOldLast.l2 : Nat → List (S33) → Int → Int → Int → Int → Int → Int → Int → Int → Int → Option (Bool)
 | 0, _, _, _, _, _, _, _, _, _, _ => none
 | k + 1, x3, x5, x6, x8, x9, x391000, x391001, x391002, x391003, x391004 => if x9 < 4 then (if 0 ≤ x8 then (if x8 < (x3.length : Int) then (if 0 ≤ x9 then (if x9 < (((rd_T33 x3 x8).f0).length : Int) then (if x8 = x5 then (laws_FnOldLast.l2 k x3 x5 x6 x8 (wrap64 (x9 + 1)) x391000 x391001 x391002 x391003 x391004) else (if x391000 = 1 then (if ((rd_T30 ((rd_T33 x3 x8).f0) x9).f0) = 1 then (if ((rd_T30 ((rd_T33 x3 x8).f0) x9).f1.f1) < x391002 then (some false) else ((impl_FindLive.f k x3 x5 x6).bind fun t394 => (if t394 = true then (if ((rd_T30 ((rd_T33 x3 x8).f0) x9).f1.f2) = x391003 then (some false) else (laws_FnOldLast.l2 k x3 x5 x6 x8 (wrap64 (x9 + 1)) x391000 x391001 x391002 x391003 x391004)) else (laws_FnOldLast.l2 k x3 x5 x6 x8 (wrap64 (x9 + 1)) x391000 x391001 x391002 x391003 x391004)))) else (laws_FnOldLast.l2 k x3 x5 x6 x8 (wrap64 (x9 + 1)) x391000 x391001 x391002 x391003 x391004)) else (laws_FnOldLast.l2 k x3 x5 x6 x8 (wrap64 (x9 + 1)) x391000 x391001 x391002 x391003 x391004))) else (none)) else (none)) else (none)) else (none)) else (laws_FnOldLast.l1 k x3 x5 x6 (wrap64 (x8 + 1)) x391000 x391001 x391002 x391003 x391004)
end
def laws_FnOldLast.f (k : Nat) (l0 : List Int) : Option (Bool) := if (l0.length : Int) > 1048576 then (some true) else ((spec_DrawFindOrder.f k l0).bind fun t380 => ((impl_FindOrder.f t380).bind fun t383 => ((spec_FindOrder.f t380).bind fun t384 => (if (t383 != t384) = true then (laws_FnOldLast.j0 k t380 t383 true) else (laws_FnOldLast.j0 k t380 t383 (!t383))))))
theorem laws_FnOldLast.mono_l : ∀ k, (∀ y0 y1 y2, LeO (laws_FnOldLast.j0 k y0 y1 y2) (laws_FnOldLast.j0 (k + 1) y0 y1 y2)) ∧ (∀ y0 y1 y2, LeO (laws_FnOldLast.l0 k y0 y1 y2) (laws_FnOldLast.l0 (k + 1) y0 y1 y2)) ∧ (∀ y0 y1 y2 y3 y4 y5 y6 y7 y8, LeO (laws_FnOldLast.l1 k y0 y1 y2 y3 y4 y5 y6 y7 y8) (laws_FnOldLast.l1 (k + 1) y0 y1 y2 y3 y4 y5 y6 y7 y8)) ∧ (∀ y0 y1 y2 y3 y4 y5 y6 y7 y8 y9, LeO (laws_FnOldLast.l2 k y0 y1 y2 y3 y4 y5 y6 y7 y8 y9) (laws_FnOldLast.l2 (k + 1) y0 y1 y2 y3 y4 y5 y6 y7 y8 y9))
 | 0 => ⟨fun _ _ _ r h => by simp [laws_FnOldLast.j0] at h, fun _ _ _ r h => by simp [laws_FnOldLast.l0] at h, fun _ _ _ _ _ _ _ _ _ r h => by simp [laws_FnOldLast.l1] at h, fun _ _ _ _ _ _ _ _ _ _ r h => by simp [laws_FnOldLast.l2] at h⟩
 | k + 1 => by
  obtain ⟨ih0, ih1, ih2, ih3⟩ := laws_FnOldLast.mono_l k
  refine ⟨?_, ?_, ?_, ?_⟩
  · intro y0 y1 y2
    unfold laws_FnOldLast.j0
    with_reducible repeat' first | exact ih0 _ _ _ | exact ih1 _ _ _ | exact ih2 _ _ _ _ _ _ _ _ _ | exact ih3 _ _ _ _ _ _ _ _ _ _ | exact impl_FindLive.mono _ _ _ _ | exact spec_DrawFindOrder.mono _ _ | exact LeO.refl _ | exact LeO.none _ | refine LeO.ite ?_ ?_ | refine LeO.bind ?_ (fun _ => ?_)
  · intro y0 y1 y2
    unfold laws_FnOldLast.l0
    with_reducible repeat' first | exact ih0 _ _ _ | exact ih1 _ _ _ | exact ih2 _ _ _ _ _ _ _ _ _ | exact ih3 _ _ _ _ _ _ _ _ _ _ | exact impl_FindLive.mono _ _ _ _ | exact spec_DrawFindOrder.mono _ _ | exact LeO.refl _ | exact LeO.none _ | refine LeO.ite ?_ ?_ | refine LeO.bind ?_ (fun _ => ?_)
  · intro y0 y1 y2 y3 y4 y5 y6 y7 y8
    unfold laws_FnOldLast.l1
    with_reducible repeat' first | exact ih0 _ _ _ | exact ih1 _ _ _ | exact ih2 _ _ _ _ _ _ _ _ _ | exact ih3 _ _ _ _ _ _ _ _ _ _ | exact impl_FindLive.mono _ _ _ _ | exact spec_DrawFindOrder.mono _ _ | exact LeO.refl _ | exact LeO.none _ | refine LeO.ite ?_ ?_ | refine LeO.bind ?_ (fun _ => ?_)
  · intro y0 y1 y2 y3 y4 y5 y6 y7 y8 y9
    unfold laws_FnOldLast.l2
    with_reducible repeat' first | exact ih0 _ _ _ | exact ih1 _ _ _ | exact ih2 _ _ _ _ _ _ _ _ _ | exact ih3 _ _ _ _ _ _ _ _ _ _ | exact impl_FindLive.mono _ _ _ _ | exact spec_DrawFindOrder.mono _ _ | exact LeO.refl _ | exact LeO.none _ | refine LeO.ite ?_ ?_ | refine LeO.bind ?_ (fun _ => ?_)
theorem laws_FnOldLast.mono : ∀ a0 k, LeO (laws_FnOldLast.f k a0) (laws_FnOldLast.f (k + 1) a0) := by
 intro a0 k
 obtain ⟨ih0, ih1, ih2, ih3⟩ := laws_FnOldLast.mono_l k
 unfold laws_FnOldLast.f
 with_reducible repeat' first | exact ih0 _ _ _ | exact ih1 _ _ _ | exact ih2 _ _ _ _ _ _ _ _ _ | exact ih3 _ _ _ _ _ _ _ _ _ _ | exact impl_FindLive.mono _ _ _ _ | exact spec_DrawFindOrder.mono _ _ | exact LeO.refl _ | exact LeO.none _ | refine LeO.ite ?_ ?_ | refine LeO.bind ?_ (fun _ => ?_)
set_option maxHeartbeats 8000000 in
set_option maxRecDepth 100000 in
theorem laws_FnOldLast.calls (k : Nat) (A0 : Option Addr) (c0 : Nat) (l0 : List Int) (r : Bool) (w : World) (hr0 : Kd.C (Kd.int .u8) w A0 l0.length l0) (hc0 : l0.length ≤ c0) (h : laws_FnOldLast.f k l0 = some r) :
 Calls Try.prog 3 #[.slice A0 l0.length c0] w fun e w' => e = .returned (.bool r) ∧ Below w.heap.size w w' := by
 have hu30 := Try.underlying30
 have HR0 := am hr0
 have HC0 := am hc0
 clear hr0 hc0
 have HB := am (Below.refl w.heap.size w)
 have H : (if (l0.length : Int) > 1048576 then (some true) else ((spec_DrawFindOrder.f k l0).bind fun t380 => ((impl_FindOrder.f t380).bind fun t383 => ((spec_FindOrder.f t380).bind fun t384 => (if (t383 != t384) = true then (laws_FnOldLast.j0 k t380 t383 true) else (laws_FnOldLast.j0 k t380 t383 (!t383))))))) = some r := h
 clear h
 by_cases c2 : (l0.length : Int) > 1048576
 · rw [if_pos c2] at H
   have c2b0 := decide_eq_true c2
   have c2b1 : decide (1048576 < l0.length) = true := decide_eq_true (by omega)
   clear c2
   obtain rfl := Option.some.inj H
   go_enter Try.func3, Try.ntmps3
   go_wp2
   go_ret
   exact (rq (ph HB.out))
 rw [if_neg c2] at H
 have c2b0 := decide_eq_false c2
 have c2b1 : decide (1048576 < l0.length) = false := decide_eq_false (by omega)
 clear c2
 replace H := Option.bind_eq_some_iff.mp H
 obtain ⟨t380, A30, H⟩ := H
 have A3 := am A30
 clear A30
 replace H := Option.bind_eq_some_iff.mp H
 obtain ⟨t383, A40, H⟩ := H
 have A4 := am A40
 clear A40
 have HC5 := am H
 clear H
 go_enter Try.func3, Try.ntmps3
 go_upto_region 5 with (first | (refine gl 15 Try.func4 #[.slice A0 l0.length c0] rfl ?_; (with_reducible refine (spec_DrawFindOrder.calls k _ _ l0 t380 _ ?side1 ?side2 A3.out).mono ?_); (case side1 => exact pc HR0.out); (case side2 => exact HC0.out); rintro e w6 ⟨v381, rfl, ho0, hb⟩; refine ⟨_, rfl, ?_⟩; have HO382 := am (Kd.V_lower (Kd.V_mono (ok' := fun k_ => True) ho0 (fun k_ hk_ => trivial)) (below_size (ph HB.out))); replace HB := am (below_step (ph HB.out) hb); clear hb ho0; obtain ⟨Ao7, co7, eo7⟩ := Kd.V_slice HO382.out; subst eo7) | (refine gl 17 Try.func5 #[.slice Ao7 t380.length co7] rfl ?_; (with_reducible refine (impl_FindOrder.calls _ _ t380 t383 _ ?side1 ?side2 A4.out).mono ?_); (case side1 => exact pc ((Kd.V_reads' HO382.out).2.2)); (case side2 => exact (Kd.V_reads' HO382.out).2.1); rintro e w8 ⟨rfl, hb⟩; refine ⟨_, rfl, ?_⟩; replace HO382 := am (Kd.V_below (pv HO382.out) hb); replace HB := am (below_step (ph HB.out) hb); clear hb))
 (try simp only [Act.put, List.setIfInBounds_toArray, List.set_cons_zero, List.set_cons_succ])
 go_cut [25] (fun v25 wc => ∃ (kq : Nat) (x25_4 : Bool), v25 = .bool x25_4 ∧ Aside0 (laws_FnOldLast.j0 kq t380 t383 x25_4 = some r) ∧ Aside0 (kq ≤ k) ∧ Aside0 (Kd.V k33 33 wc w.heap.size (fun _ => True) (.slice Ao7 t380.length co7) t380) ∧ Aside0 (Below w.heap.size w wc))
 case first =>
  have H := HC5.out
  clear HC5
  replace H := Option.bind_eq_some_iff.mp H
  obtain ⟨t384, A90, H⟩ := H
  have A9 := am A90
  clear A90
  by_cases c10 : (t383 != t384) = true
  rotate_left
  · rw [if_neg c10] at H
    have c10b0 : (t383 != t384) = false := by simpa using c10
    (try (have c10b1 : decide (t383 = t384) = true := by simpa using c10))
    (try (have c10b2 : (t383 == t384) = true := by simpa using c10))
    clear c10
    (first | rw [c10b0] | (simp only [i64_w, i32_w]; rw [c10b0]) | skip)
    have H' := am H
    clear H
    go_wp2_with (first | (refine gl 20 Try.func6 #[.slice Ao7 t380.length co7] rfl ?_; (with_reducible refine (spec_FindOrder.calls _ _ t380 t384 _ ?side1 ?side2 A9.out).mono ?_); (case side1 => exact pc ((Kd.V_reads' HO382.out).2.2)); (case side2 => exact (Kd.V_reads' HO382.out).2.1); rintro e w12 ⟨rfl, hb⟩; refine ⟨_, rfl, ?_⟩; replace HO382 := am (Kd.V_below (pv HO382.out) hb); replace HB := am (below_step (ph HB.out) hb); clear hb))
    go_meet
    case rel => exact ⟨_, (!t383), rf, H', ⟨by first | omega | exact Nat.le_refl _⟩, ⟨pv HO382.out⟩, ⟨ph HB.out⟩⟩
  rw [if_pos c10] at H
  have c10b0 : (t383 != t384) = true := c10
  (try (have c10b1 : decide (t383 = t384) = false := by simpa using c10))
  (try (have c10b2 : (t383 == t384) = false := by simpa using c10))
  (try (have c10b3 : ¬ (t383 = t384) := by simpa using c10))
  clear c10
  (first | rw [c10b0] | (simp only [i64_w, i32_w]; rw [c10b0]) | skip)
  have H' := am H
  clear H
  go_wp2_with (first | (refine gl 20 Try.func6 #[.slice Ao7 t380.length co7] rfl ?_; (with_reducible refine (spec_FindOrder.calls _ _ t380 t384 _ ?side1 ?side2 A9.out).mono ?_); (case side1 => exact pc ((Kd.V_reads' HO382.out).2.2)); (case side2 => exact (Kd.V_reads' HO382.out).2.1); rintro e w11 ⟨rfl, hb⟩; refine ⟨_, rfl, ?_⟩; replace HO382 := am (Kd.V_below (pv HO382.out) hb); replace HB := am (below_step (ph HB.out) hb); clear hb))
  go_meet
  case rel => exact ⟨_, (true), rf, H', ⟨by first | omega | exact Nat.le_refl _⟩, ⟨pv HO382.out⟩, ⟨ph HB.out⟩⟩
 case rest =>
  clear HC5
  obtain ⟨kq, x25_4, rfl, HA, HJ4, HO_3, HB⟩ := hcut
  cases kq with
  | zero => exact absurd HA.out (by simp [laws_FnOldLast.j0])
  | succ kj4 =>
   have H := HA.out
   clear HA
   simp only [laws_FnOldLast.j0] at H
   by_cases c13 : x25_4 = true
   · subst c13
     rw [if_pos rfl] at H
     replace H := Option.bind_eq_some_iff.mp H
     obtain ⟨t385, A140, H⟩ := H
     have A14 := am A140
     clear A140
     obtain rfl := Option.some.inj H
     go_wp2_with (first | (refine gl 28 Try.func6 #[.slice Ao7 t380.length co7] rfl ?_; (with_reducible refine (spec_FindOrder.calls _ _ t380 t385 _ ?side1 ?side2 A14.out).mono ?_); (case side1 => exact pc ((Kd.V_reads' HO_3.out).2.2)); (case side2 => exact (Kd.V_reads' HO_3.out).2.1); rintro e w15 ⟨rfl, hb⟩; refine ⟨_, rfl, ?_⟩; replace HO_3 := am (Kd.V_below (pv HO_3.out) hb); replace HB := am (below_step (ph HB.out) hb); clear hb))
     go_ret
     exact (rq (ph HB.out))
   replace c13 := Bool.eq_false_iff.mpr c13
   subst c13
   rw [if_neg (show ¬ (false = true) by decide)] at H
   replace H := Option.bind_eq_some_iff.mp H
   obtain ⟨t386, A160, H⟩ := H
   have A16 := am A160
   clear A160
   have H' := am H
   clear H
   go_wp2_with (first | (refine gl 31 Try.func7 #[.slice Ao7 t380.length co7] rfl ?_; (with_reducible refine (impl_FindOld.calls _ _ t380 t386 _ ?side1 ?side2 A16.out).mono ?_); (case side1 => exact pc ((Kd.V_reads' HO_3.out).2.2)); (case side2 => exact (Kd.V_reads' HO_3.out).2.1); rintro e w17 ⟨rfl, hb⟩; refine ⟨_, rfl, ?_⟩; replace HO_3 := am (Kd.V_below (pv HO_3.out) hb); replace HB := am (below_step (ph HB.out) hb); clear hb))
   go_loopg [6] kj4 (fun kq v6 w' => ∃ (x6_2 : Int), v6 = .int .i64 x6_2 ∧ Aside0 (laws_FnOldLast.l0 kq t380 t386 x6_2 = some r) ∧ Aside0 (kq ≤ kj4) ∧ Aside0 (Kd.V k33 33 w' w.heap.size (fun _ => True) (.slice Ao7 t380.length co7) t380) ∧ Aside0 (Below w.heap.size w w'))
   case atStart => exact ⟨(0), rf, H', ⟨Nat.le_refl _⟩, ⟨pv HO_3.out⟩, ⟨ph HB.out⟩⟩
   case round =>
    clear H'
    obtain ⟨x6_2, rfl, HA, HK2, HO_3, HB⟩ := hrel
    cases gk with
    | zero => exact absurd HA.out (by simp [laws_FnOldLast.l0])
    | succ k2 =>
     have H := HA.out
     clear HA
     simp only [laws_FnOldLast.l0] at H
     by_cases c18 : x6_2 < 4
     rotate_left
     · rw [if_neg c18] at H
       have c18b0 := decide_eq_false c18
       clear c18
       replace H := Option.bind_eq_some_iff.mp H
       obtain ⟨t387, A720, H⟩ := H
       have A72 := am A720
       clear A720
       obtain rfl := Option.some.inj H
       go_wp2_with (first | (refine gl 100 Try.func9 #[.slice Ao7 t380.length co7] rfl ?_; (with_reducible refine (impl_FlashOk.calls _ _ t380 t387 _ ?side1 ?side2 A72.out).mono ?_); (case side1 => exact pc ((Kd.V_reads' HO_3.out).2.2)); (case side2 => exact (Kd.V_reads' HO_3.out).2.1); rintro e w73 ⟨rfl, hb⟩; refine ⟨_, rfl, ?_⟩; replace HO_3 := am (Kd.V_below (pv HO_3.out) hb); replace HB := am (below_step (ph HB.out) hb); clear hb))
       go_ret
       exact (rq (ph HB.out))
     rw [if_pos c18] at H
     have c18b0 := decide_eq_true c18
     clear c18
     obtain ⟨c19b0, H⟩ := ifd H
     obtain ⟨c20b0, H⟩ := ifd H
     obtain ⟨c21b0, H⟩ := ifd H
     obtain ⟨c22b0, H⟩ := ifd H
     have H' := am H
     clear H
     have p388 : 0 ≤ (t386 : Int) := ofb
     have q388 : t386 < (t380.length : Int) := ofb
     obtain ⟨ad388, A388_0, c388_0, e388, hx388_0, hx388_1, hl388_0, hi388_0⟩ := at_T33 (Kd.V_reads' HO_3.out).2.2 t386 p388 q388
     cases e388
     obtain ⟨ce388, hce388, hMe388, hcc388⟩ := Kd.V_get HO_3.out z33 t386 p388 (by first | exact q388 | exact ofb | (have e_ := (Kd.V_reads' HO_3.out).1; omega))
     obtain ⟨ua388_0, uc388_0, rfl, ul388_0, ge388_0⟩ := k33_openF hMe388
     have hv388_0 := hcc388 0 _ rfl
     rw [Nat.add_zero] at hv388_0
     replace hv388_0 := Option.some.inj (hv388_0.symm.trans hx388_0)
     injection hv388_0 with hva_ hvn_ hvc_
     rw [hva_] at ge388_0
     rw [hvc_] at ul388_0
     have HL388_0 := am (show Kd.V k30 30 _ w.heap.size _ _ ((rd_T33 t380 t386).f0) from Kd.V_mk ul388_0 ge388_0)
     clear hva_ hvn_ hvc_ ge388_0 ul388_0 hcc388 hce388
     have HR388_0 := am hi388_0
     have HC388_0 := am hl388_0
     clear hi388_0 hl388_0
     replace p388 := eq_true p388
     replace q388 := eq_true q388
     have p389 : 0 ≤ (x6_2 : Int) := ofb
     have q389 : x6_2 < (((rd_T33 t380 t386).f0).length : Int) := ofb
     obtain ⟨ad389, e389, hx389_0, hx389_1, hx389_2, hx389_3, hx389_4⟩ := at_T30 HR388_0.out x6_2 p389 q389
     cases e389
     replace p389 := eq_true p389
     replace q389 := eq_true q389
     go_wp2_with (first | ((with_reducible refine bx 7 #[.int .i64 0, .int .i64 0, .int .i64 0, .int .i64 0, .int .i64 0] 30 ?hd ?_ ?hg ?hrun); (case hd => rfl); (case hg => rfl); (case hrun => first | (go_simp; done) | (go_simp; rfl)); intro gb390 hg w23 hbox hb; replace HO_3 := am (Kd.V_below (Kd.V_elderB (pv HO_3.out) gb390 (Nat.le_of_eq hg.symm)) hb); replace HL388_0 := am (Kd.V_below (Kd.V_elderB (pv HL388_0.out) gb390 (Nat.le_of_eq hg.symm)) hb); replace HR388_0 := am (Kd.C_below (pc HR388_0.out) hb); have BK390 := am (hbox); have GW390 := am (ge hg (ph HB.out)); have GE390 := GW390; replace HB := am (below_step (ph HB.out) hb); clear hb hbox hg; obtain ⟨hcz24_0, hcz24_1, hcz24_2, hcz24_3, hcz24_4⟩ := b5 BK390.out; obtain ⟨hfz24_0, hfz24_1, hfz24_2, hfz24_3, hfz24_4⟩ := f5 BK390.out))
     go_loopg [8] k2 (fun kq v8 w' => ∃ (x8_3 : Int), v8 = .int .i64 x8_3 ∧ Aside0 (laws_FnOldLast.l1 kq t380 t386 x6_2 x8_3 ((rd_T30 ((rd_T33 t380 t386).f0) x6_2).f0) ((rd_T30 ((rd_T33 t380 t386).f0) x6_2).f1.f0) ((rd_T30 ((rd_T33 t380 t386).f0) x6_2).f1.f1) ((rd_T30 ((rd_T33 t380 t386).f0) x6_2).f1.f2) ((rd_T30 ((rd_T33 t380 t386).f0) x6_2).f1.f3) = some r) ∧ Aside0 (kq ≤ k2) ∧ Aside0 (Kd.V k33 33 w' w.heap.size (fun k_ => k_ ≠ gb390) (.slice (some ad388) t380.length co7) t380) ∧ Aside0 (w'.heap[gb390]? = some (.cells #[.int .i64 ((rd_T30 ((rd_T33 t380 t386).f0) x6_2).f0), .int .i64 ((rd_T30 ((rd_T33 t380 t386).f0) x6_2).f1.f0), .int .i64 ((rd_T30 ((rd_T33 t380 t386).f0) x6_2).f1.f1), .int .i64 ((rd_T30 ((rd_T33 t380 t386).f0) x6_2).f1.f2), .int .i64 ((rd_T30 ((rd_T33 t380 t386).f0) x6_2).f1.f3)] 30 (0, 0))) ∧ Aside0 (Below w.heap.size w w'))
     case atStart => exact ⟨(0), rf, H', ⟨Nat.le_refl _⟩, ⟨pv (Kd.V_mono (Kd.V_far (p := ⟨gb390, 4, none⟩) (Kd.V_far (p := ⟨gb390, 3, none⟩) (Kd.V_far (p := ⟨gb390, 2, none⟩) (Kd.V_far (p := ⟨gb390, 1, none⟩) (Kd.V_far (p := ⟨gb390, 0, none⟩) (Kd.V_mono HO_3.out (fun k_ hk => (⟨hk, hk.2⟩ : _ ∧ k_ ≠ gb390))) (fun _ hk => hk.2) (.int .i64 ((rd_T30 ((rd_T33 t380 t386).f0) x6_2).f0))) (fun _ hk => hk.2) (.int .i64 ((rd_T30 ((rd_T33 t380 t386).f0) x6_2).f1.f0))) (fun _ hk => hk.2) (.int .i64 ((rd_T30 ((rd_T33 t380 t386).f0) x6_2).f1.f1))) (fun _ hk => hk.2) (.int .i64 ((rd_T30 ((rd_T33 t380 t386).f0) x6_2).f1.f2))) (fun _ hk => hk.2) (.int .i64 ((rd_T30 ((rd_T33 t380 t386).f0) x6_2).f1.f3))) (fun _ hk => hk.1.2))⟩, ⟨bp5 (pb BK390.out)⟩, ⟨bg1 HB.out GE390.out⟩⟩
     case round =>
      clear H'
      obtain ⟨x8_3, rfl, HA, HK3, HO_3, BK390, HB⟩ := hrel
      cases gk with
      | zero => exact absurd HA.out (by simp [laws_FnOldLast.l1])
      | succ k3 =>
       have H := HA.out
       clear HA
       simp only [laws_FnOldLast.l1] at H
       by_cases c25 : x8_3 < (t380.length : Int)
       rotate_left
       · rw [if_neg c25] at H
         have c25b0 := decide_eq_false c25
         clear c25
         have H' := am H
         clear H
         go_wp2
         go_roundg k3
         case measure => have := HJ4.out; have := HK2.out; have := HK3.out; omega
         case rel => exact ⟨(wrap64 (x6_2 + 1)), rf, H', ⟨by have := HJ4.out; have := HK2.out; have := HK3.out; omega⟩, ⟨pv (Kd.V_mono HO_3.out (fun _ hk => trivial))⟩, ⟨bg1 HB.out GE390.out⟩⟩
       rw [if_pos c25] at H
       have c25b0 := decide_eq_true c25
       clear c25
       have H' := am H
       clear H
       go_wp2
       go_loopg [9] k3 (fun kq v9 w' => ∃ (x9_4 : Int), v9 = .int .i64 x9_4 ∧ Aside0 (laws_FnOldLast.l2 kq t380 t386 x6_2 x8_3 x9_4 ((rd_T30 ((rd_T33 t380 t386).f0) x6_2).f0) ((rd_T30 ((rd_T33 t380 t386).f0) x6_2).f1.f0) ((rd_T30 ((rd_T33 t380 t386).f0) x6_2).f1.f1) ((rd_T30 ((rd_T33 t380 t386).f0) x6_2).f1.f2) ((rd_T30 ((rd_T33 t380 t386).f0) x6_2).f1.f3) = some r) ∧ Aside0 (kq ≤ k3) ∧ Aside0 (Kd.V k33 33 w' w.heap.size (fun k_ => k_ ≠ gb390) (.slice (some ad388) t380.length co7) t380) ∧ Aside0 (w'.heap[gb390]? = some (.cells #[.int .i64 ((rd_T30 ((rd_T33 t380 t386).f0) x6_2).f0), .int .i64 ((rd_T30 ((rd_T33 t380 t386).f0) x6_2).f1.f0), .int .i64 ((rd_T30 ((rd_T33 t380 t386).f0) x6_2).f1.f1), .int .i64 ((rd_T30 ((rd_T33 t380 t386).f0) x6_2).f1.f2), .int .i64 ((rd_T30 ((rd_T33 t380 t386).f0) x6_2).f1.f3)] 30 (0, 0))) ∧ Aside0 (Below w.heap.size w w'))
       case atStart => exact ⟨(0), rf, H', ⟨Nat.le_refl _⟩, ⟨pv HO_3.out⟩, ⟨pb BK390.out⟩, ⟨bg1 HB.out GE390.out⟩⟩
       case round =>
        clear H'
        obtain ⟨x9_4, rfl, HA, HK4, HO_3, BK390, HB⟩ := hrel
        cases gk with
        | zero => exact absurd HA.out (by simp [laws_FnOldLast.l2])
        | succ k4 =>
         have H := HA.out
         clear HA
         simp only [laws_FnOldLast.l2] at H
         by_cases c26 : x9_4 < 4
         rotate_left
         · rw [if_neg c26] at H
           have c26b0 := decide_eq_false c26
           clear c26
           have H' := am H
           clear H
           go_wp2
           go_roundg k4
           case measure => have := HJ4.out; have := HK2.out; have := HK3.out; have := HK4.out; omega
           case rel => exact ⟨(wrap64 (x8_3 + 1)), rf, H', ⟨by have := HJ4.out; have := HK2.out; have := HK3.out; have := HK4.out; omega⟩, ⟨pv HO_3.out⟩, ⟨pb BK390.out⟩, ⟨bg1 HB.out GE390.out⟩⟩
         rw [if_pos c26] at H
         have c26b0 := decide_eq_true c26
         clear c26
         obtain ⟨c27b0, H⟩ := ifd H
         obtain ⟨c28b0, H⟩ := ifd H
         obtain ⟨c29b0, H⟩ := ifd H
         obtain ⟨c30b0, H⟩ := ifd H
         by_cases c31 : x8_3 = t386
         · rw [if_pos c31] at H
           have c31b0 : (x8_3 == t386) = true := beq_iff_eq.mpr c31
           have c31b1 : (x8_3 != t386) = false := bne_eq_false_iff_eq.mpr c31
           clear c31
           have H' := am H
           clear H
           have p391 : 0 ≤ (x8_3 : Int) := ofb
           have q391 : x8_3 < (t380.length : Int) := ofb
           obtain ⟨ad391, A391_0, c391_0, e391, hx391_0, hx391_1, hl391_0, hi391_0⟩ := at_T33 (Kd.V_reads' HO_3.out).2.2 x8_3 p391 q391
           obtain rfl : ad388 = ad391 := (by injection e391)
           obtain ⟨ce391, hce391, hMe391, hcc391⟩ := Kd.V_get HO_3.out z33 x8_3 p391 (by first | exact q391 | exact ofb | (have e_ := (Kd.V_reads' HO_3.out).1; omega))
           obtain ⟨ua391_0, uc391_0, rfl, ul391_0, ge391_0⟩ := k33_openF hMe391
           have hv391_0 := hcc391 0 _ rfl
           rw [Nat.add_zero] at hv391_0
           replace hv391_0 := Option.some.inj (hv391_0.symm.trans hx391_0)
           injection hv391_0 with hva_ hvn_ hvc_
           rw [hva_] at ge391_0
           rw [hvc_] at ul391_0
           have HL391_0 := am (show Kd.V k30 30 _ w.heap.size _ _ ((rd_T33 t380 x8_3).f0) from Kd.V_mk ul391_0 ge391_0)
           clear hva_ hvn_ hvc_ ge391_0 ul391_0 hcc391 hce391
           have HR391_0 := am hi391_0
           have HC391_0 := am hl391_0
           clear hi391_0 hl391_0
           replace p391 := eq_true p391
           replace q391 := eq_true q391
           have p392 : 0 ≤ (x9_4 : Int) := ofb
           have q392 : x9_4 < (((rd_T33 t380 x8_3).f0).length : Int) := ofb
           obtain ⟨ad392, e392, hx392_0, hx392_1, hx392_2, hx392_3, hx392_4⟩ := at_T30 HR391_0.out x9_4 p392 q392
           cases e392
           replace p392 := eq_true p392
           replace q392 := eq_true q392
           go_wp2_with (first | ((with_reducible refine bx 10 #[.int .i64 0, .int .i64 0, .int .i64 0, .int .i64 0, .int .i64 0] 30 ?hd ?_ ?hg ?hrun); (case hd => rfl); (case hg => rfl); (case hrun => first | (go_simp; done) | (go_simp; rfl)); intro gb393 hg w32 hbox hb; replace HO_3 := am (Kd.V_below (Kd.V_elderB (pv HO_3.out) gb393 (Nat.le_of_eq hg.symm)) hb); replace HL391_0 := am (Kd.V_below (Kd.V_elderB (pv HL391_0.out) gb393 (Nat.le_of_eq hg.symm)) hb); replace HR391_0 := am (Kd.C_below (pc HR391_0.out) hb); have BK393 := am (hbox); have GW393 := am (ge hg (bg1 HB.out GE390.out)); have GE393 := GW393; replace HB := am (below_step (bg1 HB.out GE390.out) hb); have NB390_393 := am (nb hg (pb BK390.out)); have NB393_390 := am (Ne.symm NB390_393.out); replace BK390 := am (blk_below (pb BK390.out) hb); clear hb hbox hg; have hnb33 := NB393_390.out; have hnc33 := NB390_393.out; obtain ⟨hcz34_0, hcz34_1, hcz34_2, hcz34_3, hcz34_4⟩ := b5 BK393.out; obtain ⟨hfz34_0, hfz34_1, hfz34_2, hfz34_3, hfz34_4⟩ := f5 BK393.out))
           go_roundg k4
           case measure => have := HJ4.out; have := HK2.out; have := HK3.out; have := HK4.out; omega
           case rel => exact ⟨(wrap64 (x9_4 + 1)), rf, H', ⟨by have := HJ4.out; have := HK2.out; have := HK3.out; have := HK4.out; omega⟩, ⟨pv (Kd.V_mono (Kd.V_far (p := ⟨gb393, 4, none⟩) (Kd.V_far (p := ⟨gb393, 3, none⟩) (Kd.V_far (p := ⟨gb393, 2, none⟩) (Kd.V_far (p := ⟨gb393, 1, none⟩) (Kd.V_far (p := ⟨gb393, 0, none⟩) (Kd.V_mono HO_3.out (fun k_ hk => (⟨hk, hk.2⟩ : _ ∧ k_ ≠ gb393))) (fun _ hk => hk.2) (.int .i64 ((rd_T30 ((rd_T33 t380 x8_3).f0) x9_4).f0))) (fun _ hk => hk.2) (.int .i64 ((rd_T30 ((rd_T33 t380 x8_3).f0) x9_4).f1.f0))) (fun _ hk => hk.2) (.int .i64 ((rd_T30 ((rd_T33 t380 x8_3).f0) x9_4).f1.f1))) (fun _ hk => hk.2) (.int .i64 ((rd_T30 ((rd_T33 t380 x8_3).f0) x9_4).f1.f2))) (fun _ hk => hk.2) (.int .i64 ((rd_T30 ((rd_T33 t380 x8_3).f0) x9_4).f1.f3))) (fun _ hk => hk.1.1))⟩, ⟨bf5 (pb BK390.out) NB390_393.out⟩, ⟨bg2 HB.out GE390.out GE393.out⟩⟩
         rw [if_neg c31] at H
         have c31b0 : (x8_3 == t386) = false := beq_eq_false_iff_ne.mpr c31
         have c31b1 : (x8_3 != t386) = true := bne_iff_ne.mpr c31
         by_cases c35 : ((rd_T30 ((rd_T33 t380 t386).f0) x6_2).f0) = 1
         rotate_left
         · rw [if_neg c35] at H
           have c35b0 : (((rd_T30 ((rd_T33 t380 t386).f0) x6_2).f0) == 1) = false := beq_eq_false_iff_ne.mpr c35
           have c35b1 : (((rd_T30 ((rd_T33 t380 t386).f0) x6_2).f0) != 1) = true := bne_iff_ne.mpr c35
           have H' := am H
           clear H
           have p391 : 0 ≤ (x8_3 : Int) := ofb
           have q391 : x8_3 < (t380.length : Int) := ofb
           obtain ⟨ad391, A391_0, c391_0, e391, hx391_0, hx391_1, hl391_0, hi391_0⟩ := at_T33 (Kd.V_reads' HO_3.out).2.2 x8_3 p391 q391
           obtain rfl : ad388 = ad391 := (by injection e391)
           obtain ⟨ce391, hce391, hMe391, hcc391⟩ := Kd.V_get HO_3.out z33 x8_3 p391 (by first | exact q391 | exact ofb | (have e_ := (Kd.V_reads' HO_3.out).1; omega))
           obtain ⟨ua391_0, uc391_0, rfl, ul391_0, ge391_0⟩ := k33_openF hMe391
           have hv391_0 := hcc391 0 _ rfl
           rw [Nat.add_zero] at hv391_0
           replace hv391_0 := Option.some.inj (hv391_0.symm.trans hx391_0)
           injection hv391_0 with hva_ hvn_ hvc_
           rw [hva_] at ge391_0
           rw [hvc_] at ul391_0
           have HL391_0 := am (show Kd.V k30 30 _ w.heap.size _ _ ((rd_T33 t380 x8_3).f0) from Kd.V_mk ul391_0 ge391_0)
           clear hva_ hvn_ hvc_ ge391_0 ul391_0 hcc391 hce391
           have HR391_0 := am hi391_0
           have HC391_0 := am hl391_0
           clear hi391_0 hl391_0
           replace p391 := eq_true p391
           replace q391 := eq_true q391
           have p392 : 0 ≤ (x9_4 : Int) := ofb
           have q392 : x9_4 < (((rd_T33 t380 x8_3).f0).length : Int) := ofb
           obtain ⟨ad392, e392, hx392_0, hx392_1, hx392_2, hx392_3, hx392_4⟩ := at_T30 HR391_0.out x9_4 p392 q392
           cases e392
           replace p392 := eq_true p392
           replace q392 := eq_true q392
           go_wp2_with (first | ((with_reducible refine bx 10 #[.int .i64 0, .int .i64 0, .int .i64 0, .int .i64 0, .int .i64 0] 30 ?hd ?_ ?hg ?hrun); (case hd => rfl); (case hg => rfl); (case hrun => first | (go_simp; done) | (go_simp; rfl)); intro gb393 hg w68 hbox hb; replace HO_3 := am (Kd.V_below (Kd.V_elderB (pv HO_3.out) gb393 (Nat.le_of_eq hg.symm)) hb); replace HL391_0 := am (Kd.V_below (Kd.V_elderB (pv HL391_0.out) gb393 (Nat.le_of_eq hg.symm)) hb); replace HR391_0 := am (Kd.C_below (pc HR391_0.out) hb); have BK393 := am (hbox); have GW393 := am (ge hg (bg1 HB.out GE390.out)); have GE393 := GW393; replace HB := am (below_step (bg1 HB.out GE390.out) hb); have NB390_393 := am (nb hg (pb BK390.out)); have NB393_390 := am (Ne.symm NB390_393.out); replace BK390 := am (blk_below (pb BK390.out) hb); clear hb hbox hg; have hnb69 := NB393_390.out; have hnc69 := NB390_393.out; obtain ⟨hcz70_0, hcz70_1, hcz70_2, hcz70_3, hcz70_4⟩ := b5 BK393.out; obtain ⟨hfz70_0, hfz70_1, hfz70_2, hfz70_3, hfz70_4⟩ := f5 BK393.out; have hcz71_0 : w68.cell? ⟨gb390, 0, none⟩ = some (.int .i64 ((rd_T30 ((rd_T33 t380 t386).f0) x6_2).f0)) := (blk_cell BK390.out 0).trans rfl; have hcz71_1 : w68.cell? ⟨gb390, 1, none⟩ = some (.int .i64 ((rd_T30 ((rd_T33 t380 t386).f0) x6_2).f1.f0)) := (blk_cell BK390.out 1).trans rfl; have hcz71_2 : w68.cell? ⟨gb390, 2, none⟩ = some (.int .i64 ((rd_T30 ((rd_T33 t380 t386).f0) x6_2).f1.f1)) := (blk_cell BK390.out 2).trans rfl; have hcz71_3 : w68.cell? ⟨gb390, 3, none⟩ = some (.int .i64 ((rd_T30 ((rd_T33 t380 t386).f0) x6_2).f1.f2)) := (blk_cell BK390.out 3).trans rfl; have hcz71_4 : w68.cell? ⟨gb390, 4, none⟩ = some (.int .i64 ((rd_T30 ((rd_T33 t380 t386).f0) x6_2).f1.f3)) := (blk_cell BK390.out 4).trans rfl; obtain ⟨hfz71_0, hfz71_1, hfz71_2, hfz71_3, hfz71_4⟩ := f5 BK390.out))
           go_roundg k4
           case measure => have := HJ4.out; have := HK2.out; have := HK3.out; have := HK4.out; omega
           case rel => exact ⟨(wrap64 (x9_4 + 1)), rf, H', ⟨by have := HJ4.out; have := HK2.out; have := HK3.out; have := HK4.out; omega⟩, ⟨pv (Kd.V_mono (Kd.V_far (p := ⟨gb393, 4, none⟩) (Kd.V_far (p := ⟨gb393, 3, none⟩) (Kd.V_far (p := ⟨gb393, 2, none⟩) (Kd.V_far (p := ⟨gb393, 1, none⟩) (Kd.V_far (p := ⟨gb393, 0, none⟩) (Kd.V_mono HO_3.out (fun k_ hk => (⟨hk, hk.2⟩ : _ ∧ k_ ≠ gb393))) (fun _ hk => hk.2) (.int .i64 ((rd_T30 ((rd_T33 t380 x8_3).f0) x9_4).f0))) (fun _ hk => hk.2) (.int .i64 ((rd_T30 ((rd_T33 t380 x8_3).f0) x9_4).f1.f0))) (fun _ hk => hk.2) (.int .i64 ((rd_T30 ((rd_T33 t380 x8_3).f0) x9_4).f1.f1))) (fun _ hk => hk.2) (.int .i64 ((rd_T30 ((rd_T33 t380 x8_3).f0) x9_4).f1.f2))) (fun _ hk => hk.2) (.int .i64 ((rd_T30 ((rd_T33 t380 x8_3).f0) x9_4).f1.f3))) (fun _ hk => hk.1.1))⟩, ⟨bf5 (pb BK390.out) NB390_393.out⟩, ⟨bg2 HB.out GE390.out GE393.out⟩⟩
         rw [if_pos c35] at H
         have c35b0 : (((rd_T30 ((rd_T33 t380 t386).f0) x6_2).f0) == 1) = true := beq_iff_eq.mpr c35
         have c35b1 : (((rd_T30 ((rd_T33 t380 t386).f0) x6_2).f0) != 1) = false := bne_eq_false_iff_eq.mpr c35
         clear c35
         by_cases c36 : ((rd_T30 ((rd_T33 t380 x8_3).f0) x9_4).f0) = 1
         rotate_left
         · rw [if_neg c36] at H
           have c36b0 : (((rd_T30 ((rd_T33 t380 x8_3).f0) x9_4).f0) == 1) = false := beq_eq_false_iff_ne.mpr c36
           have c36b1 : (((rd_T30 ((rd_T33 t380 x8_3).f0) x9_4).f0) != 1) = true := bne_iff_ne.mpr c36
           have H' := am H
           clear H
           have p391 : 0 ≤ (x8_3 : Int) := ofb
           have q391 : x8_3 < (t380.length : Int) := ofb
           obtain ⟨ad391, A391_0, c391_0, e391, hx391_0, hx391_1, hl391_0, hi391_0⟩ := at_T33 (Kd.V_reads' HO_3.out).2.2 x8_3 p391 q391
           obtain rfl : ad388 = ad391 := (by injection e391)
           obtain ⟨ce391, hce391, hMe391, hcc391⟩ := Kd.V_get HO_3.out z33 x8_3 p391 (by first | exact q391 | exact ofb | (have e_ := (Kd.V_reads' HO_3.out).1; omega))
           obtain ⟨ua391_0, uc391_0, rfl, ul391_0, ge391_0⟩ := k33_openF hMe391
           have hv391_0 := hcc391 0 _ rfl
           rw [Nat.add_zero] at hv391_0
           replace hv391_0 := Option.some.inj (hv391_0.symm.trans hx391_0)
           injection hv391_0 with hva_ hvn_ hvc_
           rw [hva_] at ge391_0
           rw [hvc_] at ul391_0
           have HL391_0 := am (show Kd.V k30 30 _ w.heap.size _ _ ((rd_T33 t380 x8_3).f0) from Kd.V_mk ul391_0 ge391_0)
           clear hva_ hvn_ hvc_ ge391_0 ul391_0 hcc391 hce391
           have HR391_0 := am hi391_0
           have HC391_0 := am hl391_0
           clear hi391_0 hl391_0
           replace p391 := eq_true p391
           replace q391 := eq_true q391
           have p392 : 0 ≤ (x9_4 : Int) := ofb
           have q392 : x9_4 < (((rd_T33 t380 x8_3).f0).length : Int) := ofb
           obtain ⟨ad392, e392, hx392_0, hx392_1, hx392_2, hx392_3, hx392_4⟩ := at_T30 HR391_0.out x9_4 p392 q392
           cases e392
           replace p392 := eq_true p392
           replace q392 := eq_true q392
           go_wp2_with (first | ((with_reducible refine bx 10 #[.int .i64 0, .int .i64 0, .int .i64 0, .int .i64 0, .int .i64 0] 30 ?hd ?_ ?hg ?hrun); (case hd => rfl); (case hg => rfl); (case hrun => first | (go_simp; done) | (go_simp; rfl)); intro gb393 hg w64 hbox hb; replace HO_3 := am (Kd.V_below (Kd.V_elderB (pv HO_3.out) gb393 (Nat.le_of_eq hg.symm)) hb); replace HL391_0 := am (Kd.V_below (Kd.V_elderB (pv HL391_0.out) gb393 (Nat.le_of_eq hg.symm)) hb); replace HR391_0 := am (Kd.C_below (pc HR391_0.out) hb); have BK393 := am (hbox); have GW393 := am (ge hg (bg1 HB.out GE390.out)); have GE393 := GW393; replace HB := am (below_step (bg1 HB.out GE390.out) hb); have NB390_393 := am (nb hg (pb BK390.out)); have NB393_390 := am (Ne.symm NB390_393.out); replace BK390 := am (blk_below (pb BK390.out) hb); clear hb hbox hg; have hnb65 := NB393_390.out; have hnc65 := NB390_393.out; obtain ⟨hcz66_0, hcz66_1, hcz66_2, hcz66_3, hcz66_4⟩ := b5 BK393.out; obtain ⟨hfz66_0, hfz66_1, hfz66_2, hfz66_3, hfz66_4⟩ := f5 BK393.out; have hcz67_0 : w64.cell? ⟨gb390, 0, none⟩ = some (.int .i64 ((rd_T30 ((rd_T33 t380 t386).f0) x6_2).f0)) := (blk_cell BK390.out 0).trans rfl; have hcz67_1 : w64.cell? ⟨gb390, 1, none⟩ = some (.int .i64 ((rd_T30 ((rd_T33 t380 t386).f0) x6_2).f1.f0)) := (blk_cell BK390.out 1).trans rfl; have hcz67_2 : w64.cell? ⟨gb390, 2, none⟩ = some (.int .i64 ((rd_T30 ((rd_T33 t380 t386).f0) x6_2).f1.f1)) := (blk_cell BK390.out 2).trans rfl; have hcz67_3 : w64.cell? ⟨gb390, 3, none⟩ = some (.int .i64 ((rd_T30 ((rd_T33 t380 t386).f0) x6_2).f1.f2)) := (blk_cell BK390.out 3).trans rfl; have hcz67_4 : w64.cell? ⟨gb390, 4, none⟩ = some (.int .i64 ((rd_T30 ((rd_T33 t380 t386).f0) x6_2).f1.f3)) := (blk_cell BK390.out 4).trans rfl; obtain ⟨hfz67_0, hfz67_1, hfz67_2, hfz67_3, hfz67_4⟩ := f5 BK390.out))
           go_roundg k4
           case measure => have := HJ4.out; have := HK2.out; have := HK3.out; have := HK4.out; omega
           case rel => exact ⟨(wrap64 (x9_4 + 1)), rf, H', ⟨by have := HJ4.out; have := HK2.out; have := HK3.out; have := HK4.out; omega⟩, ⟨pv (Kd.V_mono (Kd.V_far (p := ⟨gb393, 4, none⟩) (Kd.V_far (p := ⟨gb393, 3, none⟩) (Kd.V_far (p := ⟨gb393, 2, none⟩) (Kd.V_far (p := ⟨gb393, 1, none⟩) (Kd.V_far (p := ⟨gb393, 0, none⟩) (Kd.V_mono HO_3.out (fun k_ hk => (⟨hk, hk.2⟩ : _ ∧ k_ ≠ gb393))) (fun _ hk => hk.2) (.int .i64 ((rd_T30 ((rd_T33 t380 x8_3).f0) x9_4).f0))) (fun _ hk => hk.2) (.int .i64 ((rd_T30 ((rd_T33 t380 x8_3).f0) x9_4).f1.f0))) (fun _ hk => hk.2) (.int .i64 ((rd_T30 ((rd_T33 t380 x8_3).f0) x9_4).f1.f1))) (fun _ hk => hk.2) (.int .i64 ((rd_T30 ((rd_T33 t380 x8_3).f0) x9_4).f1.f2))) (fun _ hk => hk.2) (.int .i64 ((rd_T30 ((rd_T33 t380 x8_3).f0) x9_4).f1.f3))) (fun _ hk => hk.1.1))⟩, ⟨bf5 (pb BK390.out) NB390_393.out⟩, ⟨bg2 HB.out GE390.out GE393.out⟩⟩
         rw [if_pos c36] at H
         have c36b0 : (((rd_T30 ((rd_T33 t380 x8_3).f0) x9_4).f0) == 1) = true := beq_iff_eq.mpr c36
         have c36b1 : (((rd_T30 ((rd_T33 t380 x8_3).f0) x9_4).f0) != 1) = false := bne_eq_false_iff_eq.mpr c36
         clear c36
         by_cases c37 : ((rd_T30 ((rd_T33 t380 x8_3).f0) x9_4).f1.f1) < ((rd_T30 ((rd_T33 t380 t386).f0) x6_2).f1.f1)
         · rw [if_pos c37] at H
           have c37b0 := decide_eq_true c37
           clear c37
           obtain rfl := Option.some.inj H
           have p391 : 0 ≤ (x8_3 : Int) := ofb
           have q391 : x8_3 < (t380.length : Int) := ofb
           obtain ⟨ad391, A391_0, c391_0, e391, hx391_0, hx391_1, hl391_0, hi391_0⟩ := at_T33 (Kd.V_reads' HO_3.out).2.2 x8_3 p391 q391
           obtain rfl : ad388 = ad391 := (by injection e391)
           obtain ⟨ce391, hce391, hMe391, hcc391⟩ := Kd.V_get HO_3.out z33 x8_3 p391 (by first | exact q391 | exact ofb | (have e_ := (Kd.V_reads' HO_3.out).1; omega))
           obtain ⟨ua391_0, uc391_0, rfl, ul391_0, ge391_0⟩ := k33_openF hMe391
           have hv391_0 := hcc391 0 _ rfl
           rw [Nat.add_zero] at hv391_0
           replace hv391_0 := Option.some.inj (hv391_0.symm.trans hx391_0)
           injection hv391_0 with hva_ hvn_ hvc_
           rw [hva_] at ge391_0
           rw [hvc_] at ul391_0
           have HL391_0 := am (show Kd.V k30 30 _ w.heap.size _ _ ((rd_T33 t380 x8_3).f0) from Kd.V_mk ul391_0 ge391_0)
           clear hva_ hvn_ hvc_ ge391_0 ul391_0 hcc391 hce391
           have HR391_0 := am hi391_0
           have HC391_0 := am hl391_0
           clear hi391_0 hl391_0
           replace p391 := eq_true p391
           replace q391 := eq_true q391
           have p392 : 0 ≤ (x9_4 : Int) := ofb
           have q392 : x9_4 < (((rd_T33 t380 x8_3).f0).length : Int) := ofb
           obtain ⟨ad392, e392, hx392_0, hx392_1, hx392_2, hx392_3, hx392_4⟩ := at_T30 HR391_0.out x9_4 p392 q392
           cases e392
           replace p392 := eq_true p392
           replace q392 := eq_true q392
           go_wp2_with (first | ((with_reducible refine bx 10 #[.int .i64 0, .int .i64 0, .int .i64 0, .int .i64 0, .int .i64 0] 30 ?hd ?_ ?hg ?hrun); (case hd => rfl); (case hg => rfl); (case hrun => first | (go_simp; done) | (go_simp; rfl)); intro gb393 hg w38 hbox hb; replace HO_3 := am (Kd.V_below (Kd.V_elderB (pv HO_3.out) gb393 (Nat.le_of_eq hg.symm)) hb); replace HL391_0 := am (Kd.V_below (Kd.V_elderB (pv HL391_0.out) gb393 (Nat.le_of_eq hg.symm)) hb); replace HR391_0 := am (Kd.C_below (pc HR391_0.out) hb); have BK393 := am (hbox); have GW393 := am (ge hg (bg1 HB.out GE390.out)); have GE393 := GW393; replace HB := am (below_step (bg1 HB.out GE390.out) hb); have NB390_393 := am (nb hg (pb BK390.out)); have NB393_390 := am (Ne.symm NB390_393.out); replace BK390 := am (blk_below (pb BK390.out) hb); clear hb hbox hg; have hnb39 := NB393_390.out; have hnc39 := NB390_393.out; obtain ⟨hcz40_0, hcz40_1, hcz40_2, hcz40_3, hcz40_4⟩ := b5 BK393.out; obtain ⟨hfz40_0, hfz40_1, hfz40_2, hfz40_3, hfz40_4⟩ := f5 BK393.out; have hcz41_0 : w38.cell? ⟨gb390, 0, none⟩ = some (.int .i64 ((rd_T30 ((rd_T33 t380 t386).f0) x6_2).f0)) := (blk_cell BK390.out 0).trans rfl; have hcz41_1 : w38.cell? ⟨gb390, 1, none⟩ = some (.int .i64 ((rd_T30 ((rd_T33 t380 t386).f0) x6_2).f1.f0)) := (blk_cell BK390.out 1).trans rfl; have hcz41_2 : w38.cell? ⟨gb390, 2, none⟩ = some (.int .i64 ((rd_T30 ((rd_T33 t380 t386).f0) x6_2).f1.f1)) := (blk_cell BK390.out 2).trans rfl; have hcz41_3 : w38.cell? ⟨gb390, 3, none⟩ = some (.int .i64 ((rd_T30 ((rd_T33 t380 t386).f0) x6_2).f1.f2)) := (blk_cell BK390.out 3).trans rfl; have hcz41_4 : w38.cell? ⟨gb390, 4, none⟩ = some (.int .i64 ((rd_T30 ((rd_T33 t380 t386).f0) x6_2).f1.f3)) := (blk_cell BK390.out 4).trans rfl; obtain ⟨hfz41_0, hfz41_1, hfz41_2, hfz41_3, hfz41_4⟩ := f5 BK390.out))
           go_ret
           exact (rq (bg2 HB.out GE390.out GE393.out))
         rw [if_neg c37] at H
         have c37b0 := decide_eq_false c37
         clear c37
         replace H := Option.bind_eq_some_iff.mp H
         obtain ⟨t394, A420, H⟩ := H
         have A42 := am A420
         clear A420
         by_cases c43 : t394 = true
         rotate_left
         · replace c43 := Bool.eq_false_iff.mpr c43
           subst c43
           rw [if_neg (show ¬ (false = true) by decide)] at H
           have H' := am H
           clear H
           have p391 : 0 ≤ (x8_3 : Int) := ofb
           have q391 : x8_3 < (t380.length : Int) := ofb
           obtain ⟨ad391, A391_0, c391_0, e391, hx391_0, hx391_1, hl391_0, hi391_0⟩ := at_T33 (Kd.V_reads' HO_3.out).2.2 x8_3 p391 q391
           obtain rfl : ad388 = ad391 := (by injection e391)
           obtain ⟨ce391, hce391, hMe391, hcc391⟩ := Kd.V_get HO_3.out z33 x8_3 p391 (by first | exact q391 | exact ofb | (have e_ := (Kd.V_reads' HO_3.out).1; omega))
           obtain ⟨ua391_0, uc391_0, rfl, ul391_0, ge391_0⟩ := k33_openF hMe391
           have hv391_0 := hcc391 0 _ rfl
           rw [Nat.add_zero] at hv391_0
           replace hv391_0 := Option.some.inj (hv391_0.symm.trans hx391_0)
           injection hv391_0 with hva_ hvn_ hvc_
           rw [hva_] at ge391_0
           rw [hvc_] at ul391_0
           have HL391_0 := am (show Kd.V k30 30 _ w.heap.size _ _ ((rd_T33 t380 x8_3).f0) from Kd.V_mk ul391_0 ge391_0)
           clear hva_ hvn_ hvc_ ge391_0 ul391_0 hcc391 hce391
           have HR391_0 := am hi391_0
           have HC391_0 := am hl391_0
           clear hi391_0 hl391_0
           replace p391 := eq_true p391
           replace q391 := eq_true q391
           have p392 : 0 ≤ (x9_4 : Int) := ofb
           have q392 : x9_4 < (((rd_T33 t380 x8_3).f0).length : Int) := ofb
           obtain ⟨ad392, e392, hx392_0, hx392_1, hx392_2, hx392_3, hx392_4⟩ := at_T30 HR391_0.out x9_4 p392 q392
           cases e392
           replace p392 := eq_true p392
           replace q392 := eq_true q392
           go_wp2_with (first | ((with_reducible refine bx 10 #[.int .i64 0, .int .i64 0, .int .i64 0, .int .i64 0, .int .i64 0] 30 ?hd ?_ ?hg ?hrun); (case hd => rfl); (case hg => rfl); (case hrun => first | (go_simp; done) | (go_simp; rfl)); intro gb393 hg w59 hbox hb; replace HO_3 := am (Kd.V_below (Kd.V_elderB (pv HO_3.out) gb393 (Nat.le_of_eq hg.symm)) hb); replace HL391_0 := am (Kd.V_below (Kd.V_elderB (pv HL391_0.out) gb393 (Nat.le_of_eq hg.symm)) hb); replace HR391_0 := am (Kd.C_below (pc HR391_0.out) hb); have BK393 := am (hbox); have GW393 := am (ge hg (bg1 HB.out GE390.out)); have GE393 := GW393; replace HB := am (below_step (bg1 HB.out GE390.out) hb); have NB390_393 := am (nb hg (pb BK390.out)); have NB393_390 := am (Ne.symm NB390_393.out); replace BK390 := am (blk_below (pb BK390.out) hb); clear hb hbox hg; have hnb60 := NB393_390.out; have hnc60 := NB390_393.out; obtain ⟨hcz61_0, hcz61_1, hcz61_2, hcz61_3, hcz61_4⟩ := b5 BK393.out; obtain ⟨hfz61_0, hfz61_1, hfz61_2, hfz61_3, hfz61_4⟩ := f5 BK393.out; have hcz62_0 : w59.cell? ⟨gb390, 0, none⟩ = some (.int .i64 ((rd_T30 ((rd_T33 t380 t386).f0) x6_2).f0)) := (blk_cell BK390.out 0).trans rfl; have hcz62_1 : w59.cell? ⟨gb390, 1, none⟩ = some (.int .i64 ((rd_T30 ((rd_T33 t380 t386).f0) x6_2).f1.f0)) := (blk_cell BK390.out 1).trans rfl; have hcz62_2 : w59.cell? ⟨gb390, 2, none⟩ = some (.int .i64 ((rd_T30 ((rd_T33 t380 t386).f0) x6_2).f1.f1)) := (blk_cell BK390.out 2).trans rfl; have hcz62_3 : w59.cell? ⟨gb390, 3, none⟩ = some (.int .i64 ((rd_T30 ((rd_T33 t380 t386).f0) x6_2).f1.f2)) := (blk_cell BK390.out 3).trans rfl; have hcz62_4 : w59.cell? ⟨gb390, 4, none⟩ = some (.int .i64 ((rd_T30 ((rd_T33 t380 t386).f0) x6_2).f1.f3)) := (blk_cell BK390.out 4).trans rfl; obtain ⟨hfz62_0, hfz62_1, hfz62_2, hfz62_3, hfz62_4⟩ := f5 BK390.out) | (go_at_call 8; (with_reducible refine (impl_FindLive.calls k4 _ _ t380 t386 x6_2 false _ ?side1 ?side2 A42.out).mono ?_); (case side1 => refine (Kd.V_reads' (e := 33) (base := w.heap.size) (ok := fun k_ => (k_ ≠ gb390 ∧ k_ ≠ gb393)) (n := t380.length) (c := co7) ?_).2.2; exact (pv ((Kd.V_mono (Kd.V_far (p := ⟨gb393, 4, none⟩) (Kd.V_far (p := ⟨gb393, 3, none⟩) (Kd.V_far (p := ⟨gb393, 2, none⟩) (Kd.V_far (p := ⟨gb393, 1, none⟩) (Kd.V_far (p := ⟨gb393, 0, none⟩) (Kd.V_mono HO_3.out (fun k_ hk => (⟨hk, hk.2⟩ : _ ∧ k_ ≠ gb393))) (fun _ hk => hk.2) (.int .i64 ((rd_T30 ((rd_T33 t380 x8_3).f0) x9_4).f0))) (fun _ hk => hk.2) (.int .i64 ((rd_T30 ((rd_T33 t380 x8_3).f0) x9_4).f1.f0))) (fun _ hk => hk.2) (.int .i64 ((rd_T30 ((rd_T33 t380 x8_3).f0) x9_4).f1.f1))) (fun _ hk => hk.2) (.int .i64 ((rd_T30 ((rd_T33 t380 x8_3).f0) x9_4).f1.f2))) (fun _ hk => hk.2) (.int .i64 ((rd_T30 ((rd_T33 t380 x8_3).f0) x9_4).f1.f3))) (fun _ h_ => h_.1))))); (case side2 => exact (Kd.V_reads' HO_3.out).2.1); rintro e w63 ⟨rfl, hb⟩; replace HO_3 := am (Kd.V_below (pv ((Kd.V_mono (Kd.V_far (p := ⟨gb393, 4, none⟩) (Kd.V_far (p := ⟨gb393, 3, none⟩) (Kd.V_far (p := ⟨gb393, 2, none⟩) (Kd.V_far (p := ⟨gb393, 1, none⟩) (Kd.V_far (p := ⟨gb393, 0, none⟩) (Kd.V_mono HO_3.out (fun k_ hk => (⟨hk, hk.2⟩ : _ ∧ k_ ≠ gb393))) (fun _ hk => hk.2) (.int .i64 ((rd_T30 ((rd_T33 t380 x8_3).f0) x9_4).f0))) (fun _ hk => hk.2) (.int .i64 ((rd_T30 ((rd_T33 t380 x8_3).f0) x9_4).f1.f0))) (fun _ hk => hk.2) (.int .i64 ((rd_T30 ((rd_T33 t380 x8_3).f0) x9_4).f1.f1))) (fun _ hk => hk.2) (.int .i64 ((rd_T30 ((rd_T33 t380 x8_3).f0) x9_4).f1.f2))) (fun _ hk => hk.2) (.int .i64 ((rd_T30 ((rd_T33 t380 x8_3).f0) x9_4).f1.f3))) (fun _ h_ => h_.1)))) hb); replace BK390 := am (blk_below (bf5 (pb BK390.out) NB390_393.out) hb); replace HR391_0 := am (Kd.C_below ((Kd.V_reads' (pv ((Kd.V_mono (Kd.V_far (p := ⟨gb393, 4, none⟩) (Kd.V_far (p := ⟨gb393, 3, none⟩) (Kd.V_far (p := ⟨gb393, 2, none⟩) (Kd.V_far (p := ⟨gb393, 1, none⟩) (Kd.V_far (p := ⟨gb393, 0, none⟩) (Kd.V_mono HL391_0.out (fun k_ hk => (⟨hk, hk.2⟩ : _ ∧ k_ ≠ gb393))) (fun _ hk => hk.2) (.int .i64 ((rd_T30 ((rd_T33 t380 x8_3).f0) x9_4).f0))) (fun _ hk => hk.2) (.int .i64 ((rd_T30 ((rd_T33 t380 x8_3).f0) x9_4).f1.f0))) (fun _ hk => hk.2) (.int .i64 ((rd_T30 ((rd_T33 t380 x8_3).f0) x9_4).f1.f1))) (fun _ hk => hk.2) (.int .i64 ((rd_T30 ((rd_T33 t380 x8_3).f0) x9_4).f1.f2))) (fun _ hk => hk.2) (.int .i64 ((rd_T30 ((rd_T33 t380 x8_3).f0) x9_4).f1.f3))) (fun _ h_ => h_.1))))).2.2) hb); replace HL391_0 := am (Kd.V_below (pv ((Kd.V_mono (Kd.V_far (p := ⟨gb393, 4, none⟩) (Kd.V_far (p := ⟨gb393, 3, none⟩) (Kd.V_far (p := ⟨gb393, 2, none⟩) (Kd.V_far (p := ⟨gb393, 1, none⟩) (Kd.V_far (p := ⟨gb393, 0, none⟩) (Kd.V_mono HL391_0.out (fun k_ hk => (⟨hk, hk.2⟩ : _ ∧ k_ ≠ gb393))) (fun _ hk => hk.2) (.int .i64 ((rd_T30 ((rd_T33 t380 x8_3).f0) x9_4).f0))) (fun _ hk => hk.2) (.int .i64 ((rd_T30 ((rd_T33 t380 x8_3).f0) x9_4).f1.f0))) (fun _ hk => hk.2) (.int .i64 ((rd_T30 ((rd_T33 t380 x8_3).f0) x9_4).f1.f1))) (fun _ hk => hk.2) (.int .i64 ((rd_T30 ((rd_T33 t380 x8_3).f0) x9_4).f1.f2))) (fun _ hk => hk.2) (.int .i64 ((rd_T30 ((rd_T33 t380 x8_3).f0) x9_4).f1.f3))) (fun _ h_ => h_.1)))) hb); replace BK393 := am (blk_below (bp5 (pb BK393.out)) hb); replace HB := am (below_step (bg2 HB.out GE390.out GE393.out) hb); clear hb))
           go_roundg k4
           case measure => have := HJ4.out; have := HK2.out; have := HK3.out; have := HK4.out; omega
           case rel => exact ⟨(wrap64 (x9_4 + 1)), rf, H', ⟨by have := HJ4.out; have := HK2.out; have := HK3.out; have := HK4.out; omega⟩, ⟨pv (Kd.V_mono HO_3.out (fun _ hk => hk.1))⟩, ⟨pb BK390.out⟩, ⟨bg2 HB.out GE390.out GE393.out⟩⟩
         subst c43
         rw [if_pos rfl] at H
         by_cases c44 : ((rd_T30 ((rd_T33 t380 x8_3).f0) x9_4).f1.f2) = ((rd_T30 ((rd_T33 t380 t386).f0) x6_2).f1.f2)
         · rw [if_pos c44] at H
           have c44b0 : (((rd_T30 ((rd_T33 t380 x8_3).f0) x9_4).f1.f2) == ((rd_T30 ((rd_T33 t380 t386).f0) x6_2).f1.f2)) = true := beq_iff_eq.mpr c44
           have c44b1 : (((rd_T30 ((rd_T33 t380 x8_3).f0) x9_4).f1.f2) != ((rd_T30 ((rd_T33 t380 t386).f0) x6_2).f1.f2)) = false := bne_eq_false_iff_eq.mpr c44
           clear c44
           obtain rfl := Option.some.inj H
           have p391 : 0 ≤ (x8_3 : Int) := ofb
           have q391 : x8_3 < (t380.length : Int) := ofb
           obtain ⟨ad391, A391_0, c391_0, e391, hx391_0, hx391_1, hl391_0, hi391_0⟩ := at_T33 (Kd.V_reads' HO_3.out).2.2 x8_3 p391 q391
           obtain rfl : ad388 = ad391 := (by injection e391)
           obtain ⟨ce391, hce391, hMe391, hcc391⟩ := Kd.V_get HO_3.out z33 x8_3 p391 (by first | exact q391 | exact ofb | (have e_ := (Kd.V_reads' HO_3.out).1; omega))
           obtain ⟨ua391_0, uc391_0, rfl, ul391_0, ge391_0⟩ := k33_openF hMe391
           have hv391_0 := hcc391 0 _ rfl
           rw [Nat.add_zero] at hv391_0
           replace hv391_0 := Option.some.inj (hv391_0.symm.trans hx391_0)
           injection hv391_0 with hva_ hvn_ hvc_
           rw [hva_] at ge391_0
           rw [hvc_] at ul391_0
           have HL391_0 := am (show Kd.V k30 30 _ w.heap.size _ _ ((rd_T33 t380 x8_3).f0) from Kd.V_mk ul391_0 ge391_0)
           clear hva_ hvn_ hvc_ ge391_0 ul391_0 hcc391 hce391
           have HR391_0 := am hi391_0
           have HC391_0 := am hl391_0
           clear hi391_0 hl391_0
           replace p391 := eq_true p391
           replace q391 := eq_true q391
           have p392 : 0 ≤ (x9_4 : Int) := ofb
           have q392 : x9_4 < (((rd_T33 t380 x8_3).f0).length : Int) := ofb
           obtain ⟨ad392, e392, hx392_0, hx392_1, hx392_2, hx392_3, hx392_4⟩ := at_T30 HR391_0.out x9_4 p392 q392
           cases e392
           replace p392 := eq_true p392
           replace q392 := eq_true q392
           go_wp2_with (first | ((with_reducible refine bx 10 #[.int .i64 0, .int .i64 0, .int .i64 0, .int .i64 0, .int .i64 0] 30 ?hd ?_ ?hg ?hrun); (case hd => rfl); (case hg => rfl); (case hrun => first | (go_simp; done) | (go_simp; rfl)); intro gb393 hg w45 hbox hb; replace HO_3 := am (Kd.V_below (Kd.V_elderB (pv HO_3.out) gb393 (Nat.le_of_eq hg.symm)) hb); replace HL391_0 := am (Kd.V_below (Kd.V_elderB (pv HL391_0.out) gb393 (Nat.le_of_eq hg.symm)) hb); replace HR391_0 := am (Kd.C_below (pc HR391_0.out) hb); have BK393 := am (hbox); have GW393 := am (ge hg (bg1 HB.out GE390.out)); have GE393 := GW393; replace HB := am (below_step (bg1 HB.out GE390.out) hb); have NB390_393 := am (nb hg (pb BK390.out)); have NB393_390 := am (Ne.symm NB390_393.out); replace BK390 := am (blk_below (pb BK390.out) hb); clear hb hbox hg; have hnb46 := NB393_390.out; have hnc46 := NB390_393.out; obtain ⟨hcz47_0, hcz47_1, hcz47_2, hcz47_3, hcz47_4⟩ := b5 BK393.out; obtain ⟨hfz47_0, hfz47_1, hfz47_2, hfz47_3, hfz47_4⟩ := f5 BK393.out; have hcz48_0 : w45.cell? ⟨gb390, 0, none⟩ = some (.int .i64 ((rd_T30 ((rd_T33 t380 t386).f0) x6_2).f0)) := (blk_cell BK390.out 0).trans rfl; have hcz48_1 : w45.cell? ⟨gb390, 1, none⟩ = some (.int .i64 ((rd_T30 ((rd_T33 t380 t386).f0) x6_2).f1.f0)) := (blk_cell BK390.out 1).trans rfl; have hcz48_2 : w45.cell? ⟨gb390, 2, none⟩ = some (.int .i64 ((rd_T30 ((rd_T33 t380 t386).f0) x6_2).f1.f1)) := (blk_cell BK390.out 2).trans rfl; have hcz48_3 : w45.cell? ⟨gb390, 3, none⟩ = some (.int .i64 ((rd_T30 ((rd_T33 t380 t386).f0) x6_2).f1.f2)) := (blk_cell BK390.out 3).trans rfl; have hcz48_4 : w45.cell? ⟨gb390, 4, none⟩ = some (.int .i64 ((rd_T30 ((rd_T33 t380 t386).f0) x6_2).f1.f3)) := (blk_cell BK390.out 4).trans rfl; obtain ⟨hfz48_0, hfz48_1, hfz48_2, hfz48_3, hfz48_4⟩ := f5 BK390.out) | (go_at_call 8; (with_reducible refine (impl_FindLive.calls k4 _ _ t380 t386 x6_2 true _ ?side1 ?side2 A42.out).mono ?_); (case side1 => refine (Kd.V_reads' (e := 33) (base := w.heap.size) (ok := fun k_ => (k_ ≠ gb390 ∧ k_ ≠ gb393)) (n := t380.length) (c := co7) ?_).2.2; exact (pv ((Kd.V_mono (Kd.V_far (p := ⟨gb393, 4, none⟩) (Kd.V_far (p := ⟨gb393, 3, none⟩) (Kd.V_far (p := ⟨gb393, 2, none⟩) (Kd.V_far (p := ⟨gb393, 1, none⟩) (Kd.V_far (p := ⟨gb393, 0, none⟩) (Kd.V_mono HO_3.out (fun k_ hk => (⟨hk, hk.2⟩ : _ ∧ k_ ≠ gb393))) (fun _ hk => hk.2) (.int .i64 ((rd_T30 ((rd_T33 t380 x8_3).f0) x9_4).f0))) (fun _ hk => hk.2) (.int .i64 ((rd_T30 ((rd_T33 t380 x8_3).f0) x9_4).f1.f0))) (fun _ hk => hk.2) (.int .i64 ((rd_T30 ((rd_T33 t380 x8_3).f0) x9_4).f1.f1))) (fun _ hk => hk.2) (.int .i64 ((rd_T30 ((rd_T33 t380 x8_3).f0) x9_4).f1.f2))) (fun _ hk => hk.2) (.int .i64 ((rd_T30 ((rd_T33 t380 x8_3).f0) x9_4).f1.f3))) (fun _ h_ => h_.1))))); (case side2 => exact (Kd.V_reads' HO_3.out).2.1); rintro e w49 ⟨rfl, hb⟩; replace HO_3 := am (Kd.V_below (pv ((Kd.V_mono (Kd.V_far (p := ⟨gb393, 4, none⟩) (Kd.V_far (p := ⟨gb393, 3, none⟩) (Kd.V_far (p := ⟨gb393, 2, none⟩) (Kd.V_far (p := ⟨gb393, 1, none⟩) (Kd.V_far (p := ⟨gb393, 0, none⟩) (Kd.V_mono HO_3.out (fun k_ hk => (⟨hk, hk.2⟩ : _ ∧ k_ ≠ gb393))) (fun _ hk => hk.2) (.int .i64 ((rd_T30 ((rd_T33 t380 x8_3).f0) x9_4).f0))) (fun _ hk => hk.2) (.int .i64 ((rd_T30 ((rd_T33 t380 x8_3).f0) x9_4).f1.f0))) (fun _ hk => hk.2) (.int .i64 ((rd_T30 ((rd_T33 t380 x8_3).f0) x9_4).f1.f1))) (fun _ hk => hk.2) (.int .i64 ((rd_T30 ((rd_T33 t380 x8_3).f0) x9_4).f1.f2))) (fun _ hk => hk.2) (.int .i64 ((rd_T30 ((rd_T33 t380 x8_3).f0) x9_4).f1.f3))) (fun _ h_ => h_.1)))) hb); replace BK390 := am (blk_below (bf5 (pb BK390.out) NB390_393.out) hb); replace HR391_0 := am (Kd.C_below ((Kd.V_reads' (pv ((Kd.V_mono (Kd.V_far (p := ⟨gb393, 4, none⟩) (Kd.V_far (p := ⟨gb393, 3, none⟩) (Kd.V_far (p := ⟨gb393, 2, none⟩) (Kd.V_far (p := ⟨gb393, 1, none⟩) (Kd.V_far (p := ⟨gb393, 0, none⟩) (Kd.V_mono HL391_0.out (fun k_ hk => (⟨hk, hk.2⟩ : _ ∧ k_ ≠ gb393))) (fun _ hk => hk.2) (.int .i64 ((rd_T30 ((rd_T33 t380 x8_3).f0) x9_4).f0))) (fun _ hk => hk.2) (.int .i64 ((rd_T30 ((rd_T33 t380 x8_3).f0) x9_4).f1.f0))) (fun _ hk => hk.2) (.int .i64 ((rd_T30 ((rd_T33 t380 x8_3).f0) x9_4).f1.f1))) (fun _ hk => hk.2) (.int .i64 ((rd_T30 ((rd_T33 t380 x8_3).f0) x9_4).f1.f2))) (fun _ hk => hk.2) (.int .i64 ((rd_T30 ((rd_T33 t380 x8_3).f0) x9_4).f1.f3))) (fun _ h_ => h_.1))))).2.2) hb); replace HL391_0 := am (Kd.V_below (pv ((Kd.V_mono (Kd.V_far (p := ⟨gb393, 4, none⟩) (Kd.V_far (p := ⟨gb393, 3, none⟩) (Kd.V_far (p := ⟨gb393, 2, none⟩) (Kd.V_far (p := ⟨gb393, 1, none⟩) (Kd.V_far (p := ⟨gb393, 0, none⟩) (Kd.V_mono HL391_0.out (fun k_ hk => (⟨hk, hk.2⟩ : _ ∧ k_ ≠ gb393))) (fun _ hk => hk.2) (.int .i64 ((rd_T30 ((rd_T33 t380 x8_3).f0) x9_4).f0))) (fun _ hk => hk.2) (.int .i64 ((rd_T30 ((rd_T33 t380 x8_3).f0) x9_4).f1.f0))) (fun _ hk => hk.2) (.int .i64 ((rd_T30 ((rd_T33 t380 x8_3).f0) x9_4).f1.f1))) (fun _ hk => hk.2) (.int .i64 ((rd_T30 ((rd_T33 t380 x8_3).f0) x9_4).f1.f2))) (fun _ hk => hk.2) (.int .i64 ((rd_T30 ((rd_T33 t380 x8_3).f0) x9_4).f1.f3))) (fun _ h_ => h_.1)))) hb); replace BK393 := am (blk_below (bp5 (pb BK393.out)) hb); replace HB := am (below_step (bg2 HB.out GE390.out GE393.out) hb); clear hb; have hcz50_0 : w49.cell? ⟨gb393, 0, none⟩ = some (.int .i64 ((rd_T30 ((rd_T33 t380 x8_3).f0) x9_4).f0)) := (blk_cell BK393.out 0).trans rfl; have hcz50_1 : w49.cell? ⟨gb393, 1, none⟩ = some (.int .i64 ((rd_T30 ((rd_T33 t380 x8_3).f0) x9_4).f1.f0)) := (blk_cell BK393.out 1).trans rfl; have hcz50_2 : w49.cell? ⟨gb393, 2, none⟩ = some (.int .i64 ((rd_T30 ((rd_T33 t380 x8_3).f0) x9_4).f1.f1)) := (blk_cell BK393.out 2).trans rfl; have hcz50_3 : w49.cell? ⟨gb393, 3, none⟩ = some (.int .i64 ((rd_T30 ((rd_T33 t380 x8_3).f0) x9_4).f1.f2)) := (blk_cell BK393.out 3).trans rfl; have hcz50_4 : w49.cell? ⟨gb393, 4, none⟩ = some (.int .i64 ((rd_T30 ((rd_T33 t380 x8_3).f0) x9_4).f1.f3)) := (blk_cell BK393.out 4).trans rfl; obtain ⟨hfz50_0, hfz50_1, hfz50_2, hfz50_3, hfz50_4⟩ := f5 BK393.out; have hcz51_0 : w49.cell? ⟨gb390, 0, none⟩ = some (.int .i64 ((rd_T30 ((rd_T33 t380 t386).f0) x6_2).f0)) := (blk_cell BK390.out 0).trans rfl; have hcz51_1 : w49.cell? ⟨gb390, 1, none⟩ = some (.int .i64 ((rd_T30 ((rd_T33 t380 t386).f0) x6_2).f1.f0)) := (blk_cell BK390.out 1).trans rfl; have hcz51_2 : w49.cell? ⟨gb390, 2, none⟩ = some (.int .i64 ((rd_T30 ((rd_T33 t380 t386).f0) x6_2).f1.f1)) := (blk_cell BK390.out 2).trans rfl; have hcz51_3 : w49.cell? ⟨gb390, 3, none⟩ = some (.int .i64 ((rd_T30 ((rd_T33 t380 t386).f0) x6_2).f1.f2)) := (blk_cell BK390.out 3).trans rfl; have hcz51_4 : w49.cell? ⟨gb390, 4, none⟩ = some (.int .i64 ((rd_T30 ((rd_T33 t380 t386).f0) x6_2).f1.f3)) := (blk_cell BK390.out 4).trans rfl; obtain ⟨hfz51_0, hfz51_1, hfz51_2, hfz51_3, hfz51_4⟩ := f5 BK390.out))
           go_ret
           exact (rq (bg2 HB.out GE390.out GE393.out))
         rw [if_neg c44] at H
         have c44b0 : (((rd_T30 ((rd_T33 t380 x8_3).f0) x9_4).f1.f2) == ((rd_T30 ((rd_T33 t380 t386).f0) x6_2).f1.f2)) = false := beq_eq_false_iff_ne.mpr c44
         have c44b1 : (((rd_T30 ((rd_T33 t380 x8_3).f0) x9_4).f1.f2) != ((rd_T30 ((rd_T33 t380 t386).f0) x6_2).f1.f2)) = true := bne_iff_ne.mpr c44
         have H' := am H
         clear H
         have p391 : 0 ≤ (x8_3 : Int) := ofb
         have q391 : x8_3 < (t380.length : Int) := ofb
         obtain ⟨ad391, A391_0, c391_0, e391, hx391_0, hx391_1, hl391_0, hi391_0⟩ := at_T33 (Kd.V_reads' HO_3.out).2.2 x8_3 p391 q391
         obtain rfl : ad388 = ad391 := (by injection e391)
         obtain ⟨ce391, hce391, hMe391, hcc391⟩ := Kd.V_get HO_3.out z33 x8_3 p391 (by first | exact q391 | exact ofb | (have e_ := (Kd.V_reads' HO_3.out).1; omega))
         obtain ⟨ua391_0, uc391_0, rfl, ul391_0, ge391_0⟩ := k33_openF hMe391
         have hv391_0 := hcc391 0 _ rfl
         rw [Nat.add_zero] at hv391_0
         replace hv391_0 := Option.some.inj (hv391_0.symm.trans hx391_0)
         injection hv391_0 with hva_ hvn_ hvc_
         rw [hva_] at ge391_0
         rw [hvc_] at ul391_0
         have HL391_0 := am (show Kd.V k30 30 _ w.heap.size _ _ ((rd_T33 t380 x8_3).f0) from Kd.V_mk ul391_0 ge391_0)
         clear hva_ hvn_ hvc_ ge391_0 ul391_0 hcc391 hce391
         have HR391_0 := am hi391_0
         have HC391_0 := am hl391_0
         clear hi391_0 hl391_0
         replace p391 := eq_true p391
         replace q391 := eq_true q391
         have p392 : 0 ≤ (x9_4 : Int) := ofb
         have q392 : x9_4 < (((rd_T33 t380 x8_3).f0).length : Int) := ofb
         obtain ⟨ad392, e392, hx392_0, hx392_1, hx392_2, hx392_3, hx392_4⟩ := at_T30 HR391_0.out x9_4 p392 q392
         cases e392
         replace p392 := eq_true p392
         replace q392 := eq_true q392
         go_wp2_with (first | ((with_reducible refine bx 10 #[.int .i64 0, .int .i64 0, .int .i64 0, .int .i64 0, .int .i64 0] 30 ?hd ?_ ?hg ?hrun); (case hd => rfl); (case hg => rfl); (case hrun => first | (go_simp; done) | (go_simp; rfl)); intro gb393 hg w52 hbox hb; replace HO_3 := am (Kd.V_below (Kd.V_elderB (pv HO_3.out) gb393 (Nat.le_of_eq hg.symm)) hb); replace HL391_0 := am (Kd.V_below (Kd.V_elderB (pv HL391_0.out) gb393 (Nat.le_of_eq hg.symm)) hb); replace HR391_0 := am (Kd.C_below (pc HR391_0.out) hb); have BK393 := am (hbox); have GW393 := am (ge hg (bg1 HB.out GE390.out)); have GE393 := GW393; replace HB := am (below_step (bg1 HB.out GE390.out) hb); have NB390_393 := am (nb hg (pb BK390.out)); have NB393_390 := am (Ne.symm NB390_393.out); replace BK390 := am (blk_below (pb BK390.out) hb); clear hb hbox hg; have hnb53 := NB393_390.out; have hnc53 := NB390_393.out; obtain ⟨hcz54_0, hcz54_1, hcz54_2, hcz54_3, hcz54_4⟩ := b5 BK393.out; obtain ⟨hfz54_0, hfz54_1, hfz54_2, hfz54_3, hfz54_4⟩ := f5 BK393.out; have hcz55_0 : w52.cell? ⟨gb390, 0, none⟩ = some (.int .i64 ((rd_T30 ((rd_T33 t380 t386).f0) x6_2).f0)) := (blk_cell BK390.out 0).trans rfl; have hcz55_1 : w52.cell? ⟨gb390, 1, none⟩ = some (.int .i64 ((rd_T30 ((rd_T33 t380 t386).f0) x6_2).f1.f0)) := (blk_cell BK390.out 1).trans rfl; have hcz55_2 : w52.cell? ⟨gb390, 2, none⟩ = some (.int .i64 ((rd_T30 ((rd_T33 t380 t386).f0) x6_2).f1.f1)) := (blk_cell BK390.out 2).trans rfl; have hcz55_3 : w52.cell? ⟨gb390, 3, none⟩ = some (.int .i64 ((rd_T30 ((rd_T33 t380 t386).f0) x6_2).f1.f2)) := (blk_cell BK390.out 3).trans rfl; have hcz55_4 : w52.cell? ⟨gb390, 4, none⟩ = some (.int .i64 ((rd_T30 ((rd_T33 t380 t386).f0) x6_2).f1.f3)) := (blk_cell BK390.out 4).trans rfl; obtain ⟨hfz55_0, hfz55_1, hfz55_2, hfz55_3, hfz55_4⟩ := f5 BK390.out) | (go_at_call 8; (with_reducible refine (impl_FindLive.calls k4 _ _ t380 t386 x6_2 true _ ?side1 ?side2 A42.out).mono ?_); (case side1 => refine (Kd.V_reads' (e := 33) (base := w.heap.size) (ok := fun k_ => (k_ ≠ gb390 ∧ k_ ≠ gb393)) (n := t380.length) (c := co7) ?_).2.2; exact (pv ((Kd.V_mono (Kd.V_far (p := ⟨gb393, 4, none⟩) (Kd.V_far (p := ⟨gb393, 3, none⟩) (Kd.V_far (p := ⟨gb393, 2, none⟩) (Kd.V_far (p := ⟨gb393, 1, none⟩) (Kd.V_far (p := ⟨gb393, 0, none⟩) (Kd.V_mono HO_3.out (fun k_ hk => (⟨hk, hk.2⟩ : _ ∧ k_ ≠ gb393))) (fun _ hk => hk.2) (.int .i64 ((rd_T30 ((rd_T33 t380 x8_3).f0) x9_4).f0))) (fun _ hk => hk.2) (.int .i64 ((rd_T30 ((rd_T33 t380 x8_3).f0) x9_4).f1.f0))) (fun _ hk => hk.2) (.int .i64 ((rd_T30 ((rd_T33 t380 x8_3).f0) x9_4).f1.f1))) (fun _ hk => hk.2) (.int .i64 ((rd_T30 ((rd_T33 t380 x8_3).f0) x9_4).f1.f2))) (fun _ hk => hk.2) (.int .i64 ((rd_T30 ((rd_T33 t380 x8_3).f0) x9_4).f1.f3))) (fun _ h_ => h_.1))))); (case side2 => exact (Kd.V_reads' HO_3.out).2.1); rintro e w56 ⟨rfl, hb⟩; replace HO_3 := am (Kd.V_below (pv ((Kd.V_mono (Kd.V_far (p := ⟨gb393, 4, none⟩) (Kd.V_far (p := ⟨gb393, 3, none⟩) (Kd.V_far (p := ⟨gb393, 2, none⟩) (Kd.V_far (p := ⟨gb393, 1, none⟩) (Kd.V_far (p := ⟨gb393, 0, none⟩) (Kd.V_mono HO_3.out (fun k_ hk => (⟨hk, hk.2⟩ : _ ∧ k_ ≠ gb393))) (fun _ hk => hk.2) (.int .i64 ((rd_T30 ((rd_T33 t380 x8_3).f0) x9_4).f0))) (fun _ hk => hk.2) (.int .i64 ((rd_T30 ((rd_T33 t380 x8_3).f0) x9_4).f1.f0))) (fun _ hk => hk.2) (.int .i64 ((rd_T30 ((rd_T33 t380 x8_3).f0) x9_4).f1.f1))) (fun _ hk => hk.2) (.int .i64 ((rd_T30 ((rd_T33 t380 x8_3).f0) x9_4).f1.f2))) (fun _ hk => hk.2) (.int .i64 ((rd_T30 ((rd_T33 t380 x8_3).f0) x9_4).f1.f3))) (fun _ h_ => h_.1)))) hb); replace BK390 := am (blk_below (bf5 (pb BK390.out) NB390_393.out) hb); replace HR391_0 := am (Kd.C_below ((Kd.V_reads' (pv ((Kd.V_mono (Kd.V_far (p := ⟨gb393, 4, none⟩) (Kd.V_far (p := ⟨gb393, 3, none⟩) (Kd.V_far (p := ⟨gb393, 2, none⟩) (Kd.V_far (p := ⟨gb393, 1, none⟩) (Kd.V_far (p := ⟨gb393, 0, none⟩) (Kd.V_mono HL391_0.out (fun k_ hk => (⟨hk, hk.2⟩ : _ ∧ k_ ≠ gb393))) (fun _ hk => hk.2) (.int .i64 ((rd_T30 ((rd_T33 t380 x8_3).f0) x9_4).f0))) (fun _ hk => hk.2) (.int .i64 ((rd_T30 ((rd_T33 t380 x8_3).f0) x9_4).f1.f0))) (fun _ hk => hk.2) (.int .i64 ((rd_T30 ((rd_T33 t380 x8_3).f0) x9_4).f1.f1))) (fun _ hk => hk.2) (.int .i64 ((rd_T30 ((rd_T33 t380 x8_3).f0) x9_4).f1.f2))) (fun _ hk => hk.2) (.int .i64 ((rd_T30 ((rd_T33 t380 x8_3).f0) x9_4).f1.f3))) (fun _ h_ => h_.1))))).2.2) hb); replace HL391_0 := am (Kd.V_below (pv ((Kd.V_mono (Kd.V_far (p := ⟨gb393, 4, none⟩) (Kd.V_far (p := ⟨gb393, 3, none⟩) (Kd.V_far (p := ⟨gb393, 2, none⟩) (Kd.V_far (p := ⟨gb393, 1, none⟩) (Kd.V_far (p := ⟨gb393, 0, none⟩) (Kd.V_mono HL391_0.out (fun k_ hk => (⟨hk, hk.2⟩ : _ ∧ k_ ≠ gb393))) (fun _ hk => hk.2) (.int .i64 ((rd_T30 ((rd_T33 t380 x8_3).f0) x9_4).f0))) (fun _ hk => hk.2) (.int .i64 ((rd_T30 ((rd_T33 t380 x8_3).f0) x9_4).f1.f0))) (fun _ hk => hk.2) (.int .i64 ((rd_T30 ((rd_T33 t380 x8_3).f0) x9_4).f1.f1))) (fun _ hk => hk.2) (.int .i64 ((rd_T30 ((rd_T33 t380 x8_3).f0) x9_4).f1.f2))) (fun _ hk => hk.2) (.int .i64 ((rd_T30 ((rd_T33 t380 x8_3).f0) x9_4).f1.f3))) (fun _ h_ => h_.1)))) hb); replace BK393 := am (blk_below (bp5 (pb BK393.out)) hb); replace HB := am (below_step (bg2 HB.out GE390.out GE393.out) hb); clear hb; have hcz57_0 : w56.cell? ⟨gb393, 0, none⟩ = some (.int .i64 ((rd_T30 ((rd_T33 t380 x8_3).f0) x9_4).f0)) := (blk_cell BK393.out 0).trans rfl; have hcz57_1 : w56.cell? ⟨gb393, 1, none⟩ = some (.int .i64 ((rd_T30 ((rd_T33 t380 x8_3).f0) x9_4).f1.f0)) := (blk_cell BK393.out 1).trans rfl; have hcz57_2 : w56.cell? ⟨gb393, 2, none⟩ = some (.int .i64 ((rd_T30 ((rd_T33 t380 x8_3).f0) x9_4).f1.f1)) := (blk_cell BK393.out 2).trans rfl; have hcz57_3 : w56.cell? ⟨gb393, 3, none⟩ = some (.int .i64 ((rd_T30 ((rd_T33 t380 x8_3).f0) x9_4).f1.f2)) := (blk_cell BK393.out 3).trans rfl; have hcz57_4 : w56.cell? ⟨gb393, 4, none⟩ = some (.int .i64 ((rd_T30 ((rd_T33 t380 x8_3).f0) x9_4).f1.f3)) := (blk_cell BK393.out 4).trans rfl; obtain ⟨hfz57_0, hfz57_1, hfz57_2, hfz57_3, hfz57_4⟩ := f5 BK393.out; have hcz58_0 : w56.cell? ⟨gb390, 0, none⟩ = some (.int .i64 ((rd_T30 ((rd_T33 t380 t386).f0) x6_2).f0)) := (blk_cell BK390.out 0).trans rfl; have hcz58_1 : w56.cell? ⟨gb390, 1, none⟩ = some (.int .i64 ((rd_T30 ((rd_T33 t380 t386).f0) x6_2).f1.f0)) := (blk_cell BK390.out 1).trans rfl; have hcz58_2 : w56.cell? ⟨gb390, 2, none⟩ = some (.int .i64 ((rd_T30 ((rd_T33 t380 t386).f0) x6_2).f1.f1)) := (blk_cell BK390.out 2).trans rfl; have hcz58_3 : w56.cell? ⟨gb390, 3, none⟩ = some (.int .i64 ((rd_T30 ((rd_T33 t380 t386).f0) x6_2).f1.f2)) := (blk_cell BK390.out 3).trans rfl; have hcz58_4 : w56.cell? ⟨gb390, 4, none⟩ = some (.int .i64 ((rd_T30 ((rd_T33 t380 t386).f0) x6_2).f1.f3)) := (blk_cell BK390.out 4).trans rfl; obtain ⟨hfz58_0, hfz58_1, hfz58_2, hfz58_3, hfz58_4⟩ := f5 BK390.out))
         go_roundg k4
         case measure => have := HJ4.out; have := HK2.out; have := HK3.out; have := HK4.out; omega
         case rel => exact ⟨(wrap64 (x9_4 + 1)), rf, H', ⟨by have := HJ4.out; have := HK2.out; have := HK3.out; have := HK4.out; omega⟩, ⟨pv (Kd.V_mono HO_3.out (fun _ hk => hk.1))⟩, ⟨pb BK390.out⟩, ⟨bg2 HB.out GE390.out GE393.out⟩⟩
def laws_FnOldLast.Pure : Prop := ∀ (l0 : List Int), l0.length ≤ maxLen → l0.length * 1 ≤ 140737488351232 → (∀ x ∈ l0, (Lit.int .u8 x).wf = true) → ∃ k, laws_FnOldLast.f k l0 = some true
theorem laws_FnOldLast.walk (P : laws_FnOldLast.Pure) (a0 : Option Addr) (len0 cap0 : Nat) (z0 : List Int) (w : World) (w0 : (a0 = none ∧ len0 = 0 ∧ cap0 = 0 ∧ z0 = []) ∨ ∃ x, a0 = some x ∧ len0 ≤ cap0 ∧ cap0 ≤ maxLen ∧ z0.length = cap0 ∧ (∀ i, i < z0.length → w.cell? (x.add i) = some (.int .u8 (z0.getD i 0))) ∧ ∀ n ∈ z0, (Lit.int .u8 n).wf = true) (y0 : len0 * 1 ≤ 140737488351232) :
 Calls Try.prog 3 #[.slice a0 len0 cap0] w fun e w' => e = .returned (.bool true) ∧ Below w.heap.size w w' := by
 obtain ⟨l0, rfl, hr0, hm0, hw0, hc0⟩ := ReadsInt.ofRowC w0
 obtain ⟨k, h⟩ := P l0 hm0 y0 hw0
 refine (laws_FnOldLast.calls k _ _ l0 true w (Kd.C_of_reads (d := (0 : Int)) (h1 := fun _ => rfl) hr0) hc0 h).mono ?_
 rintro e w' ⟨rfl, hd⟩
 exact ⟨rfl, hd⟩
end Go.Proofs.Ytkgedhalodehgaa.R1
