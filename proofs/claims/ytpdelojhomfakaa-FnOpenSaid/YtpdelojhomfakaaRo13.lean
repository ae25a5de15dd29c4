-- printed by wip/pp/pp.py
import Derived.Test.YtpdelojhomfakaaRo0
import Derived.Test.YtpdelojhomfakaaRo9
import Derived.Test.YtpdelojhomfakaaRo10
import Derived.Test.YtpdelojhomfakaaRo12
namespace Go.Proofs.Ytpdelojhomfakaa.Ro
open Go.RowKit Go.Proofs.YtpdelojhomfakaaW.PrintWords Go.Proofs.YtpdelojhomfakaaW.PrintLast Go.Proofs.YtpdelojhomfakaaW.PrintMore
attribute [local go_sem] max2_int min2_int max_two min_two max_three min_three max_four min_four
set_option linter.unusedVariables false
set_option linter.unusedSimpArgs false
mutual
def laws_FnOpen.j0 : Nat → List (S31) → Int → Bool → Int → Bool → Bool → Option (Bool)
 | 0, _, _, _, _, _, _ => none
 | k + 1, x3, x4, x5, x6, x7, x39 => if x39 = true then (if (x7 == x5) = true then (some (x6 == x4)) else (some false)) else (laws_FnOpen.l0 k x3 x6 x7 0 0)
def laws_FnOpen.l0 : Nat → List (S31) → Int → Bool → Int → Int → Option (Bool)
 | 0, _, _, _, _, _ => none
 | k + 1, x3, x6, x7, x8, x9 => if x9 < (x3.length : Int) then ((impl_FlashClean.f k x3 x9).bind fun t425 => (if x7 = true then (if t425 > 0 then (if t425 < 4 then (some (x6 == x9)) else (laws_FnOpen.l0 k x3 x6 x7 (wrap64 (x8 + t425)) (wrap64 (x9 + 1)))) else (laws_FnOpen.l0 k x3 x6 x7 (wrap64 (x8 + t425)) (wrap64 (x9 + 1)))) else (laws_FnOpen.l0 k x3 x6 x7 (wrap64 (x8 + t425)) (wrap64 (x9 + 1))))) else (laws_FnOpen.l1 k x3 x6 x7 x8 0)
def laws_FnOpen.l1 : Nat → List (S31) → Int → Bool → Int → Int → Option (Bool)
 | 0, _, _, _, _, _ => none
 | k + 1, x3, x6, x7, x8, x11 => if x7 = true then (laws_FnOpen.j3 k x3 x6 x7 x8 x11 (decide (x11 < (x3.length : Int)))) else (laws_FnOpen.j3 k x3 x6 x7 x8 x11 false)
def laws_FnOpen.j3 : Nat → List (S31) → Int → Bool → Int → Int → Bool → Option (Bool)
 | 0, _, _, _, _, _, _ => none
 | k + 1, x3, x6, x7, x8, x11, x78 => if x78 = true then ((impl_FlashClean.f k x3 x11).bind fun t426 => (if t426 = 4 then (if 0 ≤ x11 then (if x11 < (x3.length : Int) then (if 0 ≤ x6 then (if x6 < (x3.length : Int) then (if ((rd_T31 x3 x11).f1) < ((rd_T31 x3 x6).f1) then (some false) else (if x11 < x6 then (if ((rd_T31 x3 x11).f1) = ((rd_T31 x3 x6).f1) then (some false) else (laws_FnOpen.l1 k x3 x6 x7 x8 (wrap64 (x11 + 1)))) else (laws_FnOpen.l1 k x3 x6 x7 x8 (wrap64 (x11 + 1))))) else (none)) else (none)) else (none)) else (none)) else (laws_FnOpen.l1 k x3 x6 x7 x8 (wrap64 (x11 + 1))))) else (some (x7 == (decide (x8 > 0))))
end
def laws_FnOpen.f (k : Nat) (l0 : List Int) : Option (Bool) := if (l0.length : Int) > 1048576 then (some true) else ((spec_DrawFindOpen.f k l0).bind fun t417 => ((spec_FindOpen.f k t417).bind fun bt420 => ((impl_FindOpen.f k t417).bind fun bt422 => (if (bt422.2 != bt420.2) = true then (laws_FnOpen.j0 k t417 bt420.1 bt420.2 bt422.1 bt422.2 true) else (if bt422.1 = bt420.1 then ((spec_FlashOk.f t417).bind fun t424 => (laws_FnOpen.j0 k t417 bt420.1 bt420.2 bt422.1 bt422.2 (!t424))) else (laws_FnOpen.j0 k t417 bt420.1 bt420.2 bt422.1 bt422.2 true))))))
theorem laws_FnOpen.mono_l : ∀ k, (∀ y0 y1 y2 y3 y4 y5, LeO (laws_FnOpen.j0 k y0 y1 y2 y3 y4 y5) (laws_FnOpen.j0 (k + 1) y0 y1 y2 y3 y4 y5)) ∧ (∀ y0 y1 y2 y3 y4, LeO (laws_FnOpen.l0 k y0 y1 y2 y3 y4) (laws_FnOpen.l0 (k + 1) y0 y1 y2 y3 y4)) ∧ (∀ y0 y1 y2 y3 y4, LeO (laws_FnOpen.l1 k y0 y1 y2 y3 y4) (laws_FnOpen.l1 (k + 1) y0 y1 y2 y3 y4)) ∧ (∀ y0 y1 y2 y3 y4 y5, LeO (laws_FnOpen.j3 k y0 y1 y2 y3 y4 y5) (laws_FnOpen.j3 (k + 1) y0 y1 y2 y3 y4 y5))
 | 0 => ⟨fun _ _ _ _ _ _ r h => by simp [laws_FnOpen.j0] at h, fun _ _ _ _ _ r h => by simp [laws_FnOpen.l0] at h, fun _ _ _ _ _ r h => by simp [laws_FnOpen.l1] at h, fun _ _ _ _ _ _ r h => by simp [laws_FnOpen.j3] at h⟩
 | k + 1 => by
  obtain ⟨ih0, ih1, ih2, ih3⟩ := laws_FnOpen.mono_l k
  refine ⟨?_, ?_, ?_, ?_⟩
  · intro y0 y1 y2 y3 y4 y5
    unfold laws_FnOpen.j0
    repeat' first
    | (with_reducible exact ih0 _ _ _ _ _ _)
    | (with_reducible exact ih1 _ _ _ _ _)
    | (with_reducible exact ih2 _ _ _ _ _)
    | (with_reducible exact ih3 _ _ _ _ _ _)
    | (with_reducible exact impl_FindOpen.mono _ _)
    | (with_reducible exact impl_FlashClean.mono _ _ _)
    | (with_reducible exact spec_DrawFindOpen.mono _ _)
    | (with_reducible exact spec_FindOpen.mono _ _)
    | (with_reducible exact LeO.refl _)
    | (with_reducible exact LeO.none _)
    | (with_reducible refine LeO.ite ?_ ?_)
    | (with_reducible refine LeO.bind ?_ (fun _ => ?_))
    | exact ih0 _ _ _ _ _ _
    | exact ih1 _ _ _ _ _
    | exact ih2 _ _ _ _ _
    | exact ih3 _ _ _ _ _ _
    | exact impl_FindOpen.mono _ _
    | exact impl_FlashClean.mono _ _ _
    | exact spec_DrawFindOpen.mono _ _
    | exact spec_FindOpen.mono _ _
    | exact LeO.none _
    | refine LeO.ite ?_ ?_
    | refine LeO.bind ?_ (fun _ => ?_)
  · intro y0 y1 y2 y3 y4
    unfold laws_FnOpen.l0
    repeat' first
    | (with_reducible exact ih0 _ _ _ _ _ _)
    | (with_reducible exact ih1 _ _ _ _ _)
    | (with_reducible exact ih2 _ _ _ _ _)
    | (with_reducible exact ih3 _ _ _ _ _ _)
    | (with_reducible exact impl_FindOpen.mono _ _)
    | (with_reducible exact impl_FlashClean.mono _ _ _)
    | (with_reducible exact spec_DrawFindOpen.mono _ _)
    | (with_reducible exact spec_FindOpen.mono _ _)
    | (with_reducible exact LeO.refl _)
    | (with_reducible exact LeO.none _)
    | (with_reducible refine LeO.ite ?_ ?_)
    | (with_reducible refine LeO.bind ?_ (fun _ => ?_))
    | exact ih0 _ _ _ _ _ _
    | exact ih1 _ _ _ _ _
    | exact ih2 _ _ _ _ _
    | exact ih3 _ _ _ _ _ _
    | exact impl_FindOpen.mono _ _
    | exact impl_FlashClean.mono _ _ _
    | exact spec_DrawFindOpen.mono _ _
    | exact spec_FindOpen.mono _ _
    | exact LeO.none _
    | refine LeO.ite ?_ ?_
    | refine LeO.bind ?_ (fun _ => ?_)
  · intro y0 y1 y2 y3 y4
    unfold laws_FnOpen.l1
    repeat' first
    | (with_reducible exact ih0 _ _ _ _ _ _)
    | (with_reducible exact ih1 _ _ _ _ _)
    | (with_reducible exact ih2 _ _ _ _ _)
    | (with_reducible exact ih3 _ _ _ _ _ _)
    | (with_reducible exact impl_FindOpen.mono _ _)
    | (with_reducible exact impl_FlashClean.mono _ _ _)
    | (with_reducible exact spec_DrawFindOpen.mono _ _)
    | (with_reducible exact spec_FindOpen.mono _ _)
    | (with_reducible exact LeO.refl _)
    | (with_reducible exact LeO.none _)
    | (with_reducible refine LeO.ite ?_ ?_)
    | (with_reducible refine LeO.bind ?_ (fun _ => ?_))
    | exact ih0 _ _ _ _ _ _
    | exact ih1 _ _ _ _ _
    | exact ih2 _ _ _ _ _
    | exact ih3 _ _ _ _ _ _
    | exact impl_FindOpen.mono _ _
    | exact impl_FlashClean.mono _ _ _
    | exact spec_DrawFindOpen.mono _ _
    | exact spec_FindOpen.mono _ _
    | exact LeO.none _
    | refine LeO.ite ?_ ?_
    | refine LeO.bind ?_ (fun _ => ?_)
  · intro y0 y1 y2 y3 y4 y5
    unfold laws_FnOpen.j3
    repeat' first
    | (with_reducible exact ih0 _ _ _ _ _ _)
    | (with_reducible exact ih1 _ _ _ _ _)
    | (with_reducible exact ih2 _ _ _ _ _)
    | (with_reducible exact ih3 _ _ _ _ _ _)
    | (with_reducible exact impl_FindOpen.mono _ _)
    | (with_reducible exact impl_FlashClean.mono _ _ _)
    | (with_reducible exact spec_DrawFindOpen.mono _ _)
    | (with_reducible exact spec_FindOpen.mono _ _)
    | (with_reducible exact LeO.refl _)
    | (with_reducible exact LeO.none _)
    | (with_reducible refine LeO.ite ?_ ?_)
    | (with_reducible refine LeO.bind ?_ (fun _ => ?_))
    | exact ih0 _ _ _ _ _ _
    | exact ih1 _ _ _ _ _
    | exact ih2 _ _ _ _ _
    | exact ih3 _ _ _ _ _ _
    | exact impl_FindOpen.mono _ _
    | exact impl_FlashClean.mono _ _ _
    | exact spec_DrawFindOpen.mono _ _
    | exact spec_FindOpen.mono _ _
    | exact LeO.none _
    | refine LeO.ite ?_ ?_
    | refine LeO.bind ?_ (fun _ => ?_)
theorem laws_FnOpen.mono : ∀ a0 k, LeO (laws_FnOpen.f k a0) (laws_FnOpen.f (k + 1) a0) := by
 intro a0 k
 obtain ⟨ih0, ih1, ih2, ih3⟩ := laws_FnOpen.mono_l k
 unfold laws_FnOpen.f
 repeat' first
  | (with_reducible exact ih0 _ _ _ _ _ _)
  | (with_reducible exact ih1 _ _ _ _ _)
  | (with_reducible exact ih2 _ _ _ _ _)
  | (with_reducible exact ih3 _ _ _ _ _ _)
  | (with_reducible exact impl_FindOpen.mono _ _)
  | (with_reducible exact impl_FlashClean.mono _ _ _)
  | (with_reducible exact spec_DrawFindOpen.mono _ _)
  | (with_reducible exact spec_FindOpen.mono _ _)
  | (with_reducible exact LeO.refl _)
  | (with_reducible exact LeO.none _)
  | (with_reducible refine LeO.ite ?_ ?_)
  | (with_reducible refine LeO.bind ?_ (fun _ => ?_))
  | exact ih0 _ _ _ _ _ _
  | exact ih1 _ _ _ _ _
  | exact ih2 _ _ _ _ _
  | exact ih3 _ _ _ _ _ _
  | exact impl_FindOpen.mono _ _
  | exact impl_FlashClean.mono _ _ _
  | exact spec_DrawFindOpen.mono _ _
  | exact spec_FindOpen.mono _ _
  | exact LeO.none _
  | refine LeO.ite ?_ ?_
  | refine LeO.bind ?_ (fun _ => ?_)
def laws_FnOpen.T19 : Bool × List (List Nat × List Nat) := (true, [([], []), ([], []), ([0, 1], [0, 1]), ([2], [2]), ([3, 2], [3]), ([4], [4]), ([4], [4]), ([5, 6, 4], [4, 5, 6]), ([7, 4], [4, 7]), ([8, 4], [4, 8]), ([4], [4]), ([4], [4]), ([10, 11, 4], [4, 10, 11]), ([12, 4], [4, 12]), ([13, 4], [4, 13]), ([9, 14, 4], [4, 9, 14]), ([15, 4, 4], [4, 15]), ([16], [16]), ([16], [16]), ([17, 18, 16], [16, 17, 18]), ([19, 16, 16], [16, 19]), ([20], [20]), ([20], [20]), ([21, 22, 20], [20, 21, 22]), ([23, 20], [20, 23]), ([24, 20], [20, 24]), ([20], [20]), ([20], [20]), ([26, 27, 20], [20, 26, 27]), ([28, 20], [20, 28]), ([29, 20], [20, 29]), ([25, 30, 20], [20, 25, 30]), ([20, 31, 16], [16, 20, 31]), ([16, 32, 4], [4, 16, 32]), ([4, 33], [4, 33])])
def laws_FnOpen.B19 : List Nat := [0, 0, 3, 7, 15, 31, 31, 127, 255, 511, 31, 31, 3103, 7199, 15391, 32767, 65535, 131071, 131071, 524287, 1048575, 2097151, 2097151, 8388607, 16777215, 33554431, 2097151, 2097151, 203423743, 471859199, 1008730111, 2147483647, 4294967295, 8589934591, 17179869183]
theorem laws_FnOpen.tab19 : rtab .any (opsOf Try.f3 19) = laws_FnOpen.T19 := by kernel_rfl
theorem laws_FnOpen.bits19 : waitsOk laws_FnOpen.T19.2 laws_FnOpen.B19 = true := by kernel_rfl
set_option maxHeartbeats 8000000 in
set_option maxRecDepth 100000 in
theorem laws_FnOpen.calls (k : Nat) (A0 : Option Addr) (c0 : Nat) (l0 : List Int) (r : Bool) (w : World) (hr0 : Kd.C (Kd.int .u8) w A0 l0.length l0) (hc0 : l0.length ≤ c0) (h : laws_FnOpen.f k l0 = some r) :
 Calls Try.prog 3 #[.slice A0 l0.length c0] w fun e w' => e = .returned (.bool r) ∧ Below w.heap.size w w' := by
 have HR0 := am hr0
 have HC0 := am hc0
 clear hr0 hc0
 have HB := am (Below.refl w.heap.size w)
 have H : (if (l0.length : Int) > 1048576 then (some true) else ((spec_DrawFindOpen.f k l0).bind fun t417 => ((spec_FindOpen.f k t417).bind fun bt420 => ((impl_FindOpen.f k t417).bind fun bt422 => (if (bt422.2 != bt420.2) = true then (laws_FnOpen.j0 k t417 bt420.1 bt420.2 bt422.1 bt422.2 true) else (if bt422.1 = bt420.1 then ((spec_FlashOk.f t417).bind fun t424 => (laws_FnOpen.j0 k t417 bt420.1 bt420.2 bt422.1 bt422.2 (!t424))) else (laws_FnOpen.j0 k t417 bt420.1 bt420.2 bt422.1 bt422.2 true))))))) = some r := h
 clear h
 by_cases c2 : (l0.length : Int) > 1048576
 · rw [if_pos c2] at H
   have c2b0 := decide_eq_true c2
   have c2b1 : decide (1048576 < l0.length) = true := decide_eq_true (by omega)
   clear c2
   obtain rfl := Option.some.inj H
   go_enter Try.func3, Try.ntmps3
   go_wp2
   go_ret
   exact (rq (ph HB.out))
 rw [if_neg c2] at H
 have c2b0 := decide_eq_false c2
 have c2b1 : decide (1048576 < l0.length) = false := decide_eq_false (by omega)
 clear c2
 replace H := Option.bind_eq_some_iff.mp H
 obtain ⟨t417, A30, H⟩ := H
 replace H : ((spec_FindOpen.f k t417).bind fun bt420 => ((impl_FindOpen.f k t417).bind fun bt422 => (if (bt422.2 != bt420.2) = true then (laws_FnOpen.j0 k t417 bt420.1 bt420.2 bt422.1 bt422.2 true) else (if bt422.1 = bt420.1 then ((spec_FlashOk.f t417).bind fun t424 => (laws_FnOpen.j0 k t417 bt420.1 bt420.2 bt422.1 bt422.2 (!t424))) else (laws_FnOpen.j0 k t417 bt420.1 bt420.2 bt422.1 bt422.2 true))))) = some r := H
 have A3 := am A30
 clear A30
 replace H := Option.bind_eq_some_iff.mp H
 obtain ⟨⟨t420, t421⟩, A40, H⟩ := H
 replace H : ((impl_FindOpen.f k t417).bind fun bt422 => (if (bt422.2 != t421) = true then (laws_FnOpen.j0 k t417 t420 t421 bt422.1 bt422.2 true) else (if bt422.1 = t420 then ((spec_FlashOk.f t417).bind fun t424 => (laws_FnOpen.j0 k t417 t420 t421 bt422.1 bt422.2 (!t424))) else (laws_FnOpen.j0 k t417 t420 t421 bt422.1 bt422.2 true)))) = some r := H
 have A4 := am A40
 clear A40
 replace H := Option.bind_eq_some_iff.mp H
 obtain ⟨⟨t422, t423⟩, A50, H⟩ := H
 replace H : (if (t423 != t421) = true then (laws_FnOpen.j0 k t417 t420 t421 t422 t423 true) else (if t422 = t420 then ((spec_FlashOk.f t417).bind fun t424 => (laws_FnOpen.j0 k t417 t420 t421 t422 t423 (!t424))) else (laws_FnOpen.j0 k t417 t420 t421 t422 t423 true))) = some r := H
 have A5 := am A50
 clear A50
 have HC6 := am H
 clear H
 go_enter Try.func3, Try.ntmps3
 go_upto_region 6 with (first | (refine gl 16 Try.func4 #[.slice A0 l0.length c0] rfl ?_; (with_reducible refine (spec_DrawFindOpen.calls k _ _ l0 t417 _ ?side1 ?side2 A3.out).mono ?_); (case side1 => repeat (first | exact HR0.out | (with_reducible refine Kd.C_alloc ?_ _) | (with_reducible refine Kd.C_drewN ?_ _) | (with_reducible refine Kd.C_drew ?_))); (case side2 => exact HC0.out); rintro e w7 ⟨v418, rfl, ho0, hb⟩; refine ⟨_, rfl, ?_⟩; have HO419 := am (Kd.V_lower (Kd.V_mono (ok' := fun k_ => True) ho0 (fun k_ hk_ => trivial)) (below_size (ph HB.out))); replace HB := am (below_step (ph HB.out) hb); (try clear hb); (try clear hb2); (try clear hk); (try clear hi); (try clear ho0); obtain ⟨Ao8, co8, eo8⟩ := Kd.V_slice HO419.out; subst eo8) | (refine gl 19 Try.func5 #[.slice Ao8 t417.length co8] rfl ?_; (with_reducible refine (spec_FindOpen.calls k _ _ t417 t420 t421 _ ?side1 ?side2 A4.out).mono ?_); (case side1 => repeat (first | exact (Kd.V_reads' HO419.out).2.2 | (with_reducible refine Kd.C_alloc ?_ _) | (with_reducible refine Kd.C_drewN ?_ _) | (with_reducible refine Kd.C_drew ?_))); (case side2 => exact (Kd.V_reads' HO419.out).2.1); rintro e w9 ⟨rfl, hb⟩; refine ⟨_, rfl, ?_⟩; replace HO419 := am (Kd.V_below (by (with_reducible repeat (first | apply Kd.V_alloc | apply Kd.V_drewN | apply Kd.V_drew)); exact HO419.out) hb); replace HB := am (below_step (ph HB.out) hb); (try clear hb); (try clear hb2); (try clear hk); (try clear hi)) | (refine gl 24 Try.func6 #[.slice Ao8 t417.length co8] rfl ?_; (with_reducible refine (impl_FindOpen.calls k _ _ t417 t422 t423 _ ?side1 ?side2 A5.out).mono ?_); (case side1 => repeat (first | exact (Kd.V_reads' HO419.out).2.2 | (with_reducible refine Kd.C_alloc ?_ _) | (with_reducible refine Kd.C_drewN ?_ _) | (with_reducible refine Kd.C_drew ?_))); (case side2 => exact (Kd.V_reads' HO419.out).2.1); rintro e w10 ⟨rfl, hb⟩; refine ⟨_, rfl, ?_⟩; replace HO419 := am (Kd.V_below (by (with_reducible repeat (first | apply Kd.V_alloc | apply Kd.V_drewN | apply Kd.V_drew)); exact HO419.out) hb); replace HB := am (below_step (ph HB.out) hb); (try clear hb); (try clear hb2); (try clear hk); (try clear hi)))
 (try simp only [Act.put, List.setIfInBounds_toArray, List.set_cons_zero, List.set_cons_succ])
 go_cut [39] (fun v39 wc => ∃ (kq : Nat) (x39_5 : Bool), v39 = .bool x39_5 ∧ Aside0 (laws_FnOpen.j0 kq t417 t420 t421 t422 t423 x39_5 = some r) ∧ Aside0 (kq ≤ k) ∧ Aside0 (Kd.V k31 31 wc w.heap.size (fun _ => True) (.slice Ao8 t417.length co8) t417) ∧ Aside0 (Below w.heap.size w wc))
 case first =>
  have H := HC6.out
  clear HC6
  by_cases c11 : (t423 != t421) = true
  · rw [if_pos c11] at H
    have c11b0 : (t423 != t421) = true := c11
    (try (have c11b1 : decide (t423 = t421) = false := by simpa using c11))
    (try (have c11b2 : (t423 == t421) = false := by simpa using c11))
    (try (have c11b3 : ¬ (t423 = t421) := by simpa using c11))
    clear c11
    (first | rw [c11b0] | (simp only [i64_w, i32_w]; rw [c11b0]) | skip)
    have H' := am H
    clear H
    go_wp2
    go_meet
    case rel => exact ⟨_, (true), rf, H', ⟨by first | omega | exact Nat.le_refl _⟩, ⟨by (with_reducible repeat (first | apply Kd.V_alloc | apply Kd.V_drewN | apply Kd.V_drew)); exact HO419.out⟩, ⟨ph HB.out⟩⟩
  rw [if_neg c11] at H
  have c11b0 : (t423 != t421) = false := by simpa using c11
  (try (have c11b1 : decide (t423 = t421) = true := by simpa using c11))
  (try (have c11b2 : (t423 == t421) = true := by simpa using c11))
  clear c11
  (first | rw [c11b0] | (simp only [i64_w, i32_w]; rw [c11b0]) | skip)
  by_cases c12 : t422 = t420
  rotate_left
  · rw [if_neg c12] at H
    have c12b0 : (t422 == t420) = false := beq_eq_false_iff_ne.mpr c12
    have c12b1 : (t422 != t420) = true := bne_iff_ne.mpr c12
    have H' := am H
    clear H
    go_wp2
    go_meet
    case rel => exact ⟨_, (true), rf, H', ⟨by first | omega | exact Nat.le_refl _⟩, ⟨by (with_reducible repeat (first | apply Kd.V_alloc | apply Kd.V_drewN | apply Kd.V_drew)); exact HO419.out⟩, ⟨ph HB.out⟩⟩
  rw [if_pos c12] at H
  have c12b0 : (t422 == t420) = true := beq_iff_eq.mpr c12
  have c12b1 : (t422 != t420) = false := bne_eq_false_iff_eq.mpr c12
  clear c12
  replace H := Option.bind_eq_some_iff.mp H
  obtain ⟨t424, A130, H⟩ := H
  replace H : (laws_FnOpen.j0 k t417 t420 t421 t422 t423 (!t424)) = some r := H
  have A13 := am A130
  clear A130
  have H' := am H
  clear H
  go_wp2_with (first | (go_at_call 7; (with_reducible refine (spec_FlashOk.calls _ _ t417 t424 _ ?side1 ?side2 A13.out).mono ?_); (case side1 => repeat (first | exact (Kd.V_reads' HO419.out).2.2 | (with_reducible refine Kd.C_alloc ?_ _) | (with_reducible refine Kd.C_drewN ?_ _) | (with_reducible refine Kd.C_drew ?_))); (case side2 => exact (Kd.V_reads' HO419.out).2.1); rintro e w14 ⟨rfl, hb⟩; replace HO419 := am (Kd.V_below (by (with_reducible repeat (first | apply Kd.V_alloc | apply Kd.V_drewN | apply Kd.V_drew)); exact HO419.out) hb); replace HB := am (below_step (ph HB.out) hb); (try clear hb); (try clear hb2); (try clear hk); (try clear hi)))
  go_meet
  case rel => exact ⟨_, (!t424), rf, H', ⟨by first | omega | exact Nat.le_refl _⟩, ⟨by (with_reducible repeat (first | apply Kd.V_alloc | apply Kd.V_drewN | apply Kd.V_drew)); exact HO419.out⟩, ⟨ph HB.out⟩⟩
 case rest =>
  clear HC6
  obtain ⟨kq, x39_5, rfl, HA, HJ5, HO_3, HB⟩ := hcut
  cases kq with
  | zero => exact absurd HA.out (by simp [laws_FnOpen.j0])
  | succ kj5 =>
   have H := HA.out
   clear HA
   simp only [laws_FnOpen.j0] at H
   by_cases c15 : x39_5 = true
   · subst c15
     have H1 : (if (t423 == t421) = true then (some (t422 == t420)) else (some false)) = some r := by rw [if_pos rfl] at H; exact H
     clear H
     have H := H1
     clear H1
     by_cases c16 : (t423 == t421) = true
     · rw [if_pos c16] at H
       have c16b0 : (t423 == t421) = true := c16
       (try (have c16b1 : decide (t423 = t421) = true := by simpa using c16))
       (try (have c16b2 : (t423 == t421) = true := by simpa using c16))
       clear c16
       obtain rfl := Option.some.inj H
       go_wp2
       go_ret
       exact (rq (ph HB.out))
     rw [if_neg c16] at H
     have c16b0 : (t423 == t421) = false := by simpa using c16
     (try (have c16b1 : decide (t423 = t421) = false := by simpa using c16))
     (try (have c16b2 : (t423 == t421) = false := by simpa using c16))
     (try (have c16b3 : ¬ (t423 = t421) := by simpa using c16))
     clear c16
     obtain rfl := Option.some.inj H
     go_wp2
     go_ret
     exact (rq (ph HB.out))
   replace c15 := Bool.eq_false_iff.mpr c15
   subst c15
   have H1 : (laws_FnOpen.l0 kj5 t417 t422 t423 0 0) = some r := by rw [if_neg (show ¬ (false = true) by decide)] at H; exact H
   clear H
   have H := H1
   clear H1
   have H' := am H
   clear H
   go_wp2
   go_loopg [8, 9] kj5 (fun kq v8 v9 w' => ∃ (x8_2 : Int) (x9_2 : Int), v8 = .int .i64 x8_2 ∧ v9 = .int .i64 x9_2 ∧ Aside0 (laws_FnOpen.l0 kq t417 t422 t423 x8_2 x9_2 = some r) ∧ Aside0 (kq ≤ kj5) ∧ Aside0 (Kd.V k31 31 w' w.heap.size (fun _ => True) (.slice Ao8 t417.length co8) t417) ∧ Aside0 (Below w.heap.size w w'))
   case atStart => exact ⟨(0), (0), rf, rf, H', ⟨Nat.le_refl _⟩, ⟨by (with_reducible repeat (first | apply Kd.V_alloc | apply Kd.V_drewN | apply Kd.V_drew)); exact HO_3.out⟩, ⟨ph HB.out⟩⟩
   case round =>
    clear H'
    obtain ⟨x8_2, x9_2, rfl, rfl, HA, HK2, HO_3, HB⟩ := hrel
    cases gk with
    | zero => exact absurd HA.out (by simp [laws_FnOpen.l0])
    | succ k2 =>
     have H := HA.out
     clear HA
     simp only [laws_FnOpen.l0] at H
     by_cases c17 : x9_2 < (t417.length : Int)
     · rw [if_pos c17] at H
       have c17b0 := decide_eq_true c17
       clear c17
       replace H := Option.bind_eq_some_iff.mp H
       obtain ⟨t425, A180, H⟩ := H
       replace H : (if t423 = true then (if t425 > 0 then (if t425 < 4 then (some (t422 == x9_2)) else (laws_FnOpen.l0 k2 t417 t422 t423 (wrap64 (x8_2 + t425)) (wrap64 (x9_2 + 1)))) else (laws_FnOpen.l0 k2 t417 t422 t423 (wrap64 (x8_2 + t425)) (wrap64 (x9_2 + 1)))) else (laws_FnOpen.l0 k2 t417 t422 t423 (wrap64 (x8_2 + t425)) (wrap64 (x9_2 + 1)))) = some r := H
       have A18 := am A180
       clear A180
       by_cases c19 : t423 = true
       rotate_left
       · replace c19 := Bool.eq_false_iff.mpr c19
         subst c19
         have H1 : (laws_FnOpen.l0 k2 t417 t422 false (wrap64 (x8_2 + t425)) (wrap64 (x9_2 + 1))) = some r := by rw [if_neg (show ¬ (false = true) by decide)] at H; exact H
         clear H
         have H := H1
         clear H1
         have H' := am H
         clear H
         go_wp2_with (first | (refine gl 56 Try.func8 #[.slice Ao8 t417.length co8, .int .i64 x9_2] rfl ?_; (with_reducible refine (impl_FlashClean.calls k2 _ _ t417 x9_2 t425 _ ?side1 ?side2 A18.out).mono ?_); (case side1 => repeat (first | exact (Kd.V_reads' HO_3.out).2.2 | (with_reducible refine Kd.C_alloc ?_ _) | (with_reducible refine Kd.C_drewN ?_ _) | (with_reducible refine Kd.C_drew ?_))); (case side2 => exact (Kd.V_reads' HO_3.out).2.1); rintro e w25 ⟨rfl, hb⟩; refine ⟨_, rfl, ?_⟩; replace HO_3 := am (Kd.V_below (by (with_reducible repeat (first | apply Kd.V_alloc | apply Kd.V_drewN | apply Kd.V_drew)); exact HO_3.out) hb); replace HB := am (below_step (ph HB.out) hb); (try clear hb); (try clear hb2); (try clear hk); (try clear hi)))
         go_roundg k2
         case measure => have := HJ5.out; have := HK2.out; omega
         case rel => exact ⟨(wrap64 (x8_2 + t425)), (wrap64 (x9_2 + 1)), rf, rf, H', ⟨by have := HJ5.out; have := HK2.out; omega⟩, ⟨by (with_reducible repeat (first | apply Kd.V_alloc | apply Kd.V_drewN | apply Kd.V_drew)); exact HO_3.out⟩, ⟨ph HB.out⟩⟩
       subst c19
       have H1 : (if t425 > 0 then (if t425 < 4 then (some (t422 == x9_2)) else (laws_FnOpen.l0 k2 t417 t422 true (wrap64 (x8_2 + t425)) (wrap64 (x9_2 + 1)))) else (laws_FnOpen.l0 k2 t417 t422 true (wrap64 (x8_2 + t425)) (wrap64 (x9_2 + 1)))) = some r := by rw [if_pos rfl] at H; exact H
       clear H
       have H := H1
       clear H1
       by_cases c20 : t425 > 0
       rotate_left
       · rw [if_neg c20] at H
         have c20b0 := decide_eq_false c20
         clear c20
         have H' := am H
         clear H
         go_wp2_with (first | (refine gl 56 Try.func8 #[.slice Ao8 t417.length co8, .int .i64 x9_2] rfl ?_; (with_reducible refine (impl_FlashClean.calls k2 _ _ t417 x9_2 t425 _ ?side1 ?side2 A18.out).mono ?_); (case side1 => repeat (first | exact (Kd.V_reads' HO_3.out).2.2 | (with_reducible refine Kd.C_alloc ?_ _) | (with_reducible refine Kd.C_drewN ?_ _) | (with_reducible refine Kd.C_drew ?_))); (case side2 => exact (Kd.V_reads' HO_3.out).2.1); rintro e w24 ⟨rfl, hb⟩; refine ⟨_, rfl, ?_⟩; replace HO_3 := am (Kd.V_below (by (with_reducible repeat (first | apply Kd.V_alloc | apply Kd.V_drewN | apply Kd.V_drew)); exact HO_3.out) hb); replace HB := am (below_step (ph HB.out) hb); (try clear hb); (try clear hb2); (try clear hk); (try clear hi)))
         go_roundg k2
         case measure => have := HJ5.out; have := HK2.out; omega
         case rel => exact ⟨(wrap64 (x8_2 + t425)), (wrap64 (x9_2 + 1)), rf, rf, H', ⟨by have := HJ5.out; have := HK2.out; omega⟩, ⟨by (with_reducible repeat (first | apply Kd.V_alloc | apply Kd.V_drewN | apply Kd.V_drew)); exact HO_3.out⟩, ⟨ph HB.out⟩⟩
       rw [if_pos c20] at H
       have c20b0 := decide_eq_true c20
       clear c20
       by_cases c21 : t425 < 4
       · rw [if_pos c21] at H
         have c21b0 := decide_eq_true c21
         clear c21
         obtain rfl := Option.some.inj H
         go_wp2_with (first | (refine gl 56 Try.func8 #[.slice Ao8 t417.length co8, .int .i64 x9_2] rfl ?_; (with_reducible refine (impl_FlashClean.calls k2 _ _ t417 x9_2 t425 _ ?side1 ?side2 A18.out).mono ?_); (case side1 => repeat (first | exact (Kd.V_reads' HO_3.out).2.2 | (with_reducible refine Kd.C_alloc ?_ _) | (with_reducible refine Kd.C_drewN ?_ _) | (with_reducible refine Kd.C_drew ?_))); (case side2 => exact (Kd.V_reads' HO_3.out).2.1); rintro e w22 ⟨rfl, hb⟩; refine ⟨_, rfl, ?_⟩; replace HO_3 := am (Kd.V_below (by (with_reducible repeat (first | apply Kd.V_alloc | apply Kd.V_drewN | apply Kd.V_drew)); exact HO_3.out) hb); replace HB := am (below_step (ph HB.out) hb); (try clear hb); (try clear hb2); (try clear hk); (try clear hi)))
         go_ret
         exact (rq (ph HB.out))
       rw [if_neg c21] at H
       have c21b0 := decide_eq_false c21
       clear c21
       have H' := am H
       clear H
       go_wp2_with (first | (refine gl 56 Try.func8 #[.slice Ao8 t417.length co8, .int .i64 x9_2] rfl ?_; (with_reducible refine (impl_FlashClean.calls k2 _ _ t417 x9_2 t425 _ ?side1 ?side2 A18.out).mono ?_); (case side1 => repeat (first | exact (Kd.V_reads' HO_3.out).2.2 | (with_reducible refine Kd.C_alloc ?_ _) | (with_reducible refine Kd.C_drewN ?_ _) | (with_reducible refine Kd.C_drew ?_))); (case side2 => exact (Kd.V_reads' HO_3.out).2.1); rintro e w23 ⟨rfl, hb⟩; refine ⟨_, rfl, ?_⟩; replace HO_3 := am (Kd.V_below (by (with_reducible repeat (first | apply Kd.V_alloc | apply Kd.V_drewN | apply Kd.V_drew)); exact HO_3.out) hb); replace HB := am (below_step (ph HB.out) hb); (try clear hb); (try clear hb2); (try clear hk); (try clear hi)))
       go_roundg k2
       case measure => have := HJ5.out; have := HK2.out; omega
       case rel => exact ⟨(wrap64 (x8_2 + t425)), (wrap64 (x9_2 + 1)), rf, rf, H', ⟨by have := HJ5.out; have := HK2.out; omega⟩, ⟨by (with_reducible repeat (first | apply Kd.V_alloc | apply Kd.V_drewN | apply Kd.V_drew)); exact HO_3.out⟩, ⟨ph HB.out⟩⟩
     rw [if_neg c17] at H
     have c17b0 := decide_eq_false c17
     clear c17
     have H' := am H
     clear H
     go_wp2
     go_loopg [11] k2 (fun kq v11 w' => ∃ (x11_3 : Int), v11 = .int .i64 x11_3 ∧ Aside0 (laws_FnOpen.l1 kq t417 t422 t423 x8_2 x11_3 = some r) ∧ Aside0 (kq ≤ k2) ∧ Aside0 (Kd.V k31 31 w' w.heap.size (fun _ => True) (.slice Ao8 t417.length co8) t417) ∧ Aside0 (Below w.heap.size w w'))
     case atStart => exact ⟨(0), rf, H', ⟨Nat.le_refl _⟩, ⟨by (with_reducible repeat (first | apply Kd.V_alloc | apply Kd.V_drewN | apply Kd.V_drew)); exact HO_3.out⟩, ⟨ph HB.out⟩⟩
     case round =>
      clear H'
      obtain ⟨x11_3, rfl, HA, HK3, HO_3, HB⟩ := hrel
      cases gk with
      | zero => exact absurd HA.out (by simp [laws_FnOpen.l1])
      | succ k3 =>
       have H := HA.out
       clear HA
       simp only [laws_FnOpen.l1] at H
       have HC26 := am H
       clear H
       go_upto_region 17 with (fail)
       go_cut [78] (fun v78 wc => ∃ (kq : Nat) (x78_25 : Bool), v78 = .bool x78_25 ∧ Aside0 (laws_FnOpen.j3 kq t417 t422 t423 x8_2 x11_3 x78_25 = some r) ∧ Aside0 (kq ≤ k3) ∧ Aside0 (Kd.V k31 31 wc w.heap.size (fun _ => True) (.slice Ao8 t417.length co8) t417) ∧ Aside0 (Below w.heap.size w wc))
       case first =>
        have H := HC26.out
        clear HC26
        by_cases c27 : t423 = true
        · subst c27
          have H1 : (laws_FnOpen.j3 k3 t417 t422 true x8_2 x11_3 (decide (x11_3 < (t417.length : Int)))) = some r := by rw [if_pos rfl] at H; exact H
          clear H
          have H := H1
          clear H1
          have H' := am H
          clear H
          go_wp2
          go_meet
          case rel => exact ⟨_, (decide (x11_3 < (t417.length : Int))), rf, H', ⟨by have := HJ5.out; have := HK2.out; have := HK3.out; first | omega | exact Nat.le_refl _⟩, ⟨by (with_reducible repeat (first | apply Kd.V_alloc | apply Kd.V_drewN | apply Kd.V_drew)); exact HO_3.out⟩, ⟨ph HB.out⟩⟩
        replace c27 := Bool.eq_false_iff.mpr c27
        subst c27
        have H1 : (laws_FnOpen.j3 k3 t417 t422 false x8_2 x11_3 false) = some r := by rw [if_neg (show ¬ (false = true) by decide)] at H; exact H
        clear H
        have H := H1
        clear H1
        have H' := am H
        clear H
        go_wp2
        go_meet
        case rel => exact ⟨_, (false), rf, H', ⟨by have := HJ5.out; have := HK2.out; have := HK3.out; first | omega | exact Nat.le_refl _⟩, ⟨by (with_reducible repeat (first | apply Kd.V_alloc | apply Kd.V_drewN | apply Kd.V_drew)); exact HO_3.out⟩, ⟨ph HB.out⟩⟩
       case rest =>
        clear HC26
        obtain ⟨kq, x78_25, rfl, HA, HJ25, HO_3, HB⟩ := hcut
        cases kq with
        | zero => exact absurd HA.out (by simp [laws_FnOpen.j3])
        | succ kj25 =>
         have H := HA.out
         clear HA
         simp only [laws_FnOpen.j3] at H
         by_cases c28 : x78_25 = true
         rotate_left
         · replace c28 := Bool.eq_false_iff.mpr c28
           subst c28
           have H1 : (some (t423 == (decide (x8_2 > 0)))) = some r := by rw [if_neg (show ¬ (false = true) by decide)] at H; exact H
           clear H
           have H := H1
           clear H1
           obtain rfl := Option.some.inj H
           go_wp2
           go_ret
           exact (rq (ph HB.out))
         subst c28
         have H1 : ((impl_FlashClean.f kj25 t417 x11_3).bind fun t426 => (if t426 = 4 then (if 0 ≤ x11_3 then (if x11_3 < (t417.length : Int) then (if 0 ≤ t422 then (if t422 < (t417.length : Int) then (if ((rd_T31 t417 x11_3).f1) < ((rd_T31 t417 t422).f1) then (some false) else (if x11_3 < t422 then (if ((rd_T31 t417 x11_3).f1) = ((rd_T31 t417 t422).f1) then (some false) else (laws_FnOpen.l1 kj25 t417 t422 t423 x8_2 (wrap64 (x11_3 + 1)))) else (laws_FnOpen.l1 kj25 t417 t422 t423 x8_2 (wrap64 (x11_3 + 1))))) else (none)) else (none)) else (none)) else (none)) else (laws_FnOpen.l1 kj25 t417 t422 t423 x8_2 (wrap64 (x11_3 + 1))))) = some r := by rw [if_pos rfl] at H; exact H
         clear H
         have H := H1
         clear H1
         replace H := Option.bind_eq_some_iff.mp H
         obtain ⟨t426, A290, H⟩ := H
         replace H : (if t426 = 4 then (if 0 ≤ x11_3 then (if x11_3 < (t417.length : Int) then (if 0 ≤ t422 then (if t422 < (t417.length : Int) then (if ((rd_T31 t417 x11_3).f1) < ((rd_T31 t417 t422).f1) then (some false) else (if x11_3 < t422 then (if ((rd_T31 t417 x11_3).f1) = ((rd_T31 t417 t422).f1) then (some false) else (laws_FnOpen.l1 kj25 t417 t422 t423 x8_2 (wrap64 (x11_3 + 1)))) else (laws_FnOpen.l1 kj25 t417 t422 t423 x8_2 (wrap64 (x11_3 + 1))))) else (none)) else (none)) else (none)) else (none)) else (laws_FnOpen.l1 kj25 t417 t422 t423 x8_2 (wrap64 (x11_3 + 1)))) = some r := H
         have A29 := am A290
         clear A290
         by_cases c30 : t426 = 4
         rotate_left
         · rw [if_neg c30] at H
           have c30b0 : (t426 == 4) = false := beq_eq_false_iff_ne.mpr c30
           have c30b1 : (t426 != 4) = true := bne_iff_ne.mpr c30
           have H' := am H
           clear H
           try go_wp2
           replace HO_3 := am (Kd.V_drew HO_3.out)
           replace HB := am (below_drew1 HB.out)
           refine start_ (n := 35) (S := fun w' => True) (ds := []) #[false, false, false, false, false, false, false, false, false, false, false, false, false, false, false, false, false, false, false, false, false, false, false, false, false, false, false, false, false, false, false, false, false, false, false] (by kernel_rfl) rfl rfl trivial (fun hHeld => ?_); refine with_tabW laws_FnOpen.tab19 laws_FnOpen.bits19 (fun HT_ HW_ => ?_)
           generalize wc.drew = w46 at HO_3 HB hHeld ⊢
           refine pj_ 0 81 #[true, false, false, false, false, false, false, false, false, false, false, false, false, false, false, false, false, false, false, false, false, false, false, false, false, false, false, false, false, false, false, false, false, false, false] rfl rfl (any_of HT_.out (by kernel_rfl)) (fun _ _ _ h => h) ?_
           refine pj_ 1 82 #[true, true, false, false, false, false, false, false, false, false, false, false, false, false, false, false, false, false, false, false, false, false, false, false, false, false, false, false, false, false, false, false, false, false, false] rfl rfl (any_of HT_.out (by kernel_rfl)) (fun _ _ _ h => h) ?_
           refine one_ (i := 2) (N := some 83) #[true, true, true, false, false, false, false, false, false, false, false, false, false, false, false, false, false, false, false, false, false, false, false, false, false, false, false, false, false, false, false, false, false, false, false] rfl rfl (one_of HT_.out (by kernel_rfl)) (by decide) (fun K hK => ?_)
           refine goes_ Try.func8 (by kernel_rfl) rfl #[.slice Ao8 t417.length co8, .int .i64 x11_3] (by rfl) rfl rfl (by (try simp only [List.map_toArray, List.map_cons, List.map_nil]); first | done | rfl | (simp only [List.length_drop, List.length_take]; rfl)) ?_
           with_reducible refine (impl_FlashClean.calls kj25 _ _ t417 x11_3 t426 _ ?side1 ?side2 A29.out).mono ?_
           (case side1 => repeat (first | exact (Kd.V_reads' HO_3.out).2.2 | (with_reducible refine Kd.C_alloc ?_ _) | (with_reducible refine Kd.C_drewN ?_ _) | (with_reducible refine Kd.C_drew ?_)))
           (case side2 => exact (Kd.V_reads' HO_3.out).2.1)
           rintro e w47 ⟨rfl, hb⟩
           refine ⟨_, rfl, ?_⟩
           replace HO_3 := am (Kd.V_below (by (with_reducible repeat (first | apply Kd.V_alloc | apply Kd.V_drewN | apply Kd.V_drew)); exact HO_3.out) hb)
           replace HB := am (below_step (ph HB.out) hb)
           (try clear hb)
           (try clear hb2)
           (try clear hk)
           (try clear hi)
           refine hK.out _ _ trivial (fun hHeld => ?_)
           clear hK K
           refine norm_ (a' := ?_) ?_ ?_
           rotate_left
           · show Act.put _ (some 83) _ = _
             simp only [Act.put, List.setIfInBounds_toArray, List.set_cons_zero, List.set_cons_succ, i64_w, i32_w]
             rfl
           refine pj_ 3 84 #[true, true, true, true, false, false, false, false, false, false, false, false, false, false, false, false, false, false, false, false, false, false, false, false, false, false, false, false, false, false, false, false, false, false, false] rfl rfl (any_of HT_.out (by kernel_rfl)) (fun _ _ _ h => h) ?_
           refine pj_ 4 85 #[true, true, true, true, true, false, false, false, false, false, false, false, false, false, false, false, false, false, false, false, false, false, false, false, false, false, false, false, false, false, false, false, false, false, false] rfl rfl (any_of HT_.out (by kernel_rfl)) (fun _ _ _ h => h) ?_
           refine pure_ (i := 5) (N := some 86) (v := undef) (a' := ?_) #[true, true, true, true, true, true, false, false, false, false, false, false, false, false, false, false, false, false, false, false, false, false, false, false, false, false, false, false, false, false, false, false, false, false, false] rfl rfl (any_of HT_.out (by kernel_rfl)) (fun _ _ _ h => h) (Or.inr ⟨by rfl, rfl⟩) ?_ ?_
           rotate_left
           · simp only [Act.put, List.setIfInBounds_toArray, List.set_cons_zero, List.set_cons_succ, i64_w, i32_w]
             rfl
           refine pure_ (i := 6) (N := some 87) (v := undef) (a' := ?_) #[true, true, true, true, true, true, true, false, false, false, false, false, false, false, false, false, false, false, false, false, false, false, false, false, false, false, false, false, false, false, false, false, false, false, false] rfl rfl (any_of HT_.out (by kernel_rfl)) (fun _ _ _ h => h) (Or.inr ⟨by rfl, rfl⟩) ?_ ?_
           rotate_left
           · simp only [Act.put, List.setIfInBounds_toArray, List.set_cons_zero, List.set_cons_succ, i64_w, i32_w]
             rfl
           refine pure_ (i := 7) (N := some 88) (v := undef) (a' := ?_) #[true, true, true, true, true, true, true, true, false, false, false, false, false, false, false, false, false, false, false, false, false, false, false, false, false, false, false, false, false, false, false, false, false, false, false] rfl rfl (any_of HT_.out (by kernel_rfl)) (fun _ _ _ h => h) (Or.inr ⟨by rfl, rfl⟩) ?_ ?_
           rotate_left
           · simp only [Act.put, List.setIfInBounds_toArray, List.set_cons_zero, List.set_cons_succ, i64_w, i32_w]
             rfl
           refine pure_ (i := 8) (N := some 89) (v := undef) (a' := ?_) #[true, true, true, true, true, true, true, true, true, false, false, false, false, false, false, false, false, false, false, false, false, false, false, false, false, false, false, false, false, false, false, false, false, false, false] rfl rfl (any_of HT_.out (by kernel_rfl)) (fun _ _ _ h => h) (Or.inr ⟨by rfl, rfl⟩) ?_ ?_
           rotate_left
           · simp only [Act.put, List.setIfInBounds_toArray, List.set_cons_zero, List.set_cons_succ, i64_w, i32_w]
             rfl
           refine pure_ (i := 9) (N := some 90) (v := undef) (a' := ?_) #[true, true, true, true, true, true, true, true, true, true, false, false, false, false, false, false, false, false, false, false, false, false, false, false, false, false, false, false, false, false, false, false, false, false, false] rfl rfl (any_of HT_.out (by kernel_rfl)) (fun _ _ _ h => h) (Or.inr ⟨by rfl, rfl⟩) ?_ ?_
           rotate_left
           · simp only [Act.put, List.setIfInBounds_toArray, List.set_cons_zero, List.set_cons_succ, i64_w, i32_w]
             rfl
           refine pure_ (i := 10) (N := some 91) (v := undef) (a' := ?_) #[true, true, true, true, true, true, true, true, true, true, true, false, false, false, false, false, false, false, false, false, false, false, false, false, false, false, false, false, false, false, false, false, false, false, false] rfl rfl (any_of HT_.out (by kernel_rfl)) (fun _ _ _ h => h) (Or.inr ⟨by rfl, rfl⟩) ?_ ?_
           rotate_left
           · simp only [Act.put, List.setIfInBounds_toArray, List.set_cons_zero, List.set_cons_succ, i64_w, i32_w]
             rfl
           refine pure_ (i := 11) (N := some 92) (v := undef) (a' := ?_) #[true, true, true, true, true, true, true, true, true, true, true, true, false, false, false, false, false, false, false, false, false, false, false, false, false, false, false, false, false, false, false, false, false, false, false] rfl rfl (any_of HT_.out (by kernel_rfl)) (fun _ _ _ h => h) (Or.inr ⟨by rfl, rfl⟩) ?_ ?_
           rotate_left
           · simp only [Act.put, List.setIfInBounds_toArray, List.set_cons_zero, List.set_cons_succ, i64_w, i32_w]
             rfl
           refine pure_ (i := 12) (N := some 93) (v := undef) (a' := ?_) #[true, true, true, true, true, true, true, true, true, true, true, true, true, false, false, false, false, false, false, false, false, false, false, false, false, false, false, false, false, false, false, false, false, false, false] rfl rfl (any_of HT_.out (by kernel_rfl)) (fun _ _ _ h => h) (Or.inr ⟨by rfl, rfl⟩) ?_ ?_
           rotate_left
           · simp only [Act.put, List.setIfInBounds_toArray, List.set_cons_zero, List.set_cons_succ, i64_w, i32_w]
             rfl
           refine pure_ (i := 13) (N := some 94) (v := undef) (a' := ?_) #[true, true, true, true, true, true, true, true, true, true, true, true, true, true, false, false, false, false, false, false, false, false, false, false, false, false, false, false, false, false, false, false, false, false, false] rfl rfl (any_of HT_.out (by kernel_rfl)) (fun _ _ _ h => h) (Or.inr ⟨by rfl, rfl⟩) ?_ ?_
           rotate_left
           · simp only [Act.put, List.setIfInBounds_toArray, List.set_cons_zero, List.set_cons_succ, i64_w, i32_w]
             rfl
           refine pure_ (i := 14) (N := some 95) (v := undef) (a' := ?_) #[true, true, true, true, true, true, true, true, true, true, true, true, true, true, true, false, false, false, false, false, false, false, false, false, false, false, false, false, false, false, false, false, false, false, false] rfl rfl (any_of HT_.out (by kernel_rfl)) (fun _ _ _ h => h) (Or.inr ⟨by rfl, rfl⟩) ?_ ?_
           rotate_left
           · simp only [Act.put, List.setIfInBounds_toArray, List.set_cons_zero, List.set_cons_succ, i64_w, i32_w]
             rfl
           refine pure_ (i := 15) (N := some 96) (v := undef) (a' := ?_) #[true, true, true, true, true, true, true, true, true, true, true, true, true, true, true, true, false, false, false, false, false, false, false, false, false, false, false, false, false, false, false, false, false, false, false] rfl rfl (any_of HT_.out (by kernel_rfl)) (fun _ _ _ h => h) (Or.inr ⟨by rfl, rfl⟩) ?_ ?_
           rotate_left
           · simp only [Act.put, List.setIfInBounds_toArray, List.set_cons_zero, List.set_cons_succ, i64_w, i32_w]
             rfl
           refine pure_ (i := 16) (N := some 97) (v := undef) (a' := ?_) #[true, true, true, true, true, true, true, true, true, true, true, true, true, true, true, true, true, false, false, false, false, false, false, false, false, false, false, false, false, false, false, false, false, false, false] rfl rfl (any_of HT_.out (by kernel_rfl)) (fun _ _ _ h => h) (Or.inr ⟨by rfl, rfl⟩) ?_ ?_
           rotate_left
           · simp only [Act.put, List.setIfInBounds_toArray, List.set_cons_zero, List.set_cons_succ, i64_w, i32_w]
             rfl
           refine pure_ (i := 17) (N := some 98) (v := undef) (a' := ?_) #[true, true, true, true, true, true, true, true, true, true, true, true, true, true, true, true, true, true, false, false, false, false, false, false, false, false, false, false, false, false, false, false, false, false, false] rfl rfl (any_of HT_.out (by kernel_rfl)) (fun _ _ _ h => h) (Or.inr ⟨by rfl, rfl⟩) ?_ ?_
           rotate_left
           · simp only [Act.put, List.setIfInBounds_toArray, List.set_cons_zero, List.set_cons_succ, i64_w, i32_w]
             rfl
           refine pure_ (i := 18) (N := some 99) (v := undef) (a' := ?_) #[true, true, true, true, true, true, true, true, true, true, true, true, true, true, true, true, true, true, true, false, false, false, false, false, false, false, false, false, false, false, false, false, false, false, false] rfl rfl (any_of HT_.out (by kernel_rfl)) (fun _ _ _ h => h) (Or.inr ⟨by rfl, rfl⟩) ?_ ?_
           rotate_left
           · simp only [Act.put, List.setIfInBounds_toArray, List.set_cons_zero, List.set_cons_succ, i64_w, i32_w]
             rfl
           refine pure_ (i := 19) (N := some 100) (v := undef) (a' := ?_) #[true, true, true, true, true, true, true, true, true, true, true, true, true, true, true, true, true, true, true, true, false, false, false, false, false, false, false, false, false, false, false, false, false, false, false] rfl rfl (any_of HT_.out (by kernel_rfl)) (fun _ _ _ h => h) (Or.inr ⟨by rfl, rfl⟩) ?_ ?_
           rotate_left
           · simp only [Act.put, List.setIfInBounds_toArray, List.set_cons_zero, List.set_cons_succ, i64_w, i32_w]
             rfl
           refine pure_ (i := 20) (N := some 101) (v := undef) (a' := ?_) #[true, true, true, true, true, true, true, true, true, true, true, true, true, true, true, true, true, true, true, true, true, false, false, false, false, false, false, false, false, false, false, false, false, false, false] rfl rfl (any_of HT_.out (by kernel_rfl)) (fun _ _ _ h => h) (Or.inr ⟨by rfl, rfl⟩) ?_ ?_
           rotate_left
           · simp only [Act.put, List.setIfInBounds_toArray, List.set_cons_zero, List.set_cons_succ, i64_w, i32_w]
             rfl
           refine pure_ (i := 21) (N := some 102) (v := undef) (a' := ?_) #[true, true, true, true, true, true, true, true, true, true, true, true, true, true, true, true, true, true, true, true, true, true, false, false, false, false, false, false, false, false, false, false, false, false, false] rfl rfl (any_of HT_.out (by kernel_rfl)) (fun _ _ _ h => h) (Or.inr ⟨by rfl, rfl⟩) ?_ ?_
           rotate_left
           · simp only [Act.put, List.setIfInBounds_toArray, List.set_cons_zero, List.set_cons_succ, i64_w, i32_w]
             rfl
           refine pure_ (i := 22) (N := some 103) (v := undef) (a' := ?_) #[true, true, true, true, true, true, true, true, true, true, true, true, true, true, true, true, true, true, true, true, true, true, true, false, false, false, false, false, false, false, false, false, false, false, false] rfl rfl (any_of HT_.out (by kernel_rfl)) (fun _ _ _ h => h) (Or.inr ⟨by rfl, rfl⟩) ?_ ?_
           rotate_left
           · simp only [Act.put, List.setIfInBounds_toArray, List.set_cons_zero, List.set_cons_succ, i64_w, i32_w]
             rfl
           refine pure_ (i := 23) (N := some 104) (v := undef) (a' := ?_) #[true, true, true, true, true, true, true, true, true, true, true, true, true, true, true, true, true, true, true, true, true, true, true, true, false, false, false, false, false, false, false, false, false, false, false] rfl rfl (any_of HT_.out (by kernel_rfl)) (fun _ _ _ h => h) (Or.inr ⟨by rfl, rfl⟩) ?_ ?_
           rotate_left
           · simp only [Act.put, List.setIfInBounds_toArray, List.set_cons_zero, List.set_cons_succ, i64_w, i32_w]
             rfl
           refine pure_ (i := 24) (N := some 105) (v := undef) (a' := ?_) #[true, true, true, true, true, true, true, true, true, true, true, true, true, true, true, true, true, true, true, true, true, true, true, true, true, false, false, false, false, false, false, false, false, false, false] rfl rfl (any_of HT_.out (by kernel_rfl)) (fun _ _ _ h => h) (Or.inr ⟨by rfl, rfl⟩) ?_ ?_
           rotate_left
           · simp only [Act.put, List.setIfInBounds_toArray, List.set_cons_zero, List.set_cons_succ, i64_w, i32_w]
             rfl
           refine pure_ (i := 25) (N := some 106) (v := undef) (a' := ?_) #[true, true, true, true, true, true, true, true, true, true, true, true, true, true, true, true, true, true, true, true, true, true, true, true, true, true, false, false, false, false, false, false, false, false, false] rfl rfl (any_of HT_.out (by kernel_rfl)) (fun _ _ _ h => h) (Or.inr ⟨by rfl, rfl⟩) ?_ ?_
           rotate_left
           · simp only [Act.put, List.setIfInBounds_toArray, List.set_cons_zero, List.set_cons_succ, i64_w, i32_w]
             rfl
           refine pure_ (i := 26) (N := some 107) (v := undef) (a' := ?_) #[true, true, true, true, true, true, true, true, true, true, true, true, true, true, true, true, true, true, true, true, true, true, true, true, true, true, true, false, false, false, false, false, false, false, false] rfl rfl (any_of HT_.out (by kernel_rfl)) (fun _ _ _ h => h) (Or.inr ⟨by rfl, rfl⟩) ?_ ?_
           rotate_left
           · simp only [Act.put, List.setIfInBounds_toArray, List.set_cons_zero, List.set_cons_succ, i64_w, i32_w]
             rfl
           refine pure_ (i := 27) (N := some 108) (v := undef) (a' := ?_) #[true, true, true, true, true, true, true, true, true, true, true, true, true, true, true, true, true, true, true, true, true, true, true, true, true, true, true, true, false, false, false, false, false, false, false] rfl rfl (any_of HT_.out (by kernel_rfl)) (fun _ _ _ h => h) (Or.inr ⟨by rfl, rfl⟩) ?_ ?_
           rotate_left
           · simp only [Act.put, List.setIfInBounds_toArray, List.set_cons_zero, List.set_cons_succ, i64_w, i32_w]
             rfl
           refine pure_ (i := 28) (N := some 109) (v := undef) (a' := ?_) #[true, true, true, true, true, true, true, true, true, true, true, true, true, true, true, true, true, true, true, true, true, true, true, true, true, true, true, true, true, false, false, false, false, false, false] rfl rfl (any_of HT_.out (by kernel_rfl)) (fun _ _ _ h => h) (Or.inr ⟨by rfl, rfl⟩) ?_ ?_
           rotate_left
           · simp only [Act.put, List.setIfInBounds_toArray, List.set_cons_zero, List.set_cons_succ, i64_w, i32_w]
             rfl
           refine pure_ (i := 29) (N := some 110) (v := undef) (a' := ?_) #[true, true, true, true, true, true, true, true, true, true, true, true, true, true, true, true, true, true, true, true, true, true, true, true, true, true, true, true, true, true, false, false, false, false, false] rfl rfl (any_of HT_.out (by kernel_rfl)) (fun _ _ _ h => h) (Or.inr ⟨by rfl, rfl⟩) ?_ ?_
           rotate_left
           · simp only [Act.put, List.setIfInBounds_toArray, List.set_cons_zero, List.set_cons_succ, i64_w, i32_w]
             rfl
           refine pure_ (i := 30) (N := some 111) (v := undef) (a' := ?_) #[true, true, true, true, true, true, true, true, true, true, true, true, true, true, true, true, true, true, true, true, true, true, true, true, true, true, true, true, true, true, true, false, false, false, false] rfl rfl (any_of HT_.out (by kernel_rfl)) (fun _ _ _ h => h) (Or.inr ⟨by rfl, rfl⟩) ?_ ?_
           rotate_left
           · simp only [Act.put, List.setIfInBounds_toArray, List.set_cons_zero, List.set_cons_succ, i64_w, i32_w]
             rfl
           refine pure_ (i := 31) (N := some 112) (v := undef) (a' := ?_) #[true, true, true, true, true, true, true, true, true, true, true, true, true, true, true, true, true, true, true, true, true, true, true, true, true, true, true, true, true, true, true, true, false, false, false] rfl rfl (any_of HT_.out (by kernel_rfl)) (fun _ _ _ h => h) (Or.inr ⟨by rfl, rfl⟩) ?_ ?_
           rotate_left
           · simp only [Act.put, List.setIfInBounds_toArray, List.set_cons_zero, List.set_cons_succ, i64_w, i32_w]
             rfl
           refine pure_ (i := 32) (N := some 113) (v := undef) (a' := ?_) #[true, true, true, true, true, true, true, true, true, true, true, true, true, true, true, true, true, true, true, true, true, true, true, true, true, true, true, true, true, true, true, true, true, false, false] rfl rfl (any_of HT_.out (by kernel_rfl)) (fun _ _ _ h => h) (Or.inr ⟨by rfl, rfl⟩) ?_ ?_
           rotate_left
           · simp only [Act.put, List.setIfInBounds_toArray, List.set_cons_zero, List.set_cons_succ, i64_w, i32_w]
             rfl
           refine pure_ (i := 33) (N := some 114) (v := undef) (a' := ?_) #[true, true, true, true, true, true, true, true, true, true, true, true, true, true, true, true, true, true, true, true, true, true, true, true, true, true, true, true, true, true, true, true, true, true, false] rfl rfl (any_of HT_.out (by kernel_rfl)) (fun _ _ _ h => h) (Or.inr ⟨by rfl, rfl⟩) ?_ ?_
           rotate_left
           · simp only [Act.put, List.setIfInBounds_toArray, List.set_cons_zero, List.set_cons_succ, i64_w, i32_w]
             rfl
           refine pj_ 34 115 #[true, true, true, true, true, true, true, true, true, true, true, true, true, true, true, true, true, true, true, true, true, true, true, true, true, true, true, true, true, true, true, true, true, true, true] rfl rfl (any_of HT_.out (by kernel_rfl)) (fun _ _ _ h => h) ?_
           refine done_ (done_of HT_.out (by kernel_rfl)) ?_
           try go_wp2
           go_roundg kj25
           case measure => have := HJ5.out; have := HK2.out; have := HK3.out; have := HJ25.out; omega
           case rel => exact ⟨(wrap64 (x11_3 + 1)), rf, H', ⟨by have := HJ5.out; have := HK2.out; have := HK3.out; have := HJ25.out; omega⟩, ⟨by (with_reducible repeat (first | apply Kd.V_alloc | apply Kd.V_drewN | apply Kd.V_drew)); exact HO_3.out⟩, ⟨ph HB.out⟩⟩
         rw [if_pos c30] at H
         have c30b0 : (t426 == 4) = true := beq_iff_eq.mpr c30
         have c30b1 : (t426 != 4) = false := bne_eq_false_iff_eq.mpr c30
         clear c30
         by_cases c31 : 0 ≤ x11_3
         rotate_left
         · rw [if_neg c31] at H
           exact absurd H (by simp)
         rw [if_pos c31] at H
         have c31b0 := decide_eq_true c31
         clear c31
         by_cases c32 : x11_3 < (t417.length : Int)
         rotate_left
         · rw [if_neg c32] at H
           exact absurd H (by simp)
         rw [if_pos c32] at H
         have c32b0 := decide_eq_true c32
         clear c32
         by_cases c33 : 0 ≤ t422
         rotate_left
         · rw [if_neg c33] at H
           exact absurd H (by simp)
         rw [if_pos c33] at H
         have c33b0 := decide_eq_true c33
         clear c33
         by_cases c34 : t422 < (t417.length : Int)
         rotate_left
         · rw [if_neg c34] at H
           exact absurd H (by simp)
         rw [if_pos c34] at H
         have c34b0 := decide_eq_true c34
         clear c34
         by_cases c35 : ((rd_T31 t417 x11_3).f1) < ((rd_T31 t417 t422).f1)
         · rw [if_pos c35] at H
           have c35b0 := decide_eq_true c35
           clear c35
           obtain rfl := Option.some.inj H
           try go_wp2
           replace HO_3 := am (Kd.V_drew HO_3.out)
           replace HB := am (below_drew1 HB.out)
           have p427 : 0 ≤ (x11_3 : Int) := ofb
           have q427 : x11_3 < (t417.length : Int) := ofb
           obtain ⟨ad427, A427_0, c427_0, e427, hx427_0, hx427_1, hl427_0, hi427_0⟩ := at_T31 (Kd.V_reads' HO_3.out).2.2 x11_3 p427 q427
           cases e427
           obtain ⟨ce427, hce427, hMe427, hcc427⟩ := Kd.V_get HO_3.out z31 x11_3 p427 (by first | exact q427 | exact ofb | (have e_ := (Kd.V_reads' HO_3.out).1; omega))
           obtain ⟨ua427_0, uc427_0, rfl, ul427_0, ge427_0⟩ := k31_openF hMe427
           have hv427_0 := hcc427 0 _ rfl
           rw [Nat.add_zero] at hv427_0
           replace hv427_0 := Option.some.inj (hv427_0.symm.trans hx427_0)
           injection hv427_0 with hva_ hvn_ hvc_
           rw [hva_] at ge427_0
           rw [hvc_] at ul427_0
           have HL427_0 := am (show Kd.V k43 43 _ w.heap.size _ _ ((rd_T31 t417 x11_3).f0) from Kd.V_mk ul427_0 ge427_0)
           clear hva_ hvn_ hvc_ ge427_0 ul427_0
           clear hcc427 hce427
           have HR427_0 := am hi427_0
           have HC427_0 := am hl427_0
           clear hi427_0 hl427_0
           replace p427 := eq_true p427
           replace q427 := eq_true q427
           have p428 : 0 ≤ (t422 : Int) := ofb
           have q428 : t422 < (t417.length : Int) := ofb
           obtain ⟨ad428, A428_0, c428_0, e428, hx428_0, hx428_1, hl428_0, hi428_0⟩ := at_T31 (Kd.V_reads' HO_3.out).2.2 t422 p428 q428
           obtain rfl : ad427 = ad428 := (by injection e428)
           obtain ⟨ce428, hce428, hMe428, hcc428⟩ := Kd.V_get HO_3.out z31 t422 p428 (by first | exact q428 | exact ofb | (have e_ := (Kd.V_reads' HO_3.out).1; omega))
           obtain ⟨ua428_0, uc428_0, rfl, ul428_0, ge428_0⟩ := k31_openF hMe428
           have hv428_0 := hcc428 0 _ rfl
           rw [Nat.add_zero] at hv428_0
           replace hv428_0 := Option.some.inj (hv428_0.symm.trans hx428_0)
           injection hv428_0 with hva_ hvn_ hvc_
           rw [hva_] at ge428_0
           rw [hvc_] at ul428_0
           have HL428_0 := am (show Kd.V k43 43 _ w.heap.size _ _ ((rd_T31 t417 t422).f0) from Kd.V_mk ul428_0 ge428_0)
           clear hva_ hvn_ hvc_ ge428_0 ul428_0
           clear hcc428 hce428
           have HR428_0 := am hi428_0
           have HC428_0 := am hl428_0
           clear hi428_0 hl428_0
           replace p428 := eq_true p428
           replace q428 := eq_true q428
           refine start_ (n := 35) (S := fun w' => w'.cell? (ad427.add ((x11_3).toNat * 2)) = some (.slice A427_0 ((rd_T31 t417 x11_3).f0).length c427_0) ∧ w'.cell? ⟨(ad427.add ((x11_3).toNat * 2)).block, (ad427.add ((x11_3).toNat * 2)).off + 1, none⟩ = some (.int .i64 ((rd_T31 t417 x11_3).f1)) ∧ w'.cell? (ad427.add ((t422).toNat * 2)) = some (.slice A428_0 ((rd_T31 t417 t422).f0).length c428_0) ∧ w'.cell? ⟨(ad427.add ((t422).toNat * 2)).block, (ad427.add ((t422).toNat * 2)).off + 1, none⟩ = some (.int .i64 ((rd_T31 t417 t422).f1))) (ds := []) #[false, false, false, false, false, false, false, false, false, false, false, false, false, false, false, false, false, false, false, false, false, false, false, false, false, false, false, false, false, false, false, false, false, false, false] (by kernel_rfl) rfl rfl ⟨hx427_0, hx427_1, hx428_0, hx428_1⟩ (fun hHeld => ?_); refine with_tabW laws_FnOpen.tab19 laws_FnOpen.bits19 (fun HT_ HW_ => ?_)
           generalize wc.drew = w36 at HO_3 HB HL427_0 HL428_0 HR427_0 HR428_0 hx427_0 hx427_1 hx428_0 hx428_1 hHeld ⊢
           refine pj_ 0 81 #[true, false, false, false, false, false, false, false, false, false, false, false, false, false, false, false, false, false, false, false, false, false, false, false, false, false, false, false, false, false, false, false, false, false, false] rfl rfl (any_of HT_.out (by kernel_rfl)) (fun _ _ _ h => h) ?_
           refine pj_ 1 82 #[true, true, false, false, false, false, false, false, false, false, false, false, false, false, false, false, false, false, false, false, false, false, false, false, false, false, false, false, false, false, false, false, false, false, false] rfl rfl (any_of HT_.out (by kernel_rfl)) (fun _ _ _ h => h) ?_
           refine one_ (i := 2) (N := some 83) #[true, true, true, false, false, false, false, false, false, false, false, false, false, false, false, false, false, false, false, false, false, false, false, false, false, false, false, false, false, false, false, false, false, false, false] rfl rfl (one_of HT_.out (by kernel_rfl)) (by decide) (fun K hK => ?_)
           refine goes_ Try.func8 (by kernel_rfl) rfl #[.slice (some ad427) t417.length co8, .int .i64 x11_3] (by rfl) rfl rfl (by (try simp only [List.map_toArray, List.map_cons, List.map_nil]); first | done | rfl | (simp only [List.length_drop, List.length_take]; rfl)) ?_
           with_reducible refine (impl_FlashClean.calls kj25 _ _ t417 x11_3 t426 _ ?side1 ?side2 A29.out).mono ?_
           (case side1 => repeat (first | exact (Kd.V_reads' HO_3.out).2.2 | (with_reducible refine Kd.C_alloc ?_ _) | (with_reducible refine Kd.C_drewN ?_ _) | (with_reducible refine Kd.C_drew ?_)))
           (case side2 => exact (Kd.V_reads' HO_3.out).2.1)
           rintro e w37 ⟨rfl, hb⟩
           have HS0_ := (hb.cell (World.block_lt_of_cell? _ _ (hHeld.1))).trans (hHeld.1)
           have HS1_ := (hb.cell (World.block_lt_of_cell? _ _ (hHeld.2.1))).trans (hHeld.2.1)
           have HS2_ := (hb.cell (World.block_lt_of_cell? _ _ (hHeld.2.2.1))).trans (hHeld.2.2.1)
           have HS3_ := (hb.cell (World.block_lt_of_cell? _ _ (hHeld.2.2.2))).trans (hHeld.2.2.2)
           refine ⟨_, rfl, ?_⟩
           replace HO_3 := am (Kd.V_below (by (with_reducible repeat (first | apply Kd.V_alloc | apply Kd.V_drewN | apply Kd.V_drew)); exact HO_3.out) hb)
           replace HB := am (below_step (ph HB.out) hb)
           (try clear hb)
           (try clear hb2)
           (try clear hk)
           (try clear hi)
           refine hK.out _ _ ⟨HS0_, HS1_, HS2_, HS3_⟩ (fun hHeld => ?_)
           clear hK K
           refine norm_ (a' := ?_) ?_ ?_
           rotate_left
           · show Act.put _ (some 83) _ = _
             simp only [Act.put, List.setIfInBounds_toArray, List.set_cons_zero, List.set_cons_succ, i64_w, i32_w]
             rfl
           refine pj_ 3 84 #[true, true, true, true, false, false, false, false, false, false, false, false, false, false, false, false, false, false, false, false, false, false, false, false, false, false, false, false, false, false, false, false, false, false, false] rfl rfl (any_of HT_.out (by kernel_rfl)) (fun _ _ _ h => h) ?_
           refine pj_ 4 85 #[true, true, true, true, true, false, false, false, false, false, false, false, false, false, false, false, false, false, false, false, false, false, false, false, false, false, false, false, false, false, false, false, false, false, false] rfl rfl (any_of HT_.out (by kernel_rfl)) (fun _ _ _ h => h) ?_
           refine pj_ 5 86 #[true, true, true, true, true, true, false, false, false, false, false, false, false, false, false, false, false, false, false, false, false, false, false, false, false, false, false, false, false, false, false, false, false, false, false] rfl rfl (any_of HT_.out (by kernel_rfl)) (fun _ _ _ h => h) ?_
           refine pj_ 6 87 #[true, true, true, true, true, true, true, false, false, false, false, false, false, false, false, false, false, false, false, false, false, false, false, false, false, false, false, false, false, false, false, false, false, false, false] rfl rfl (any_of HT_.out (by kernel_rfl)) (fun _ _ _ h => h) ?_
           refine pj_ 7 88 #[true, true, true, true, true, true, true, true, false, false, false, false, false, false, false, false, false, false, false, false, false, false, false, false, false, false, false, false, false, false, false, false, false, false, false] rfl rfl (any_of HT_.out (by kernel_rfl)) (fun _ _ _ h => h) ?_
           refine pj_ 8 89 #[true, true, true, true, true, true, true, true, true, false, false, false, false, false, false, false, false, false, false, false, false, false, false, false, false, false, false, false, false, false, false, false, false, false, false] rfl rfl (any_of HT_.out (by kernel_rfl)) (fun _ _ _ h => h) ?_
           refine pj_ 10 91 #[true, true, true, true, true, true, true, true, true, false, true, false, false, false, false, false, false, false, false, false, false, false, false, false, false, false, false, false, false, false, false, false, false, false, false] rfl rfl (any_of HT_.out (by kernel_rfl)) (fun _ _ _ h => h) ?_
           refine pj_ 11 92 #[true, true, true, true, true, true, true, true, true, false, true, true, false, false, false, false, false, false, false, false, false, false, false, false, false, false, false, false, false, false, false, false, false, false, false] rfl rfl (any_of HT_.out (by kernel_rfl)) (fun _ _ _ h => h) ?_
           refine pj_ 12 93 #[true, true, true, true, true, true, true, true, true, false, true, true, true, false, false, false, false, false, false, false, false, false, false, false, false, false, false, false, false, false, false, false, false, false, false] rfl rfl (any_of HT_.out (by kernel_rfl)) (fun _ _ _ h => h) ?_
           refine pj_ 13 94 #[true, true, true, true, true, true, true, true, true, false, true, true, true, true, false, false, false, false, false, false, false, false, false, false, false, false, false, false, false, false, false, false, false, false, false] rfl rfl (any_of HT_.out (by kernel_rfl)) (fun _ _ _ h => h) ?_
           refine pm_ 9 90 #[true, true, true, true, true, true, true, true, true, true, true, true, true, true, false, false, false, false, false, false, false, false, false, false, false, false, false, false, false, false, false, false, false, false, false] rfl rfl (take_ofW HT_.out HW_.out (by kernel_rfl)) (fun _ _ _ h => h) hHeld ?_
           refine pm_ 14 95 #[true, true, true, true, true, true, true, true, true, true, true, true, true, true, true, false, false, false, false, false, false, false, false, false, false, false, false, false, false, false, false, false, false, false, false] rfl rfl (take_ofW HT_.out HW_.out (by kernel_rfl)) (fun _ _ _ h => h) hHeld ?_
           refine pj_ 15 96 #[true, true, true, true, true, true, true, true, true, true, true, true, true, true, true, true, false, false, false, false, false, false, false, false, false, false, false, false, false, false, false, false, false, false, false] rfl rfl (any_of HT_.out (by kernel_rfl)) (fun _ _ _ h => h) ?_
           refine pj_ 16 97 #[true, true, true, true, true, true, true, true, true, true, true, true, true, true, true, true, true, false, false, false, false, false, false, false, false, false, false, false, false, false, false, false, false, false, false] rfl rfl (any_of HT_.out (by kernel_rfl)) (fun _ _ _ h => h) ?_
           refine pure_ (i := 17) (N := some 98) (v := undef) (a' := ?_) #[true, true, true, true, true, true, true, true, true, true, true, true, true, true, true, true, true, true, false, false, false, false, false, false, false, false, false, false, false, false, false, false, false, false, false] rfl rfl (any_of HT_.out (by kernel_rfl)) (fun _ _ _ h => h) (Or.inr ⟨by rfl, rfl⟩) ?_ ?_
           rotate_left
           · simp only [Act.put, List.setIfInBounds_toArray, List.set_cons_zero, List.set_cons_succ, i64_w, i32_w]
             rfl
           refine pure_ (i := 18) (N := some 99) (v := undef) (a' := ?_) #[true, true, true, true, true, true, true, true, true, true, true, true, true, true, true, true, true, true, true, false, false, false, false, false, false, false, false, false, false, false, false, false, false, false, false] rfl rfl (any_of HT_.out (by kernel_rfl)) (fun _ _ _ h => h) (Or.inr ⟨by rfl, rfl⟩) ?_ ?_
           rotate_left
           · simp only [Act.put, List.setIfInBounds_toArray, List.set_cons_zero, List.set_cons_succ, i64_w, i32_w]
             rfl
           refine pure_ (i := 19) (N := some 100) (v := undef) (a' := ?_) #[true, true, true, true, true, true, true, true, true, true, true, true, true, true, true, true, true, true, true, true, false, false, false, false, false, false, false, false, false, false, false, false, false, false, false] rfl rfl (any_of HT_.out (by kernel_rfl)) (fun _ _ _ h => h) (Or.inr ⟨by rfl, rfl⟩) ?_ ?_
           rotate_left
           · simp only [Act.put, List.setIfInBounds_toArray, List.set_cons_zero, List.set_cons_succ, i64_w, i32_w]
             rfl
           refine pure_ (i := 20) (N := some 101) (v := undef) (a' := ?_) #[true, true, true, true, true, true, true, true, true, true, true, true, true, true, true, true, true, true, true, true, true, false, false, false, false, false, false, false, false, false, false, false, false, false, false] rfl rfl (any_of HT_.out (by kernel_rfl)) (fun _ _ _ h => h) (Or.inr ⟨by rfl, rfl⟩) ?_ ?_
           rotate_left
           · simp only [Act.put, List.setIfInBounds_toArray, List.set_cons_zero, List.set_cons_succ, i64_w, i32_w]
             rfl
           refine pure_ (i := 21) (N := some 102) (v := undef) (a' := ?_) #[true, true, true, true, true, true, true, true, true, true, true, true, true, true, true, true, true, true, true, true, true, true, false, false, false, false, false, false, false, false, false, false, false, false, false] rfl rfl (any_of HT_.out (by kernel_rfl)) (fun _ _ _ h => h) (Or.inr ⟨by rfl, rfl⟩) ?_ ?_
           rotate_left
           · simp only [Act.put, List.setIfInBounds_toArray, List.set_cons_zero, List.set_cons_succ, i64_w, i32_w]
             rfl
           refine pure_ (i := 22) (N := some 103) (v := undef) (a' := ?_) #[true, true, true, true, true, true, true, true, true, true, true, true, true, true, true, true, true, true, true, true, true, true, true, false, false, false, false, false, false, false, false, false, false, false, false] rfl rfl (any_of HT_.out (by kernel_rfl)) (fun _ _ _ h => h) (Or.inr ⟨by rfl, rfl⟩) ?_ ?_
           rotate_left
           · simp only [Act.put, List.setIfInBounds_toArray, List.set_cons_zero, List.set_cons_succ, i64_w, i32_w]
             rfl
           refine pure_ (i := 23) (N := some 104) (v := undef) (a' := ?_) #[true, true, true, true, true, true, true, true, true, true, true, true, true, true, true, true, true, true, true, true, true, true, true, true, false, false, false, false, false, false, false, false, false, false, false] rfl rfl (any_of HT_.out (by kernel_rfl)) (fun _ _ _ h => h) (Or.inr ⟨by rfl, rfl⟩) ?_ ?_
           rotate_left
           · simp only [Act.put, List.setIfInBounds_toArray, List.set_cons_zero, List.set_cons_succ, i64_w, i32_w]
             rfl
           refine pure_ (i := 24) (N := some 105) (v := undef) (a' := ?_) #[true, true, true, true, true, true, true, true, true, true, true, true, true, true, true, true, true, true, true, true, true, true, true, true, true, false, false, false, false, false, false, false, false, false, false] rfl rfl (any_of HT_.out (by kernel_rfl)) (fun _ _ _ h => h) (Or.inr ⟨by rfl, rfl⟩) ?_ ?_
           rotate_left
           · simp only [Act.put, List.setIfInBounds_toArray, List.set_cons_zero, List.set_cons_succ, i64_w, i32_w]
             rfl
           refine pure_ (i := 25) (N := some 106) (v := undef) (a' := ?_) #[true, true, true, true, true, true, true, true, true, true, true, true, true, true, true, true, true, true, true, true, true, true, true, true, true, true, false, false, false, false, false, false, false, false, false] rfl rfl (any_of HT_.out (by kernel_rfl)) (fun _ _ _ h => h) (Or.inr ⟨by rfl, rfl⟩) ?_ ?_
           rotate_left
           · simp only [Act.put, List.setIfInBounds_toArray, List.set_cons_zero, List.set_cons_succ, i64_w, i32_w]
             rfl
           refine pure_ (i := 26) (N := some 107) (v := undef) (a' := ?_) #[true, true, true, true, true, true, true, true, true, true, true, true, true, true, true, true, true, true, true, true, true, true, true, true, true, true, true, false, false, false, false, false, false, false, false] rfl rfl (any_of HT_.out (by kernel_rfl)) (fun _ _ _ h => h) (Or.inr ⟨by rfl, rfl⟩) ?_ ?_
           rotate_left
           · simp only [Act.put, List.setIfInBounds_toArray, List.set_cons_zero, List.set_cons_succ, i64_w, i32_w]
             rfl
           refine pure_ (i := 27) (N := some 108) (v := undef) (a' := ?_) #[true, true, true, true, true, true, true, true, true, true, true, true, true, true, true, true, true, true, true, true, true, true, true, true, true, true, true, true, false, false, false, false, false, false, false] rfl rfl (any_of HT_.out (by kernel_rfl)) (fun _ _ _ h => h) (Or.inr ⟨by rfl, rfl⟩) ?_ ?_
           rotate_left
           · simp only [Act.put, List.setIfInBounds_toArray, List.set_cons_zero, List.set_cons_succ, i64_w, i32_w]
             rfl
           refine pure_ (i := 28) (N := some 109) (v := undef) (a' := ?_) #[true, true, true, true, true, true, true, true, true, true, true, true, true, true, true, true, true, true, true, true, true, true, true, true, true, true, true, true, true, false, false, false, false, false, false] rfl rfl (any_of HT_.out (by kernel_rfl)) (fun _ _ _ h => h) (Or.inr ⟨by rfl, rfl⟩) ?_ ?_
           rotate_left
           · simp only [Act.put, List.setIfInBounds_toArray, List.set_cons_zero, List.set_cons_succ, i64_w, i32_w]
             rfl
           refine pure_ (i := 29) (N := some 110) (v := undef) (a' := ?_) #[true, true, true, true, true, true, true, true, true, true, true, true, true, true, true, true, true, true, true, true, true, true, true, true, true, true, true, true, true, true, false, false, false, false, false] rfl rfl (any_of HT_.out (by kernel_rfl)) (fun _ _ _ h => h) (Or.inr ⟨by rfl, rfl⟩) ?_ ?_
           rotate_left
           · simp only [Act.put, List.setIfInBounds_toArray, List.set_cons_zero, List.set_cons_succ, i64_w, i32_w]
             rfl
           refine pure_ (i := 30) (N := some 111) (v := undef) (a' := ?_) #[true, true, true, true, true, true, true, true, true, true, true, true, true, true, true, true, true, true, true, true, true, true, true, true, true, true, true, true, true, true, true, false, false, false, false] rfl rfl (any_of HT_.out (by kernel_rfl)) (fun _ _ _ h => h) (Or.inr ⟨by rfl, rfl⟩) ?_ ?_
           rotate_left
           · simp only [Act.put, List.setIfInBounds_toArray, List.set_cons_zero, List.set_cons_succ, i64_w, i32_w]
             rfl
           refine pure_ (i := 31) (N := some 112) (v := undef) (a' := ?_) #[true, true, true, true, true, true, true, true, true, true, true, true, true, true, true, true, true, true, true, true, true, true, true, true, true, true, true, true, true, true, true, true, false, false, false] rfl rfl (any_of HT_.out (by kernel_rfl)) (fun _ _ _ h => h) (Or.inr ⟨by rfl, rfl⟩) ?_ ?_
           rotate_left
           · simp only [Act.put, List.setIfInBounds_toArray, List.set_cons_zero, List.set_cons_succ, i64_w, i32_w]
             rfl
           refine pure_ (i := 32) (N := some 113) (v := undef) (a' := ?_) #[true, true, true, true, true, true, true, true, true, true, true, true, true, true, true, true, true, true, true, true, true, true, true, true, true, true, true, true, true, true, true, true, true, false, false] rfl rfl (any_of HT_.out (by kernel_rfl)) (fun _ _ _ h => h) (Or.inr ⟨by rfl, rfl⟩) ?_ ?_
           rotate_left
           · simp only [Act.put, List.setIfInBounds_toArray, List.set_cons_zero, List.set_cons_succ, i64_w, i32_w]
             rfl
           refine pj_ 33 114 #[true, true, true, true, true, true, true, true, true, true, true, true, true, true, true, true, true, true, true, true, true, true, true, true, true, true, true, true, true, true, true, true, true, true, false] rfl rfl (any_of HT_.out (by kernel_rfl)) (fun _ _ _ h => h) ?_
           refine pj_ 34 115 #[true, true, true, true, true, true, true, true, true, true, true, true, true, true, true, true, true, true, true, true, true, true, true, true, true, true, true, true, true, true, true, true, true, true, true] rfl rfl (any_of HT_.out (by kernel_rfl)) (fun _ _ _ h => h) ?_
           refine done_ (done_of HT_.out (by kernel_rfl)) ?_
           try go_wp2
           go_ret
           exact (rq (ph HB.out))
         rw [if_neg c35] at H
         have c35b0 := decide_eq_false c35
         clear c35
         by_cases c38 : x11_3 < t422
         rotate_left
         · rw [if_neg c38] at H
           have c38b0 := decide_eq_false c38
           clear c38
           have H' := am H
           clear H
           try go_wp2
           replace HO_3 := am (Kd.V_drew HO_3.out)
           replace HB := am (below_drew1 HB.out)
           have p427 : 0 ≤ (x11_3 : Int) := ofb
           have q427 : x11_3 < (t417.length : Int) := ofb
           obtain ⟨ad427, A427_0, c427_0, e427, hx427_0, hx427_1, hl427_0, hi427_0⟩ := at_T31 (Kd.V_reads' HO_3.out).2.2 x11_3 p427 q427
           cases e427
           obtain ⟨ce427, hce427, hMe427, hcc427⟩ := Kd.V_get HO_3.out z31 x11_3 p427 (by first | exact q427 | exact ofb | (have e_ := (Kd.V_reads' HO_3.out).1; omega))
           obtain ⟨ua427_0, uc427_0, rfl, ul427_0, ge427_0⟩ := k31_openF hMe427
           have hv427_0 := hcc427 0 _ rfl
           rw [Nat.add_zero] at hv427_0
           replace hv427_0 := Option.some.inj (hv427_0.symm.trans hx427_0)
           injection hv427_0 with hva_ hvn_ hvc_
           rw [hva_] at ge427_0
           rw [hvc_] at ul427_0
           have HL427_0 := am (show Kd.V k43 43 _ w.heap.size _ _ ((rd_T31 t417 x11_3).f0) from Kd.V_mk ul427_0 ge427_0)
           clear hva_ hvn_ hvc_ ge427_0 ul427_0
           clear hcc427 hce427
           have HR427_0 := am hi427_0
           have HC427_0 := am hl427_0
           clear hi427_0 hl427_0
           replace p427 := eq_true p427
           replace q427 := eq_true q427
           have p428 : 0 ≤ (t422 : Int) := ofb
           have q428 : t422 < (t417.length : Int) := ofb
           obtain ⟨ad428, A428_0, c428_0, e428, hx428_0, hx428_1, hl428_0, hi428_0⟩ := at_T31 (Kd.V_reads' HO_3.out).2.2 t422 p428 q428
           obtain rfl : ad427 = ad428 := (by injection e428)
           obtain ⟨ce428, hce428, hMe428, hcc428⟩ := Kd.V_get HO_3.out z31 t422 p428 (by first | exact q428 | exact ofb | (have e_ := (Kd.V_reads' HO_3.out).1; omega))
           obtain ⟨ua428_0, uc428_0, rfl, ul428_0, ge428_0⟩ := k31_openF hMe428
           have hv428_0 := hcc428 0 _ rfl
           rw [Nat.add_zero] at hv428_0
           replace hv428_0 := Option.some.inj (hv428_0.symm.trans hx428_0)
           injection hv428_0 with hva_ hvn_ hvc_
           rw [hva_] at ge428_0
           rw [hvc_] at ul428_0
           have HL428_0 := am (show Kd.V k43 43 _ w.heap.size _ _ ((rd_T31 t417 t422).f0) from Kd.V_mk ul428_0 ge428_0)
           clear hva_ hvn_ hvc_ ge428_0 ul428_0
           clear hcc428 hce428
           have HR428_0 := am hi428_0
           have HC428_0 := am hl428_0
           clear hi428_0 hl428_0
           replace p428 := eq_true p428
           replace q428 := eq_true q428
           refine start_ (n := 35) (S := fun w' => w'.cell? (ad427.add ((x11_3).toNat * 2)) = some (.slice A427_0 ((rd_T31 t417 x11_3).f0).length c427_0) ∧ w'.cell? ⟨(ad427.add ((x11_3).toNat * 2)).block, (ad427.add ((x11_3).toNat * 2)).off + 1, none⟩ = some (.int .i64 ((rd_T31 t417 x11_3).f1)) ∧ w'.cell? (ad427.add ((t422).toNat * 2)) = some (.slice A428_0 ((rd_T31 t417 t422).f0).length c428_0) ∧ w'.cell? ⟨(ad427.add ((t422).toNat * 2)).block, (ad427.add ((t422).toNat * 2)).off + 1, none⟩ = some (.int .i64 ((rd_T31 t417 t422).f1))) (ds := []) #[false, false, false, false, false, false, false, false, false, false, false, false, false, false, false, false, false, false, false, false, false, false, false, false, false, false, false, false, false, false, false, false, false, false, false] (by kernel_rfl) rfl rfl ⟨hx427_0, hx427_1, hx428_0, hx428_1⟩ (fun hHeld => ?_); refine with_tabW laws_FnOpen.tab19 laws_FnOpen.bits19 (fun HT_ HW_ => ?_)
           generalize wc.drew = w44 at HO_3 HB HL427_0 HL428_0 HR427_0 HR428_0 hx427_0 hx427_1 hx428_0 hx428_1 hHeld ⊢
           refine pj_ 0 81 #[true, false, false, false, false, false, false, false, false, false, false, false, false, false, false, false, false, false, false, false, false, false, false, false, false, false, false, false, false, false, false, false, false, false, false] rfl rfl (any_of HT_.out (by kernel_rfl)) (fun _ _ _ h => h) ?_
           refine pj_ 1 82 #[true, true, false, false, false, false, false, false, false, false, false, false, false, false, false, false, false, false, false, false, false, false, false, false, false, false, false, false, false, false, false, false, false, false, false] rfl rfl (any_of HT_.out (by kernel_rfl)) (fun _ _ _ h => h) ?_
           refine one_ (i := 2) (N := some 83) #[true, true, true, false, false, false, false, false, false, false, false, false, false, false, false, false, false, false, false, false, false, false, false, false, false, false, false, false, false, false, false, false, false, false, false] rfl rfl (one_of HT_.out (by kernel_rfl)) (by decide) (fun K hK => ?_)
           refine goes_ Try.func8 (by kernel_rfl) rfl #[.slice (some ad427) t417.length co8, .int .i64 x11_3] (by rfl) rfl rfl (by (try simp only [List.map_toArray, List.map_cons, List.map_nil]); first | done | rfl | (simp only [List.length_drop, List.length_take]; rfl)) ?_
           with_reducible refine (impl_FlashClean.calls kj25 _ _ t417 x11_3 t426 _ ?side1 ?side2 A29.out).mono ?_
           (case side1 => repeat (first | exact (Kd.V_reads' HO_3.out).2.2 | (with_reducible refine Kd.C_alloc ?_ _) | (with_reducible refine Kd.C_drewN ?_ _) | (with_reducible refine Kd.C_drew ?_)))
           (case side2 => exact (Kd.V_reads' HO_3.out).2.1)
           rintro e w45 ⟨rfl, hb⟩
           have HS0_ := (hb.cell (World.block_lt_of_cell? _ _ (hHeld.1))).trans (hHeld.1)
           have HS1_ := (hb.cell (World.block_lt_of_cell? _ _ (hHeld.2.1))).trans (hHeld.2.1)
           have HS2_ := (hb.cell (World.block_lt_of_cell? _ _ (hHeld.2.2.1))).trans (hHeld.2.2.1)
           have HS3_ := (hb.cell (World.block_lt_of_cell? _ _ (hHeld.2.2.2))).trans (hHeld.2.2.2)
           refine ⟨_, rfl, ?_⟩
           replace HO_3 := am (Kd.V_below (by (with_reducible repeat (first | apply Kd.V_alloc | apply Kd.V_drewN | apply Kd.V_drew)); exact HO_3.out) hb)
           replace HB := am (below_step (ph HB.out) hb)
           (try clear hb)
           (try clear hb2)
           (try clear hk)
           (try clear hi)
           refine hK.out _ _ ⟨HS0_, HS1_, HS2_, HS3_⟩ (fun hHeld => ?_)
           clear hK K
           refine norm_ (a' := ?_) ?_ ?_
           rotate_left
           · show Act.put _ (some 83) _ = _
             simp only [Act.put, List.setIfInBounds_toArray, List.set_cons_zero, List.set_cons_succ, i64_w, i32_w]
             rfl
           refine pj_ 3 84 #[true, true, true, true, false, false, false, false, false, false, false, false, false, false, false, false, false, false, false, false, false, false, false, false, false, false, false, false, false, false, false, false, false, false, false] rfl rfl (any_of HT_.out (by kernel_rfl)) (fun _ _ _ h => h) ?_
           refine pj_ 4 85 #[true, true, true, true, true, false, false, false, false, false, false, false, false, false, false, false, false, false, false, false, false, false, false, false, false, false, false, false, false, false, false, false, false, false, false] rfl rfl (any_of HT_.out (by kernel_rfl)) (fun _ _ _ h => h) ?_
           refine pj_ 5 86 #[true, true, true, true, true, true, false, false, false, false, false, false, false, false, false, false, false, false, false, false, false, false, false, false, false, false, false, false, false, false, false, false, false, false, false] rfl rfl (any_of HT_.out (by kernel_rfl)) (fun _ _ _ h => h) ?_
           refine pj_ 6 87 #[true, true, true, true, true, true, true, false, false, false, false, false, false, false, false, false, false, false, false, false, false, false, false, false, false, false, false, false, false, false, false, false, false, false, false] rfl rfl (any_of HT_.out (by kernel_rfl)) (fun _ _ _ h => h) ?_
           refine pj_ 7 88 #[true, true, true, true, true, true, true, true, false, false, false, false, false, false, false, false, false, false, false, false, false, false, false, false, false, false, false, false, false, false, false, false, false, false, false] rfl rfl (any_of HT_.out (by kernel_rfl)) (fun _ _ _ h => h) ?_
           refine pj_ 8 89 #[true, true, true, true, true, true, true, true, true, false, false, false, false, false, false, false, false, false, false, false, false, false, false, false, false, false, false, false, false, false, false, false, false, false, false] rfl rfl (any_of HT_.out (by kernel_rfl)) (fun _ _ _ h => h) ?_
           refine pj_ 10 91 #[true, true, true, true, true, true, true, true, true, false, true, false, false, false, false, false, false, false, false, false, false, false, false, false, false, false, false, false, false, false, false, false, false, false, false] rfl rfl (any_of HT_.out (by kernel_rfl)) (fun _ _ _ h => h) ?_
           refine pj_ 11 92 #[true, true, true, true, true, true, true, true, true, false, true, true, false, false, false, false, false, false, false, false, false, false, false, false, false, false, false, false, false, false, false, false, false, false, false] rfl rfl (any_of HT_.out (by kernel_rfl)) (fun _ _ _ h => h) ?_
           refine pj_ 12 93 #[true, true, true, true, true, true, true, true, true, false, true, true, true, false, false, false, false, false, false, false, false, false, false, false, false, false, false, false, false, false, false, false, false, false, false] rfl rfl (any_of HT_.out (by kernel_rfl)) (fun _ _ _ h => h) ?_
           refine pj_ 13 94 #[true, true, true, true, true, true, true, true, true, false, true, true, true, true, false, false, false, false, false, false, false, false, false, false, false, false, false, false, false, false, false, false, false, false, false] rfl rfl (any_of HT_.out (by kernel_rfl)) (fun _ _ _ h => h) ?_
           refine pm_ 9 90 #[true, true, true, true, true, true, true, true, true, true, true, true, true, true, false, false, false, false, false, false, false, false, false, false, false, false, false, false, false, false, false, false, false, false, false] rfl rfl (take_ofW HT_.out HW_.out (by kernel_rfl)) (fun _ _ _ h => h) hHeld ?_
           refine pm_ 14 95 #[true, true, true, true, true, true, true, true, true, true, true, true, true, true, true, false, false, false, false, false, false, false, false, false, false, false, false, false, false, false, false, false, false, false, false] rfl rfl (take_ofW HT_.out HW_.out (by kernel_rfl)) (fun _ _ _ h => h) hHeld ?_
           refine pj_ 15 96 #[true, true, true, true, true, true, true, true, true, true, true, true, true, true, true, true, false, false, false, false, false, false, false, false, false, false, false, false, false, false, false, false, false, false, false] rfl rfl (any_of HT_.out (by kernel_rfl)) (fun _ _ _ h => h) ?_
           refine pj_ 16 97 #[true, true, true, true, true, true, true, true, true, true, true, true, true, true, true, true, true, false, false, false, false, false, false, false, false, false, false, false, false, false, false, false, false, false, false] rfl rfl (any_of HT_.out (by kernel_rfl)) (fun _ _ _ h => h) ?_
           refine pj_ 17 98 #[true, true, true, true, true, true, true, true, true, true, true, true, true, true, true, true, true, true, false, false, false, false, false, false, false, false, false, false, false, false, false, false, false, false, false] rfl rfl (any_of HT_.out (by kernel_rfl)) (fun _ _ _ h => h) ?_
           refine pj_ 18 99 #[true, true, true, true, true, true, true, true, true, true, true, true, true, true, true, true, true, true, true, false, false, false, false, false, false, false, false, false, false, false, false, false, false, false, false] rfl rfl (any_of HT_.out (by kernel_rfl)) (fun _ _ _ h => h) ?_
           refine pj_ 19 100 #[true, true, true, true, true, true, true, true, true, true, true, true, true, true, true, true, true, true, true, true, false, false, false, false, false, false, false, false, false, false, false, false, false, false, false] rfl rfl (any_of HT_.out (by kernel_rfl)) (fun _ _ _ h => h) ?_
           refine pj_ 20 101 #[true, true, true, true, true, true, true, true, true, true, true, true, true, true, true, true, true, true, true, true, true, false, false, false, false, false, false, false, false, false, false, false, false, false, false] rfl rfl (any_of HT_.out (by kernel_rfl)) (fun _ _ _ h => h) ?_
           refine pure_ (i := 21) (N := some 102) (v := undef) (a' := ?_) #[true, true, true, true, true, true, true, true, true, true, true, true, true, true, true, true, true, true, true, true, true, true, false, false, false, false, false, false, false, false, false, false, false, false, false] rfl rfl (any_of HT_.out (by kernel_rfl)) (fun _ _ _ h => h) (Or.inr ⟨by rfl, rfl⟩) ?_ ?_
           rotate_left
           · simp only [Act.put, List.setIfInBounds_toArray, List.set_cons_zero, List.set_cons_succ, i64_w, i32_w]
             rfl
           refine pure_ (i := 22) (N := some 103) (v := undef) (a' := ?_) #[true, true, true, true, true, true, true, true, true, true, true, true, true, true, true, true, true, true, true, true, true, true, true, false, false, false, false, false, false, false, false, false, false, false, false] rfl rfl (any_of HT_.out (by kernel_rfl)) (fun _ _ _ h => h) (Or.inr ⟨by rfl, rfl⟩) ?_ ?_
           rotate_left
           · simp only [Act.put, List.setIfInBounds_toArray, List.set_cons_zero, List.set_cons_succ, i64_w, i32_w]
             rfl
           refine pure_ (i := 23) (N := some 104) (v := undef) (a' := ?_) #[true, true, true, true, true, true, true, true, true, true, true, true, true, true, true, true, true, true, true, true, true, true, true, true, false, false, false, false, false, false, false, false, false, false, false] rfl rfl (any_of HT_.out (by kernel_rfl)) (fun _ _ _ h => h) (Or.inr ⟨by rfl, rfl⟩) ?_ ?_
           rotate_left
           · simp only [Act.put, List.setIfInBounds_toArray, List.set_cons_zero, List.set_cons_succ, i64_w, i32_w]
             rfl
           refine pure_ (i := 24) (N := some 105) (v := undef) (a' := ?_) #[true, true, true, true, true, true, true, true, true, true, true, true, true, true, true, true, true, true, true, true, true, true, true, true, true, false, false, false, false, false, false, false, false, false, false] rfl rfl (any_of HT_.out (by kernel_rfl)) (fun _ _ _ h => h) (Or.inr ⟨by rfl, rfl⟩) ?_ ?_
           rotate_left
           · simp only [Act.put, List.setIfInBounds_toArray, List.set_cons_zero, List.set_cons_succ, i64_w, i32_w]
             rfl
           refine pure_ (i := 25) (N := some 106) (v := undef) (a' := ?_) #[true, true, true, true, true, true, true, true, true, true, true, true, true, true, true, true, true, true, true, true, true, true, true, true, true, true, false, false, false, false, false, false, false, false, false] rfl rfl (any_of HT_.out (by kernel_rfl)) (fun _ _ _ h => h) (Or.inr ⟨by rfl, rfl⟩) ?_ ?_
           rotate_left
           · simp only [Act.put, List.setIfInBounds_toArray, List.set_cons_zero, List.set_cons_succ, i64_w, i32_w]
             rfl
           refine pure_ (i := 26) (N := some 107) (v := undef) (a' := ?_) #[true, true, true, true, true, true, true, true, true, true, true, true, true, true, true, true, true, true, true, true, true, true, true, true, true, true, true, false, false, false, false, false, false, false, false] rfl rfl (any_of HT_.out (by kernel_rfl)) (fun _ _ _ h => h) (Or.inr ⟨by rfl, rfl⟩) ?_ ?_
           rotate_left
           · simp only [Act.put, List.setIfInBounds_toArray, List.set_cons_zero, List.set_cons_succ, i64_w, i32_w]
             rfl
           refine pure_ (i := 27) (N := some 108) (v := undef) (a' := ?_) #[true, true, true, true, true, true, true, true, true, true, true, true, true, true, true, true, true, true, true, true, true, true, true, true, true, true, true, true, false, false, false, false, false, false, false] rfl rfl (any_of HT_.out (by kernel_rfl)) (fun _ _ _ h => h) (Or.inr ⟨by rfl, rfl⟩) ?_ ?_
           rotate_left
           · simp only [Act.put, List.setIfInBounds_toArray, List.set_cons_zero, List.set_cons_succ, i64_w, i32_w]
             rfl
           refine pure_ (i := 28) (N := some 109) (v := undef) (a' := ?_) #[true, true, true, true, true, true, true, true, true, true, true, true, true, true, true, true, true, true, true, true, true, true, true, true, true, true, true, true, true, false, false, false, false, false, false] rfl rfl (any_of HT_.out (by kernel_rfl)) (fun _ _ _ h => h) (Or.inr ⟨by rfl, rfl⟩) ?_ ?_
           rotate_left
           · simp only [Act.put, List.setIfInBounds_toArray, List.set_cons_zero, List.set_cons_succ, i64_w, i32_w]
             rfl
           refine pure_ (i := 29) (N := some 110) (v := undef) (a' := ?_) #[true, true, true, true, true, true, true, true, true, true, true, true, true, true, true, true, true, true, true, true, true, true, true, true, true, true, true, true, true, true, false, false, false, false, false] rfl rfl (any_of HT_.out (by kernel_rfl)) (fun _ _ _ h => h) (Or.inr ⟨by rfl, rfl⟩) ?_ ?_
           rotate_left
           · simp only [Act.put, List.setIfInBounds_toArray, List.set_cons_zero, List.set_cons_succ, i64_w, i32_w]
             rfl
           refine pure_ (i := 30) (N := some 111) (v := undef) (a' := ?_) #[true, true, true, true, true, true, true, true, true, true, true, true, true, true, true, true, true, true, true, true, true, true, true, true, true, true, true, true, true, true, true, false, false, false, false] rfl rfl (any_of HT_.out (by kernel_rfl)) (fun _ _ _ h => h) (Or.inr ⟨by rfl, rfl⟩) ?_ ?_
           rotate_left
           · simp only [Act.put, List.setIfInBounds_toArray, List.set_cons_zero, List.set_cons_succ, i64_w, i32_w]
             rfl
           refine pure_ (i := 31) (N := some 112) (v := undef) (a' := ?_) #[true, true, true, true, true, true, true, true, true, true, true, true, true, true, true, true, true, true, true, true, true, true, true, true, true, true, true, true, true, true, true, true, false, false, false] rfl rfl (any_of HT_.out (by kernel_rfl)) (fun _ _ _ h => h) (Or.inr ⟨by rfl, rfl⟩) ?_ ?_
           rotate_left
           · simp only [Act.put, List.setIfInBounds_toArray, List.set_cons_zero, List.set_cons_succ, i64_w, i32_w]
             rfl
           refine pj_ 32 113 #[true, true, true, true, true, true, true, true, true, true, true, true, true, true, true, true, true, true, true, true, true, true, true, true, true, true, true, true, true, true, true, true, true, false, false] rfl rfl (any_of HT_.out (by kernel_rfl)) (fun _ _ _ h => h) ?_
           refine pj_ 33 114 #[true, true, true, true, true, true, true, true, true, true, true, true, true, true, true, true, true, true, true, true, true, true, true, true, true, true, true, true, true, true, true, true, true, true, false] rfl rfl (any_of HT_.out (by kernel_rfl)) (fun _ _ _ h => h) ?_
           refine pj_ 34 115 #[true, true, true, true, true, true, true, true, true, true, true, true, true, true, true, true, true, true, true, true, true, true, true, true, true, true, true, true, true, true, true, true, true, true, true] rfl rfl (any_of HT_.out (by kernel_rfl)) (fun _ _ _ h => h) ?_
           refine done_ (done_of HT_.out (by kernel_rfl)) ?_
           try go_wp2
           go_roundg kj25
           case measure => have := HJ5.out; have := HK2.out; have := HK3.out; have := HJ25.out; omega
           case rel => exact ⟨(wrap64 (x11_3 + 1)), rf, H', ⟨by have := HJ5.out; have := HK2.out; have := HK3.out; have := HJ25.out; omega⟩, ⟨by (with_reducible repeat (first | apply Kd.V_alloc | apply Kd.V_drewN | apply Kd.V_drew)); exact HO_3.out⟩, ⟨ph HB.out⟩⟩
         rw [if_pos c38] at H
         have c38b0 := decide_eq_true c38
         clear c38
         by_cases c39 : ((rd_T31 t417 x11_3).f1) = ((rd_T31 t417 t422).f1)
         · rw [if_pos c39] at H
           have c39b0 : (((rd_T31 t417 x11_3).f1) == ((rd_T31 t417 t422).f1)) = true := beq_iff_eq.mpr c39
           have c39b1 : (((rd_T31 t417 x11_3).f1) != ((rd_T31 t417 t422).f1)) = false := bne_eq_false_iff_eq.mpr c39
           clear c39
           obtain rfl := Option.some.inj H
           try go_wp2
           replace HO_3 := am (Kd.V_drew HO_3.out)
           replace HB := am (below_drew1 HB.out)
           have p427 : 0 ≤ (x11_3 : Int) := ofb
           have q427 : x11_3 < (t417.length : Int) := ofb
           obtain ⟨ad427, A427_0, c427_0, e427, hx427_0, hx427_1, hl427_0, hi427_0⟩ := at_T31 (Kd.V_reads' HO_3.out).2.2 x11_3 p427 q427
           cases e427
           obtain ⟨ce427, hce427, hMe427, hcc427⟩ := Kd.V_get HO_3.out z31 x11_3 p427 (by first | exact q427 | exact ofb | (have e_ := (Kd.V_reads' HO_3.out).1; omega))
           obtain ⟨ua427_0, uc427_0, rfl, ul427_0, ge427_0⟩ := k31_openF hMe427
           have hv427_0 := hcc427 0 _ rfl
           rw [Nat.add_zero] at hv427_0
           replace hv427_0 := Option.some.inj (hv427_0.symm.trans hx427_0)
           injection hv427_0 with hva_ hvn_ hvc_
           rw [hva_] at ge427_0
           rw [hvc_] at ul427_0
           have HL427_0 := am (show Kd.V k43 43 _ w.heap.size _ _ ((rd_T31 t417 x11_3).f0) from Kd.V_mk ul427_0 ge427_0)
           clear hva_ hvn_ hvc_ ge427_0 ul427_0
           clear hcc427 hce427
           have HR427_0 := am hi427_0
           have HC427_0 := am hl427_0
           clear hi427_0 hl427_0
           replace p427 := eq_true p427
           replace q427 := eq_true q427
           have p428 : 0 ≤ (t422 : Int) := ofb
           have q428 : t422 < (t417.length : Int) := ofb
           obtain ⟨ad428, A428_0, c428_0, e428, hx428_0, hx428_1, hl428_0, hi428_0⟩ := at_T31 (Kd.V_reads' HO_3.out).2.2 t422 p428 q428
           obtain rfl : ad427 = ad428 := (by injection e428)
           obtain ⟨ce428, hce428, hMe428, hcc428⟩ := Kd.V_get HO_3.out z31 t422 p428 (by first | exact q428 | exact ofb | (have e_ := (Kd.V_reads' HO_3.out).1; omega))
           obtain ⟨ua428_0, uc428_0, rfl, ul428_0, ge428_0⟩ := k31_openF hMe428
           have hv428_0 := hcc428 0 _ rfl
           rw [Nat.add_zero] at hv428_0
           replace hv428_0 := Option.some.inj (hv428_0.symm.trans hx428_0)
           injection hv428_0 with hva_ hvn_ hvc_
           rw [hva_] at ge428_0
           rw [hvc_] at ul428_0
           have HL428_0 := am (show Kd.V k43 43 _ w.heap.size _ _ ((rd_T31 t417 t422).f0) from Kd.V_mk ul428_0 ge428_0)
           clear hva_ hvn_ hvc_ ge428_0 ul428_0
           clear hcc428 hce428
           have HR428_0 := am hi428_0
           have HC428_0 := am hl428_0
           clear hi428_0 hl428_0
           replace p428 := eq_true p428
           replace q428 := eq_true q428
           have p429 : 0 ≤ (x11_3 : Int) := ofb
           have q429 : x11_3 < (t417.length : Int) := ofb
           obtain ⟨ad429, A429_0, c429_0, e429, hx429_0, hx429_1, hl429_0, hi429_0⟩ := at_T31 (Kd.V_reads' HO_3.out).2.2 x11_3 p429 q429
           obtain rfl : ad427 = ad429 := (by injection e429)
           obtain ⟨ce429, hce429, hMe429, hcc429⟩ := Kd.V_get HO_3.out z31 x11_3 p429 (by first | exact q429 | exact ofb | (have e_ := (Kd.V_reads' HO_3.out).1; omega))
           obtain ⟨ua429_0, uc429_0, rfl, ul429_0, ge429_0⟩ := k31_openF hMe429
           have hv429_0 := hcc429 0 _ rfl
           rw [Nat.add_zero] at hv429_0
           replace hv429_0 := Option.some.inj (hv429_0.symm.trans hx429_0)
           injection hv429_0 with hva_ hvn_ hvc_
           rw [hva_] at ge429_0
           rw [hvc_] at ul429_0
           have HL429_0 := am (show Kd.V k43 43 _ w.heap.size _ _ ((rd_T31 t417 x11_3).f0) from Kd.V_mk ul429_0 ge429_0)
           clear hva_ hvn_ hvc_ ge429_0 ul429_0
           clear hcc429 hce429
           have HR429_0 := am hi429_0
           have HC429_0 := am hl429_0
           clear hi429_0 hl429_0
           replace p429 := eq_true p429
           replace q429 := eq_true q429
           have ea_ := Option.some.inj (hx427_0.symm.trans hx429_0)
           injection ea_ with ea_ en_ ec_
           subst ea_
           subst ec_
           clear en_
           have p430 : 0 ≤ (t422 : Int) := ofb
           have q430 : t422 < (t417.length : Int) := ofb
           obtain ⟨ad430, A430_0, c430_0, e430, hx430_0, hx430_1, hl430_0, hi430_0⟩ := at_T31 (Kd.V_reads' HO_3.out).2.2 t422 p430 q430
           obtain rfl : ad427 = ad430 := (by injection e430)
           obtain ⟨ce430, hce430, hMe430, hcc430⟩ := Kd.V_get HO_3.out z31 t422 p430 (by first | exact q430 | exact ofb | (have e_ := (Kd.V_reads' HO_3.out).1; omega))
           obtain ⟨ua430_0, uc430_0, rfl, ul430_0, ge430_0⟩ := k31_openF hMe430
           have hv430_0 := hcc430 0 _ rfl
           rw [Nat.add_zero] at hv430_0
           replace hv430_0 := Option.some.inj (hv430_0.symm.trans hx430_0)
           injection hv430_0 with hva_ hvn_ hvc_
           rw [hva_] at ge430_0
           rw [hvc_] at ul430_0
           have HL430_0 := am (show Kd.V k43 43 _ w.heap.size _ _ ((rd_T31 t417 t422).f0) from Kd.V_mk ul430_0 ge430_0)
           clear hva_ hvn_ hvc_ ge430_0 ul430_0
           clear hcc430 hce430
           have HR430_0 := am hi430_0
           have HC430_0 := am hl430_0
           clear hi430_0 hl430_0
           replace p430 := eq_true p430
           replace q430 := eq_true q430
           have ea_ := Option.some.inj (hx428_0.symm.trans hx430_0)
           injection ea_ with ea_ en_ ec_
           subst ea_
           subst ec_
           clear en_
           refine start_ (n := 35) (S := fun w' => w'.cell? (ad427.add ((x11_3).toNat * 2)) = some (.slice A427_0 ((rd_T31 t417 x11_3).f0).length c427_0) ∧ w'.cell? ⟨(ad427.add ((x11_3).toNat * 2)).block, (ad427.add ((x11_3).toNat * 2)).off + 1, none⟩ = some (.int .i64 ((rd_T31 t417 x11_3).f1)) ∧ w'.cell? (ad427.add ((t422).toNat * 2)) = some (.slice A428_0 ((rd_T31 t417 t422).f0).length c428_0) ∧ w'.cell? ⟨(ad427.add ((t422).toNat * 2)).block, (ad427.add ((t422).toNat * 2)).off + 1, none⟩ = some (.int .i64 ((rd_T31 t417 t422).f1)) ∧ w'.cell? (ad427.add ((x11_3).toNat * 2)) = some (.slice A427_0 ((rd_T31 t417 x11_3).f0).length c427_0) ∧ w'.cell? ⟨(ad427.add ((x11_3).toNat * 2)).block, (ad427.add ((x11_3).toNat * 2)).off + 1, none⟩ = some (.int .i64 ((rd_T31 t417 x11_3).f1)) ∧ w'.cell? (ad427.add ((t422).toNat * 2)) = some (.slice A428_0 ((rd_T31 t417 t422).f0).length c428_0) ∧ w'.cell? ⟨(ad427.add ((t422).toNat * 2)).block, (ad427.add ((t422).toNat * 2)).off + 1, none⟩ = some (.int .i64 ((rd_T31 t417 t422).f1))) (ds := []) #[false, false, false, false, false, false, false, false, false, false, false, false, false, false, false, false, false, false, false, false, false, false, false, false, false, false, false, false, false, false, false, false, false, false, false] (by kernel_rfl) rfl rfl ⟨hx427_0, hx427_1, hx428_0, hx428_1, hx429_0, hx429_1, hx430_0, hx430_1⟩ (fun hHeld => ?_); refine with_tabW laws_FnOpen.tab19 laws_FnOpen.bits19 (fun HT_ HW_ => ?_)
           generalize wc.drew = w40 at HO_3 HB HL427_0 HL428_0 HL429_0 HL430_0 HR427_0 HR428_0 HR429_0 HR430_0 hx427_0 hx427_1 hx428_0 hx428_1 hx429_0 hx429_1 hx430_0 hx430_1 hHeld ⊢
           refine pj_ 0 81 #[true, false, false, false, false, false, false, false, false, false, false, false, false, false, false, false, false, false, false, false, false, false, false, false, false, false, false, false, false, false, false, false, false, false, false] rfl rfl (any_of HT_.out (by kernel_rfl)) (fun _ _ _ h => h) ?_
           refine pj_ 1 82 #[true, true, false, false, false, false, false, false, false, false, false, false, false, false, false, false, false, false, false, false, false, false, false, false, false, false, false, false, false, false, false, false, false, false, false] rfl rfl (any_of HT_.out (by kernel_rfl)) (fun _ _ _ h => h) ?_
           refine one_ (i := 2) (N := some 83) #[true, true, true, false, false, false, false, false, false, false, false, false, false, false, false, false, false, false, false, false, false, false, false, false, false, false, false, false, false, false, false, false, false, false, false] rfl rfl (one_of HT_.out (by kernel_rfl)) (by decide) (fun K hK => ?_)
           refine goes_ Try.func8 (by kernel_rfl) rfl #[.slice (some ad427) t417.length co8, .int .i64 x11_3] (by rfl) rfl rfl (by (try simp only [List.map_toArray, List.map_cons, List.map_nil]); first | done | rfl | (simp only [List.length_drop, List.length_take]; rfl)) ?_
           with_reducible refine (impl_FlashClean.calls kj25 _ _ t417 x11_3 t426 _ ?side1 ?side2 A29.out).mono ?_
           (case side1 => repeat (first | exact (Kd.V_reads' HO_3.out).2.2 | (with_reducible refine Kd.C_alloc ?_ _) | (with_reducible refine Kd.C_drewN ?_ _) | (with_reducible refine Kd.C_drew ?_)))
           (case side2 => exact (Kd.V_reads' HO_3.out).2.1)
           rintro e w41 ⟨rfl, hb⟩
           have HS0_ := (hb.cell (World.block_lt_of_cell? _ _ (hHeld.1))).trans (hHeld.1)
           have HS1_ := (hb.cell (World.block_lt_of_cell? _ _ (hHeld.2.1))).trans (hHeld.2.1)
           have HS2_ := (hb.cell (World.block_lt_of_cell? _ _ (hHeld.2.2.1))).trans (hHeld.2.2.1)
           have HS3_ := (hb.cell (World.block_lt_of_cell? _ _ (hHeld.2.2.2.1))).trans (hHeld.2.2.2.1)
           have HS4_ := (hb.cell (World.block_lt_of_cell? _ _ (hHeld.2.2.2.2.1))).trans (hHeld.2.2.2.2.1)
           have HS5_ := (hb.cell (World.block_lt_of_cell? _ _ (hHeld.2.2.2.2.2.1))).trans (hHeld.2.2.2.2.2.1)
           have HS6_ := (hb.cell (World.block_lt_of_cell? _ _ (hHeld.2.2.2.2.2.2.1))).trans (hHeld.2.2.2.2.2.2.1)
           have HS7_ := (hb.cell (World.block_lt_of_cell? _ _ (hHeld.2.2.2.2.2.2.2))).trans (hHeld.2.2.2.2.2.2.2)
           refine ⟨_, rfl, ?_⟩
           replace HO_3 := am (Kd.V_below (by (with_reducible repeat (first | apply Kd.V_alloc | apply Kd.V_drewN | apply Kd.V_drew)); exact HO_3.out) hb)
           replace HB := am (below_step (ph HB.out) hb)
           (try clear hb)
           (try clear hb2)
           (try clear hk)
           (try clear hi)
           refine hK.out _ _ ⟨HS0_, HS1_, HS2_, HS3_, HS4_, HS5_, HS6_, HS7_⟩ (fun hHeld => ?_)
           clear hK K
           refine norm_ (a' := ?_) ?_ ?_
           rotate_left
           · show Act.put _ (some 83) _ = _
             simp only [Act.put, List.setIfInBounds_toArray, List.set_cons_zero, List.set_cons_succ, i64_w, i32_w]
             rfl
           refine pj_ 3 84 #[true, true, true, true, false, false, false, false, false, false, false, false, false, false, false, false, false, false, false, false, false, false, false, false, false, false, false, false, false, false, false, false, false, false, false] rfl rfl (any_of HT_.out (by kernel_rfl)) (fun _ _ _ h => h) ?_
           refine pj_ 4 85 #[true, true, true, true, true, false, false, false, false, false, false, false, false, false, false, false, false, false, false, false, false, false, false, false, false, false, false, false, false, false, false, false, false, false, false] rfl rfl (any_of HT_.out (by kernel_rfl)) (fun _ _ _ h => h) ?_
           refine pj_ 5 86 #[true, true, true, true, true, true, false, false, false, false, false, false, false, false, false, false, false, false, false, false, false, false, false, false, false, false, false, false, false, false, false, false, false, false, false] rfl rfl (any_of HT_.out (by kernel_rfl)) (fun _ _ _ h => h) ?_
           refine pj_ 6 87 #[true, true, true, true, true, true, true, false, false, false, false, false, false, false, false, false, false, false, false, false, false, false, false, false, false, false, false, false, false, false, false, false, false, false, false] rfl rfl (any_of HT_.out (by kernel_rfl)) (fun _ _ _ h => h) ?_
           refine pj_ 7 88 #[true, true, true, true, true, true, true, true, false, false, false, false, false, false, false, false, false, false, false, false, false, false, false, false, false, false, false, false, false, false, false, false, false, false, false] rfl rfl (any_of HT_.out (by kernel_rfl)) (fun _ _ _ h => h) ?_
           refine pj_ 8 89 #[true, true, true, true, true, true, true, true, true, false, false, false, false, false, false, false, false, false, false, false, false, false, false, false, false, false, false, false, false, false, false, false, false, false, false] rfl rfl (any_of HT_.out (by kernel_rfl)) (fun _ _ _ h => h) ?_
           refine pj_ 10 91 #[true, true, true, true, true, true, true, true, true, false, true, false, false, false, false, false, false, false, false, false, false, false, false, false, false, false, false, false, false, false, false, false, false, false, false] rfl rfl (any_of HT_.out (by kernel_rfl)) (fun _ _ _ h => h) ?_
           refine pj_ 11 92 #[true, true, true, true, true, true, true, true, true, false, true, true, false, false, false, false, false, false, false, false, false, false, false, false, false, false, false, false, false, false, false, false, false, false, false] rfl rfl (any_of HT_.out (by kernel_rfl)) (fun _ _ _ h => h) ?_
           refine pj_ 12 93 #[true, true, true, true, true, true, true, true, true, false, true, true, true, false, false, false, false, false, false, false, false, false, false, false, false, false, false, false, false, false, false, false, false, false, false] rfl rfl (any_of HT_.out (by kernel_rfl)) (fun _ _ _ h => h) ?_
           refine pj_ 13 94 #[true, true, true, true, true, true, true, true, true, false, true, true, true, true, false, false, false, false, false, false, false, false, false, false, false, false, false, false, false, false, false, false, false, false, false] rfl rfl (any_of HT_.out (by kernel_rfl)) (fun _ _ _ h => h) ?_
           refine pm_ 9 90 #[true, true, true, true, true, true, true, true, true, true, true, true, true, true, false, false, false, false, false, false, false, false, false, false, false, false, false, false, false, false, false, false, false, false, false] rfl rfl (take_ofW HT_.out HW_.out (by kernel_rfl)) (fun _ _ _ h => h) hHeld ?_
           refine pm_ 14 95 #[true, true, true, true, true, true, true, true, true, true, true, true, true, true, true, false, false, false, false, false, false, false, false, false, false, false, false, false, false, false, false, false, false, false, false] rfl rfl (take_ofW HT_.out HW_.out (by kernel_rfl)) (fun _ _ _ h => h) hHeld ?_
           refine pj_ 15 96 #[true, true, true, true, true, true, true, true, true, true, true, true, true, true, true, true, false, false, false, false, false, false, false, false, false, false, false, false, false, false, false, false, false, false, false] rfl rfl (any_of HT_.out (by kernel_rfl)) (fun _ _ _ h => h) ?_
           refine pj_ 16 97 #[true, true, true, true, true, true, true, true, true, true, true, true, true, true, true, true, true, false, false, false, false, false, false, false, false, false, false, false, false, false, false, false, false, false, false] rfl rfl (any_of HT_.out (by kernel_rfl)) (fun _ _ _ h => h) ?_
           refine pj_ 17 98 #[true, true, true, true, true, true, true, true, true, true, true, true, true, true, true, true, true, true, false, false, false, false, false, false, false, false, false, false, false, false, false, false, false, false, false] rfl rfl (any_of HT_.out (by kernel_rfl)) (fun _ _ _ h => h) ?_
           refine pj_ 18 99 #[true, true, true, true, true, true, true, true, true, true, true, true, true, true, true, true, true, true, true, false, false, false, false, false, false, false, false, false, false, false, false, false, false, false, false] rfl rfl (any_of HT_.out (by kernel_rfl)) (fun _ _ _ h => h) ?_
           refine pj_ 19 100 #[true, true, true, true, true, true, true, true, true, true, true, true, true, true, true, true, true, true, true, true, false, false, false, false, false, false, false, false, false, false, false, false, false, false, false] rfl rfl (any_of HT_.out (by kernel_rfl)) (fun _ _ _ h => h) ?_
           refine pj_ 20 101 #[true, true, true, true, true, true, true, true, true, true, true, true, true, true, true, true, true, true, true, true, true, false, false, false, false, false, false, false, false, false, false, false, false, false, false] rfl rfl (any_of HT_.out (by kernel_rfl)) (fun _ _ _ h => h) ?_
           refine pj_ 21 102 #[true, true, true, true, true, true, true, true, true, true, true, true, true, true, true, true, true, true, true, true, true, true, false, false, false, false, false, false, false, false, false, false, false, false, false] rfl rfl (any_of HT_.out (by kernel_rfl)) (fun _ _ _ h => h) ?_
           refine pj_ 22 103 #[true, true, true, true, true, true, true, true, true, true, true, true, true, true, true, true, true, true, true, true, true, true, true, false, false, false, false, false, false, false, false, false, false, false, false] rfl rfl (any_of HT_.out (by kernel_rfl)) (fun _ _ _ h => h) ?_
           refine pj_ 23 104 #[true, true, true, true, true, true, true, true, true, true, true, true, true, true, true, true, true, true, true, true, true, true, true, true, false, false, false, false, false, false, false, false, false, false, false] rfl rfl (any_of HT_.out (by kernel_rfl)) (fun _ _ _ h => h) ?_
           refine pj_ 24 105 #[true, true, true, true, true, true, true, true, true, true, true, true, true, true, true, true, true, true, true, true, true, true, true, true, true, false, false, false, false, false, false, false, false, false, false] rfl rfl (any_of HT_.out (by kernel_rfl)) (fun _ _ _ h => h) ?_
           refine pj_ 26 107 #[true, true, true, true, true, true, true, true, true, true, true, true, true, true, true, true, true, true, true, true, true, true, true, true, true, false, true, false, false, false, false, false, false, false, false] rfl rfl (any_of HT_.out (by kernel_rfl)) (fun _ _ _ h => h) ?_
           refine pj_ 27 108 #[true, true, true, true, true, true, true, true, true, true, true, true, true, true, true, true, true, true, true, true, true, true, true, true, true, false, true, true, false, false, false, false, false, false, false] rfl rfl (any_of HT_.out (by kernel_rfl)) (fun _ _ _ h => h) ?_
           refine pj_ 28 109 #[true, true, true, true, true, true, true, true, true, true, true, true, true, true, true, true, true, true, true, true, true, true, true, true, true, false, true, true, true, false, false, false, false, false, false] rfl rfl (any_of HT_.out (by kernel_rfl)) (fun _ _ _ h => h) ?_
           refine pj_ 29 110 #[true, true, true, true, true, true, true, true, true, true, true, true, true, true, true, true, true, true, true, true, true, true, true, true, true, false, true, true, true, true, false, false, false, false, false] rfl rfl (any_of HT_.out (by kernel_rfl)) (fun _ _ _ h => h) ?_
           refine pm_ 25 106 #[true, true, true, true, true, true, true, true, true, true, true, true, true, true, true, true, true, true, true, true, true, true, true, true, true, true, true, true, true, true, false, false, false, false, false] rfl rfl (take_ofW HT_.out HW_.out (by kernel_rfl)) (fun _ _ _ h => h) hHeld ?_
           refine pm_ 30 111 #[true, true, true, true, true, true, true, true, true, true, true, true, true, true, true, true, true, true, true, true, true, true, true, true, true, true, true, true, true, true, true, false, false, false, false] rfl rfl (take_ofW HT_.out HW_.out (by kernel_rfl)) (fun _ _ _ h => h) hHeld ?_
           refine pj_ 31 112 #[true, true, true, true, true, true, true, true, true, true, true, true, true, true, true, true, true, true, true, true, true, true, true, true, true, true, true, true, true, true, true, true, false, false, false] rfl rfl (any_of HT_.out (by kernel_rfl)) (fun _ _ _ h => h) ?_
           refine pj_ 32 113 #[true, true, true, true, true, true, true, true, true, true, true, true, true, true, true, true, true, true, true, true, true, true, true, true, true, true, true, true, true, true, true, true, true, false, false] rfl rfl (any_of HT_.out (by kernel_rfl)) (fun _ _ _ h => h) ?_
           refine pj_ 33 114 #[true, true, true, true, true, true, true, true, true, true, true, true, true, true, true, true, true, true, true, true, true, true, true, true, true, true, true, true, true, true, true, true, true, true, false] rfl rfl (any_of HT_.out (by kernel_rfl)) (fun _ _ _ h => h) ?_
           refine pj_ 34 115 #[true, true, true, true, true, true, true, true, true, true, true, true, true, true, true, true, true, true, true, true, true, true, true, true, true, true, true, true, true, true, true, true, true, true, true] rfl rfl (any_of HT_.out (by kernel_rfl)) (fun _ _ _ h => h) ?_
           refine done_ (done_of HT_.out (by kernel_rfl)) ?_
           try go_wp2
           go_ret
           exact (rq (ph HB.out))
         rw [if_neg c39] at H
         have c39b0 : (((rd_T31 t417 x11_3).f1) == ((rd_T31 t417 t422).f1)) = false := beq_eq_false_iff_ne.mpr c39
         have c39b1 : (((rd_T31 t417 x11_3).f1) != ((rd_T31 t417 t422).f1)) = true := bne_iff_ne.mpr c39
         have H' := am H
         clear H
         try go_wp2
         replace HO_3 := am (Kd.V_drew HO_3.out)
         replace HB := am (below_drew1 HB.out)
         have p427 : 0 ≤ (x11_3 : Int) := ofb
         have q427 : x11_3 < (t417.length : Int) := ofb
         obtain ⟨ad427, A427_0, c427_0, e427, hx427_0, hx427_1, hl427_0, hi427_0⟩ := at_T31 (Kd.V_reads' HO_3.out).2.2 x11_3 p427 q427
         cases e427
         obtain ⟨ce427, hce427, hMe427, hcc427⟩ := Kd.V_get HO_3.out z31 x11_3 p427 (by first | exact q427 | exact ofb | (have e_ := (Kd.V_reads' HO_3.out).1; omega))
         obtain ⟨ua427_0, uc427_0, rfl, ul427_0, ge427_0⟩ := k31_openF hMe427
         have hv427_0 := hcc427 0 _ rfl
         rw [Nat.add_zero] at hv427_0
         replace hv427_0 := Option.some.inj (hv427_0.symm.trans hx427_0)
         injection hv427_0 with hva_ hvn_ hvc_
         rw [hva_] at ge427_0
         rw [hvc_] at ul427_0
         have HL427_0 := am (show Kd.V k43 43 _ w.heap.size _ _ ((rd_T31 t417 x11_3).f0) from Kd.V_mk ul427_0 ge427_0)
         clear hva_ hvn_ hvc_ ge427_0 ul427_0
         clear hcc427 hce427
         have HR427_0 := am hi427_0
         have HC427_0 := am hl427_0
         clear hi427_0 hl427_0
         replace p427 := eq_true p427
         replace q427 := eq_true q427
         have p428 : 0 ≤ (t422 : Int) := ofb
         have q428 : t422 < (t417.length : Int) := ofb
         obtain ⟨ad428, A428_0, c428_0, e428, hx428_0, hx428_1, hl428_0, hi428_0⟩ := at_T31 (Kd.V_reads' HO_3.out).2.2 t422 p428 q428
         obtain rfl : ad427 = ad428 := (by injection e428)
         obtain ⟨ce428, hce428, hMe428, hcc428⟩ := Kd.V_get HO_3.out z31 t422 p428 (by first | exact q428 | exact ofb | (have e_ := (Kd.V_reads' HO_3.out).1; omega))
         obtain ⟨ua428_0, uc428_0, rfl, ul428_0, ge428_0⟩ := k31_openF hMe428
         have hv428_0 := hcc428 0 _ rfl
         rw [Nat.add_zero] at hv428_0
         replace hv428_0 := Option.some.inj (hv428_0.symm.trans hx428_0)
         injection hv428_0 with hva_ hvn_ hvc_
         rw [hva_] at ge428_0
         rw [hvc_] at ul428_0
         have HL428_0 := am (show Kd.V k43 43 _ w.heap.size _ _ ((rd_T31 t417 t422).f0) from Kd.V_mk ul428_0 ge428_0)
         clear hva_ hvn_ hvc_ ge428_0 ul428_0
         clear hcc428 hce428
         have HR428_0 := am hi428_0
         have HC428_0 := am hl428_0
         clear hi428_0 hl428_0
         replace p428 := eq_true p428
         replace q428 := eq_true q428
         have p429 : 0 ≤ (x11_3 : Int) := ofb
         have q429 : x11_3 < (t417.length : Int) := ofb
         obtain ⟨ad429, A429_0, c429_0, e429, hx429_0, hx429_1, hl429_0, hi429_0⟩ := at_T31 (Kd.V_reads' HO_3.out).2.2 x11_3 p429 q429
         obtain rfl : ad427 = ad429 := (by injection e429)
         obtain ⟨ce429, hce429, hMe429, hcc429⟩ := Kd.V_get HO_3.out z31 x11_3 p429 (by first | exact q429 | exact ofb | (have e_ := (Kd.V_reads' HO_3.out).1; omega))
         obtain ⟨ua429_0, uc429_0, rfl, ul429_0, ge429_0⟩ := k31_openF hMe429
         have hv429_0 := hcc429 0 _ rfl
         rw [Nat.add_zero] at hv429_0
         replace hv429_0 := Option.some.inj (hv429_0.symm.trans hx429_0)
         injection hv429_0 with hva_ hvn_ hvc_
         rw [hva_] at ge429_0
         rw [hvc_] at ul429_0
         have HL429_0 := am (show Kd.V k43 43 _ w.heap.size _ _ ((rd_T31 t417 x11_3).f0) from Kd.V_mk ul429_0 ge429_0)
         clear hva_ hvn_ hvc_ ge429_0 ul429_0
         clear hcc429 hce429
         have HR429_0 := am hi429_0
         have HC429_0 := am hl429_0
         clear hi429_0 hl429_0
         replace p429 := eq_true p429
         replace q429 := eq_true q429
         have ea_ := Option.some.inj (hx427_0.symm.trans hx429_0)
         injection ea_ with ea_ en_ ec_
         subst ea_
         subst ec_
         clear en_
         have p430 : 0 ≤ (t422 : Int) := ofb
         have q430 : t422 < (t417.length : Int) := ofb
         obtain ⟨ad430, A430_0, c430_0, e430, hx430_0, hx430_1, hl430_0, hi430_0⟩ := at_T31 (Kd.V_reads' HO_3.out).2.2 t422 p430 q430
         obtain rfl : ad427 = ad430 := (by injection e430)
         obtain ⟨ce430, hce430, hMe430, hcc430⟩ := Kd.V_get HO_3.out z31 t422 p430 (by first | exact q430 | exact ofb | (have e_ := (Kd.V_reads' HO_3.out).1; omega))
         obtain ⟨ua430_0, uc430_0, rfl, ul430_0, ge430_0⟩ := k31_openF hMe430
         have hv430_0 := hcc430 0 _ rfl
         rw [Nat.add_zero] at hv430_0
         replace hv430_0 := Option.some.inj (hv430_0.symm.trans hx430_0)
         injection hv430_0 with hva_ hvn_ hvc_
         rw [hva_] at ge430_0
         rw [hvc_] at ul430_0
         have HL430_0 := am (show Kd.V k43 43 _ w.heap.size _ _ ((rd_T31 t417 t422).f0) from Kd.V_mk ul430_0 ge430_0)
         clear hva_ hvn_ hvc_ ge430_0 ul430_0
         clear hcc430 hce430
         have HR430_0 := am hi430_0
         have HC430_0 := am hl430_0
         clear hi430_0 hl430_0
         replace p430 := eq_true p430
         replace q430 := eq_true q430
         have ea_ := Option.some.inj (hx428_0.symm.trans hx430_0)
         injection ea_ with ea_ en_ ec_
         subst ea_
         subst ec_
         clear en_
         refine start_ (n := 35) (S := fun w' => w'.cell? (ad427.add ((x11_3).toNat * 2)) = some (.slice A427_0 ((rd_T31 t417 x11_3).f0).length c427_0) ∧ w'.cell? ⟨(ad427.add ((x11_3).toNat * 2)).block, (ad427.add ((x11_3).toNat * 2)).off + 1, none⟩ = some (.int .i64 ((rd_T31 t417 x11_3).f1)) ∧ w'.cell? (ad427.add ((t422).toNat * 2)) = some (.slice A428_0 ((rd_T31 t417 t422).f0).length c428_0) ∧ w'.cell? ⟨(ad427.add ((t422).toNat * 2)).block, (ad427.add ((t422).toNat * 2)).off + 1, none⟩ = some (.int .i64 ((rd_T31 t417 t422).f1)) ∧ w'.cell? (ad427.add ((x11_3).toNat * 2)) = some (.slice A427_0 ((rd_T31 t417 x11_3).f0).length c427_0) ∧ w'.cell? ⟨(ad427.add ((x11_3).toNat * 2)).block, (ad427.add ((x11_3).toNat * 2)).off + 1, none⟩ = some (.int .i64 ((rd_T31 t417 x11_3).f1)) ∧ w'.cell? (ad427.add ((t422).toNat * 2)) = some (.slice A428_0 ((rd_T31 t417 t422).f0).length c428_0) ∧ w'.cell? ⟨(ad427.add ((t422).toNat * 2)).block, (ad427.add ((t422).toNat * 2)).off + 1, none⟩ = some (.int .i64 ((rd_T31 t417 t422).f1))) (ds := []) #[false, false, false, false, false, false, false, false, false, false, false, false, false, false, false, false, false, false, false, false, false, false, false, false, false, false, false, false, false, false, false, false, false, false, false] (by kernel_rfl) rfl rfl ⟨hx427_0, hx427_1, hx428_0, hx428_1, hx429_0, hx429_1, hx430_0, hx430_1⟩ (fun hHeld => ?_); refine with_tabW laws_FnOpen.tab19 laws_FnOpen.bits19 (fun HT_ HW_ => ?_)
         generalize wc.drew = w42 at HO_3 HB HL427_0 HL428_0 HL429_0 HL430_0 HR427_0 HR428_0 HR429_0 HR430_0 hx427_0 hx427_1 hx428_0 hx428_1 hx429_0 hx429_1 hx430_0 hx430_1 hHeld ⊢
         refine pj_ 0 81 #[true, false, false, false, false, false, false, false, false, false, false, false, false, false, false, false, false, false, false, false, false, false, false, false, false, false, false, false, false, false, false, false, false, false, false] rfl rfl (any_of HT_.out (by kernel_rfl)) (fun _ _ _ h => h) ?_
         refine pj_ 1 82 #[true, true, false, false, false, false, false, false, false, false, false, false, false, false, false, false, false, false, false, false, false, false, false, false, false, false, false, false, false, false, false, false, false, false, false] rfl rfl (any_of HT_.out (by kernel_rfl)) (fun _ _ _ h => h) ?_
         refine one_ (i := 2) (N := some 83) #[true, true, true, false, false, false, false, false, false, false, false, false, false, false, false, false, false, false, false, false, false, false, false, false, false, false, false, false, false, false, false, false, false, false, false] rfl rfl (one_of HT_.out (by kernel_rfl)) (by decide) (fun K hK => ?_)
         refine goes_ Try.func8 (by kernel_rfl) rfl #[.slice (some ad427) t417.length co8, .int .i64 x11_3] (by rfl) rfl rfl (by (try simp only [List.map_toArray, List.map_cons, List.map_nil]); first | done | rfl | (simp only [List.length_drop, List.length_take]; rfl)) ?_
         with_reducible refine (impl_FlashClean.calls kj25 _ _ t417 x11_3 t426 _ ?side1 ?side2 A29.out).mono ?_
         (case side1 => repeat (first | exact (Kd.V_reads' HO_3.out).2.2 | (with_reducible refine Kd.C_alloc ?_ _) | (with_reducible refine Kd.C_drewN ?_ _) | (with_reducible refine Kd.C_drew ?_)))
         (case side2 => exact (Kd.V_reads' HO_3.out).2.1)
         rintro e w43 ⟨rfl, hb⟩
         have HS0_ := (hb.cell (World.block_lt_of_cell? _ _ (hHeld.1))).trans (hHeld.1)
         have HS1_ := (hb.cell (World.block_lt_of_cell? _ _ (hHeld.2.1))).trans (hHeld.2.1)
         have HS2_ := (hb.cell (World.block_lt_of_cell? _ _ (hHeld.2.2.1))).trans (hHeld.2.2.1)
         have HS3_ := (hb.cell (World.block_lt_of_cell? _ _ (hHeld.2.2.2.1))).trans (hHeld.2.2.2.1)
         have HS4_ := (hb.cell (World.block_lt_of_cell? _ _ (hHeld.2.2.2.2.1))).trans (hHeld.2.2.2.2.1)
         have HS5_ := (hb.cell (World.block_lt_of_cell? _ _ (hHeld.2.2.2.2.2.1))).trans (hHeld.2.2.2.2.2.1)
         have HS6_ := (hb.cell (World.block_lt_of_cell? _ _ (hHeld.2.2.2.2.2.2.1))).trans (hHeld.2.2.2.2.2.2.1)
         have HS7_ := (hb.cell (World.block_lt_of_cell? _ _ (hHeld.2.2.2.2.2.2.2))).trans (hHeld.2.2.2.2.2.2.2)
         refine ⟨_, rfl, ?_⟩
         replace HO_3 := am (Kd.V_below (by (with_reducible repeat (first | apply Kd.V_alloc | apply Kd.V_drewN | apply Kd.V_drew)); exact HO_3.out) hb)
         replace HB := am (below_step (ph HB.out) hb)
         (try clear hb)
         (try clear hb2)
         (try clear hk)
         (try clear hi)
         refine hK.out _ _ ⟨HS0_, HS1_, HS2_, HS3_, HS4_, HS5_, HS6_, HS7_⟩ (fun hHeld => ?_)
         clear hK K
         refine norm_ (a' := ?_) ?_ ?_
         rotate_left
         · show Act.put _ (some 83) _ = _
           simp only [Act.put, List.setIfInBounds_toArray, List.set_cons_zero, List.set_cons_succ, i64_w, i32_w]
           rfl
         refine pj_ 3 84 #[true, true, true, true, false, false, false, false, false, false, false, false, false, false, false, false, false, false, false, false, false, false, false, false, false, false, false, false, false, false, false, false, false, false, false] rfl rfl (any_of HT_.out (by kernel_rfl)) (fun _ _ _ h => h) ?_
         refine pj_ 4 85 #[true, true, true, true, true, false, false, false, false, false, false, false, false, false, false, false, false, false, false, false, false, false, false, false, false, false, false, false, false, false, false, false, false, false, false] rfl rfl (any_of HT_.out (by kernel_rfl)) (fun _ _ _ h => h) ?_
         refine pj_ 5 86 #[true, true, true, true, true, true, false, false, false, false, false, false, false, false, false, false, false, false, false, false, false, false, false, false, false, false, false, false, false, false, false, false, false, false, false] rfl rfl (any_of HT_.out (by kernel_rfl)) (fun _ _ _ h => h) ?_
         refine pj_ 6 87 #[true, true, true, true, true, true, true, false, false, false, false, false, false, false, false, false, false, false, false, false, false, false, false, false, false, false, false, false, false, false, false, false, false, false, false] rfl rfl (any_of HT_.out (by kernel_rfl)) (fun _ _ _ h => h) ?_
         refine pj_ 7 88 #[true, true, true, true, true, true, true, true, false, false, false, false, false, false, false, false, false, false, false, false, false, false, false, false, false, false, false, false, false, false, false, false, false, false, false] rfl rfl (any_of HT_.out (by kernel_rfl)) (fun _ _ _ h => h) ?_
         refine pj_ 8 89 #[true, true, true, true, true, true, true, true, true, false, false, false, false, false, false, false, false, false, false, false, false, false, false, false, false, false, false, false, false, false, false, false, false, false, false] rfl rfl (any_of HT_.out (by kernel_rfl)) (fun _ _ _ h => h) ?_
         refine pj_ 10 91 #[true, true, true, true, true, true, true, true, true, false, true, false, false, false, false, false, false, false, false, false, false, false, false, false, false, false, false, false, false, false, false, false, false, false, false] rfl rfl (any_of HT_.out (by kernel_rfl)) (fun _ _ _ h => h) ?_
         refine pj_ 11 92 #[true, true, true, true, true, true, true, true, true, false, true, true, false, false, false, false, false, false, false, false, false, false, false, false, false, false, false, false, false, false, false, false, false, false, false] rfl rfl (any_of HT_.out (by kernel_rfl)) (fun _ _ _ h => h) ?_
         refine pj_ 12 93 #[true, true, true, true, true, true, true, true, true, false, true, true, true, false, false, false, false, false, false, false, false, false, false, false, false, false, false, false, false, false, false, false, false, false, false] rfl rfl (any_of HT_.out (by kernel_rfl)) (fun _ _ _ h => h) ?_
         refine pj_ 13 94 #[true, true, true, true, true, true, true, true, true, false, true, true, true, true, false, false, false, false, false, false, false, false, false, false, false, false, false, false, false, false, false, false, false, false, false] rfl rfl (any_of HT_.out (by kernel_rfl)) (fun _ _ _ h => h) ?_
         refine pm_ 9 90 #[true, true, true, true, true, true, true, true, true, true, true, true, true, true, false, false, false, false, false, false, false, false, false, false, false, false, false, false, false, false, false, false, false, false, false] rfl rfl (take_ofW HT_.out HW_.out (by kernel_rfl)) (fun _ _ _ h => h) hHeld ?_
         refine pm_ 14 95 #[true, true, true, true, true, true, true, true, true, true, true, true, true, true, true, false, false, false, false, false, false, false, false, false, false, false, false, false, false, false, false, false, false, false, false] rfl rfl (take_ofW HT_.out HW_.out (by kernel_rfl)) (fun _ _ _ h => h) hHeld ?_
         refine pj_ 15 96 #[true, true, true, true, true, true, true, true, true, true, true, true, true, true, true, true, false, false, false, false, false, false, false, false, false, false, false, false, false, false, false, false, false, false, false] rfl rfl (any_of HT_.out (by kernel_rfl)) (fun _ _ _ h => h) ?_
         refine pj_ 16 97 #[true, true, true, true, true, true, true, true, true, true, true, true, true, true, true, true, true, false, false, false, false, false, false, false, false, false, false, false, false, false, false, false, false, false, false] rfl rfl (any_of HT_.out (by kernel_rfl)) (fun _ _ _ h => h) ?_
         refine pj_ 17 98 #[true, true, true, true, true, true, true, true, true, true, true, true, true, true, true, true, true, true, false, false, false, false, false, false, false, false, false, false, false, false, false, false, false, false, false] rfl rfl (any_of HT_.out (by kernel_rfl)) (fun _ _ _ h => h) ?_
         refine pj_ 18 99 #[true, true, true, true, true, true, true, true, true, true, true, true, true, true, true, true, true, true, true, false, false, false, false, false, false, false, false, false, false, false, false, false, false, false, false] rfl rfl (any_of HT_.out (by kernel_rfl)) (fun _ _ _ h => h) ?_
         refine pj_ 19 100 #[true, true, true, true, true, true, true, true, true, true, true, true, true, true, true, true, true, true, true, true, false, false, false, false, false, false, false, false, false, false, false, false, false, false, false] rfl rfl (any_of HT_.out (by kernel_rfl)) (fun _ _ _ h => h) ?_
         refine pj_ 20 101 #[true, true, true, true, true, true, true, true, true, true, true, true, true, true, true, true, true, true, true, true, true, false, false, false, false, false, false, false, false, false, false, false, false, false, false] rfl rfl (any_of HT_.out (by kernel_rfl)) (fun _ _ _ h => h) ?_
         refine pj_ 21 102 #[true, true, true, true, true, true, true, true, true, true, true, true, true, true, true, true, true, true, true, true, true, true, false, false, false, false, false, false, false, false, false, false, false, false, false] rfl rfl (any_of HT_.out (by kernel_rfl)) (fun _ _ _ h => h) ?_
         refine pj_ 22 103 #[true, true, true, true, true, true, true, true, true, true, true, true, true, true, true, true, true, true, true, true, true, true, true, false, false, false, false, false, false, false, false, false, false, false, false] rfl rfl (any_of HT_.out (by kernel_rfl)) (fun _ _ _ h => h) ?_
         refine pj_ 23 104 #[true, true, true, true, true, true, true, true, true, true, true, true, true, true, true, true, true, true, true, true, true, true, true, true, false, false, false, false, false, false, false, false, false, false, false] rfl rfl (any_of HT_.out (by kernel_rfl)) (fun _ _ _ h => h) ?_
         refine pj_ 24 105 #[true, true, true, true, true, true, true, true, true, true, true, true, true, true, true, true, true, true, true, true, true, true, true, true, true, false, false, false, false, false, false, false, false, false, false] rfl rfl (any_of HT_.out (by kernel_rfl)) (fun _ _ _ h => h) ?_
         refine pj_ 26 107 #[true, true, true, true, true, true, true, true, true, true, true, true, true, true, true, true, true, true, true, true, true, true, true, true, true, false, true, false, false, false, false, false, false, false, false] rfl rfl (any_of HT_.out (by kernel_rfl)) (fun _ _ _ h => h) ?_
         refine pj_ 27 108 #[true, true, true, true, true, true, true, true, true, true, true, true, true, true, true, true, true, true, true, true, true, true, true, true, true, false, true, true, false, false, false, false, false, false, false] rfl rfl (any_of HT_.out (by kernel_rfl)) (fun _ _ _ h => h) ?_
         refine pj_ 28 109 #[true, true, true, true, true, true, true, true, true, true, true, true, true, true, true, true, true, true, true, true, true, true, true, true, true, false, true, true, true, false, false, false, false, false, false] rfl rfl (any_of HT_.out (by kernel_rfl)) (fun _ _ _ h => h) ?_
         refine pj_ 29 110 #[true, true, true, true, true, true, true, true, true, true, true, true, true, true, true, true, true, true, true, true, true, true, true, true, true, false, true, true, true, true, false, false, false, false, false] rfl rfl (any_of HT_.out (by kernel_rfl)) (fun _ _ _ h => h) ?_
         refine pm_ 25 106 #[true, true, true, true, true, true, true, true, true, true, true, true, true, true, true, true, true, true, true, true, true, true, true, true, true, true, true, true, true, true, false, false, false, false, false] rfl rfl (take_ofW HT_.out HW_.out (by kernel_rfl)) (fun _ _ _ h => h) hHeld ?_
         refine pm_ 30 111 #[true, true, true, true, true, true, true, true, true, true, true, true, true, true, true, true, true, true, true, true, true, true, true, true, true, true, true, true, true, true, true, false, false, false, false] rfl rfl (take_ofW HT_.out HW_.out (by kernel_rfl)) (fun _ _ _ h => h) hHeld ?_
         refine pj_ 31 112 #[true, true, true, true, true, true, true, true, true, true, true, true, true, true, true, true, true, true, true, true, true, true, true, true, true, true, true, true, true, true, true, true, false, false, false] rfl rfl (any_of HT_.out (by kernel_rfl)) (fun _ _ _ h => h) ?_
         refine pj_ 32 113 #[true, true, true, true, true, true, true, true, true, true, true, true, true, true, true, true, true, true, true, true, true, true, true, true, true, true, true, true, true, true, true, true, true, false, false] rfl rfl (any_of HT_.out (by kernel_rfl)) (fun _ _ _ h => h) ?_
         refine pj_ 33 114 #[true, true, true, true, true, true, true, true, true, true, true, true, true, true, true, true, true, true, true, true, true, true, true, true, true, true, true, true, true, true, true, true, true, true, false] rfl rfl (any_of HT_.out (by kernel_rfl)) (fun _ _ _ h => h) ?_
         refine pj_ 34 115 #[true, true, true, true, true, true, true, true, true, true, true, true, true, true, true, true, true, true, true, true, true, true, true, true, true, true, true, true, true, true, true, true, true, true, true] rfl rfl (any_of HT_.out (by kernel_rfl)) (fun _ _ _ h => h) ?_
         refine done_ (done_of HT_.out (by kernel_rfl)) ?_
         try go_wp2
         go_roundg kj25
         case measure => have := HJ5.out; have := HK2.out; have := HK3.out; have := HJ25.out; omega
         case rel => exact ⟨(wrap64 (x11_3 + 1)), rf, H', ⟨by have := HJ5.out; have := HK2.out; have := HK3.out; have := HJ25.out; omega⟩, ⟨by (with_reducible repeat (first | apply Kd.V_alloc | apply Kd.V_drewN | apply Kd.V_drew)); exact HO_3.out⟩, ⟨ph HB.out⟩⟩
def laws_FnOpen.Pure : Prop := ∀ (l0 : List Int), l0.length ≤ maxLen → l0.length * 1 ≤ 140737488351232 → (∀ x ∈ l0, (Lit.int .u8 x).wf = true) → ∃ k, laws_FnOpen.f k l0 = some true
theorem laws_FnOpen.walk (P : laws_FnOpen.Pure) (a0 : Option Addr) (len0 cap0 : Nat) (z0 : List Int) (w : World) (w0 : (a0 = none ∧ len0 = 0 ∧ cap0 = 0 ∧ z0 = []) ∨ ∃ x, a0 = some x ∧ len0 ≤ cap0 ∧ cap0 ≤ maxLen ∧ z0.length = cap0 ∧ (∀ i, i < z0.length → w.cell? (x.add i) = some (.int .u8 (z0.getD i 0))) ∧ ∀ n ∈ z0, (Lit.int .u8 n).wf = true) (y0 : len0 * 1 ≤ 140737488351232) :
 Calls Try.prog 3 #[.slice a0 len0 cap0] w fun e w' => e = .returned (.bool true) ∧ Below w.heap.size w w' := by
 obtain ⟨l0, rfl, hr0, hm0, hw0, hc0⟩ := ReadsInt.ofRowC w0
 obtain ⟨k, h⟩ := P l0 hm0 y0 hw0
 refine (laws_FnOpen.calls k _ _ l0 true w (Kd.C_of_reads (d := (0 : Int)) (h1 := fun _ => rfl) hr0) hc0 h).mono ?_
 rintro e w' ⟨rfl, hd⟩
 exact ⟨rfl, hd⟩
end Go.Proofs.Ytpdelojhomfakaa.Ro
