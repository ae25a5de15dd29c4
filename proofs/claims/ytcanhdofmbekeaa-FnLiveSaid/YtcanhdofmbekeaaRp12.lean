-- printed by wip/pp/pp.py
import Derived.Test.YtcanhdofmbekeaaRp0
import Derived.Test.YtcanhdofmbekeaaRp1
import Derived.Test.YtcanhdofmbekeaaRp2
import Derived.Test.YtcanhdofmbekeaaRp10
import Derived.Test.YtcanhdofmbekeaaRp11
namespace Go.Proofs.Ytcanhdofmbekeaa.Rp
open Go.RowKit Go.Proofs.YtcanhdofmbekeaaW.PrintWords Go.Proofs.YtcanhdofmbekeaaW.PrintLast Go.Proofs.YtcanhdofmbekeaaW.PrintMore
attribute [local go_sem] max2_int min2_int max_two min_two max_three min_three max_four min_four
set_option linter.unusedVariables false
set_option linter.unusedSimpArgs false
attribute [local go_sem high] eqA30
mutual
def laws_FnLive.j0 : Nat → List (S35) → Int → Int → Bool → Bool → Option (Bool)
 | 0, _, _, _, _, _ => none
 | k + 1, x3, x4, x5, x6, x39 => if x39 = true then ((spec_FindLive.f k x3 x4 x5).bind fun t435 => (some (x6 == t435))) else (if 7 ≤ 35184372088832 then (laws_FnLive.l0 k x3 (List.replicate 7 0) 0) else (none))
def laws_FnLive.l0 : Nat → List (S35) → List Int → Int → Option (Bool)
 | 0, _, _, _ => none
 | k + 1, x3, x7, x8 => if x8 < 4 then (laws_FnLive.l1 k x3 x7 x8 0) else (laws_FnLive.l2 k x3 x7 1)
def laws_FnLive.l1 : Nat → List (S35) → List Int → Int → Int → Option (Bool)
 | 0, _, _, _, _ => none
 | k + 1, x3, x7, x8, x9 => if x9 < 4 then ((impl_FindLive.f k x3 x8 x9).bind fun t439 => (if t439 = true then (if 0 ≤ x8 then (if x8 < (x3.length : Int) then (if 0 ≤ x9 then (if x9 < (((rd_T35 x3 x8).f0).length : Int) then (if 0 ≤ ((rd_T32 ((rd_T35 x3 x8).f0) x9).f1.f2) then (if ((rd_T32 ((rd_T35 x3 x8).f0) x9).f1.f2) < (x7.length : Int) then ((impl_FindLast.f x3 ((rd_T32 ((rd_T35 x3 x8).f0) x9).f1.f2)).bind fun bt445 => (if ((rd_T32 ((rd_T35 x3 x8).f0) x9).f0) = 1 then (if bt445.2.2.2.2 = true then (if (!(bt445.1 == ((rd_T32 ((rd_T35 x3 x8).f0) x9).f1.f0)) || (!(bt445.2.1 == ((rd_T32 ((rd_T35 x3 x8).f0) x9).f1.f1)) || (!(bt445.2.2.1 == ((rd_T32 ((rd_T35 x3 x8).f0) x9).f1.f2)) || (!(bt445.2.2.2.1 == ((rd_T32 ((rd_T35 x3 x8).f0) x9).f1.f3)))))) = true then (some false) else (laws_FnLive.l1 k x3 (x7.set (((rd_T32 ((rd_T35 x3 x8).f0) x9).f1.f2) : Int).toNat (wrap64 ((rd x7 ((rd_T32 ((rd_T35 x3 x8).f0) x9).f1.f2)) + 1))) x8 (wrap64 (x9 + 1)))) else (some false)) else (some false))) else (none)) else (none)) else (none)) else (none)) else (none)) else (none)) else (laws_FnLive.l1 k x3 x7 x8 (wrap64 (x9 + 1))))) else (laws_FnLive.l0 k x3 x7 (wrap64 (x8 + 1)))
def laws_FnLive.l2 : Nat → List (S35) → List Int → Int → Option (Bool)
 | 0, _, _, _ => none
 | k + 1, x3, x7, x13 => if x13 ≤ 6 then ((impl_FindLast.f x3 x13).bind fun bt451 => (if 0 ≤ x13 then (if x13 < (x7.length : Int) then (if (((rd x7 x13) == 1) != bt451.2.2.2.2) = true then (some false) else (if (rd x7 x13) > 1 then (some false) else (laws_FnLive.l2 k x3 x7 (wrap64 (x13 + 1))))) else (none)) else (none))) else (some true)
end
def laws_FnLive.f (k : Nat) (l0 : List Int) : Option (Bool) := if (l0.length : Int) > 1048576 then (some true) else ((spec_DrawFindLive.f k l0).bind fun bt427 => ((impl_FindLive.f k bt427.1 bt427.2.1 bt427.2.2).bind fun t432 => ((spec_FindLive.f k bt427.1 bt427.2.1 bt427.2.2).bind fun t433 => (if (t432 != t433) = true then (laws_FnLive.j0 k bt427.1 bt427.2.1 bt427.2.2 t432 true) else ((spec_FlashOk.f bt427.1).bind fun t434 => (laws_FnLive.j0 k bt427.1 bt427.2.1 bt427.2.2 t432 (!t434)))))))
theorem laws_FnLive.mono_l : ∀ k, (∀ y0 y1 y2 y3 y4, LeO (laws_FnLive.j0 k y0 y1 y2 y3 y4) (laws_FnLive.j0 (k + 1) y0 y1 y2 y3 y4)) ∧ (∀ y0 y1 y2, LeO (laws_FnLive.l0 k y0 y1 y2) (laws_FnLive.l0 (k + 1) y0 y1 y2)) ∧ (∀ y0 y1 y2 y3, LeO (laws_FnLive.l1 k y0 y1 y2 y3) (laws_FnLive.l1 (k + 1) y0 y1 y2 y3)) ∧ (∀ y0 y1 y2, LeO (laws_FnLive.l2 k y0 y1 y2) (laws_FnLive.l2 (k + 1) y0 y1 y2))
 | 0 => ⟨fun _ _ _ _ _ r h => by simp [laws_FnLive.j0] at h, fun _ _ _ r h => by simp [laws_FnLive.l0] at h, fun _ _ _ _ r h => by simp [laws_FnLive.l1] at h, fun _ _ _ r h => by simp [laws_FnLive.l2] at h⟩
 | k + 1 => by
  obtain ⟨ih0, ih1, ih2, ih3⟩ := laws_FnLive.mono_l k
  refine ⟨?_, ?_, ?_, ?_⟩
  · intro y0 y1 y2 y3 y4
    unfold laws_FnLive.j0
    repeat' first
    | (with_reducible exact ih0 _ _ _ _ _)
    | (with_reducible exact ih1 _ _ _)
    | (with_reducible exact ih2 _ _ _ _)
    | (with_reducible exact ih3 _ _ _)
    | (with_reducible exact impl_FindLive.mono _ _ _ _)
    | (with_reducible exact spec_DrawFindLive.mono _ _)
    | (with_reducible exact spec_FindLive.mono _ _ _ _)
    | (with_reducible exact LeO.refl _)
    | (with_reducible exact LeO.none _)
    | (with_reducible refine LeO.ite ?_ ?_)
    | (with_reducible refine LeO.bind ?_ (fun _ => ?_))
    | exact ih0 _ _ _ _ _
    | exact ih1 _ _ _
    | exact ih2 _ _ _ _
    | exact ih3 _ _ _
    | exact impl_FindLive.mono _ _ _ _
    | exact spec_DrawFindLive.mono _ _
    | exact spec_FindLive.mono _ _ _ _
    | exact LeO.none _
    | refine LeO.ite ?_ ?_
    | refine LeO.bind ?_ (fun _ => ?_)
  · intro y0 y1 y2
    unfold laws_FnLive.l0
    repeat' first
    | (with_reducible exact ih0 _ _ _ _ _)
    | (with_reducible exact ih1 _ _ _)
    | (with_reducible exact ih2 _ _ _ _)
    | (with_reducible exact ih3 _ _ _)
    | (with_reducible exact impl_FindLive.mono _ _ _ _)
    | (with_reducible exact spec_DrawFindLive.mono _ _)
    | (with_reducible exact spec_FindLive.mono _ _ _ _)
    | (with_reducible exact LeO.refl _)
    | (with_reducible exact LeO.none _)
    | (with_reducible refine LeO.ite ?_ ?_)
    | (with_reducible refine LeO.bind ?_ (fun _ => ?_))
    | exact ih0 _ _ _ _ _
    | exact ih1 _ _ _
    | exact ih2 _ _ _ _
    | exact ih3 _ _ _
    | exact impl_FindLive.mono _ _ _ _
    | exact spec_DrawFindLive.mono _ _
    | exact spec_FindLive.mono _ _ _ _
    | exact LeO.none _
    | refine LeO.ite ?_ ?_
    | refine LeO.bind ?_ (fun _ => ?_)
  · intro y0 y1 y2 y3
    unfold laws_FnLive.l1
    repeat' first
    | (with_reducible exact ih0 _ _ _ _ _)
    | (with_reducible exact ih1 _ _ _)
    | (with_reducible exact ih2 _ _ _ _)
    | (with_reducible exact ih3 _ _ _)
    | (with_reducible exact impl_FindLive.mono _ _ _ _)
    | (with_reducible exact spec_DrawFindLive.mono _ _)
    | (with_reducible exact spec_FindLive.mono _ _ _ _)
    | (with_reducible exact LeO.refl _)
    | (with_reducible exact LeO.none _)
    | (with_reducible refine LeO.ite ?_ ?_)
    | (with_reducible refine LeO.bind ?_ (fun _ => ?_))
    | exact ih0 _ _ _ _ _
    | exact ih1 _ _ _
    | exact ih2 _ _ _ _
    | exact ih3 _ _ _
    | exact impl_FindLive.mono _ _ _ _
    | exact spec_DrawFindLive.mono _ _
    | exact spec_FindLive.mono _ _ _ _
    | exact LeO.none _
    | refine LeO.ite ?_ ?_
    | refine LeO.bind ?_ (fun _ => ?_)
  · intro y0 y1 y2
    unfold laws_FnLive.l2
    repeat' first
    | (with_reducible exact ih0 _ _ _ _ _)
    | (with_reducible exact ih1 _ _ _)
    | (with_reducible exact ih2 _ _ _ _)
    | (with_reducible exact ih3 _ _ _)
    | (with_reducible exact impl_FindLive.mono _ _ _ _)
    | (with_reducible exact spec_DrawFindLive.mono _ _)
    | (with_reducible exact spec_FindLive.mono _ _ _ _)
    | (with_reducible exact LeO.refl _)
    | (with_reducible exact LeO.none _)
    | (with_reducible refine LeO.ite ?_ ?_)
    | (with_reducible refine LeO.bind ?_ (fun _ => ?_))
    | exact ih0 _ _ _ _ _
    | exact ih1 _ _ _
    | exact ih2 _ _ _ _
    | exact ih3 _ _ _
    | exact impl_FindLive.mono _ _ _ _
    | exact spec_DrawFindLive.mono _ _
    | exact spec_FindLive.mono _ _ _ _
    | exact LeO.none _
    | refine LeO.ite ?_ ?_
    | refine LeO.bind ?_ (fun _ => ?_)
theorem laws_FnLive.mono : ∀ a0 k, LeO (laws_FnLive.f k a0) (laws_FnLive.f (k + 1) a0) := by
 intro a0 k
 obtain ⟨ih0, ih1, ih2, ih3⟩ := laws_FnLive.mono_l k
 unfold laws_FnLive.f
 repeat' first
  | (with_reducible exact ih0 _ _ _ _ _)
  | (with_reducible exact ih1 _ _ _)
  | (with_reducible exact ih2 _ _ _ _)
  | (with_reducible exact ih3 _ _ _)
  | (with_reducible exact impl_FindLive.mono _ _ _ _)
  | (with_reducible exact spec_DrawFindLive.mono _ _)
  | (with_reducible exact spec_FindLive.mono _ _ _ _)
  | (with_reducible exact LeO.refl _)
  | (with_reducible exact LeO.none _)
  | (with_reducible refine LeO.ite ?_ ?_)
  | (with_reducible refine LeO.bind ?_ (fun _ => ?_))
  | exact ih0 _ _ _ _ _
  | exact ih1 _ _ _
  | exact ih2 _ _ _ _
  | exact ih3 _ _ _
  | exact impl_FindLive.mono _ _ _ _
  | exact spec_DrawFindLive.mono _ _
  | exact spec_FindLive.mono _ _ _ _
  | exact LeO.none _
  | refine LeO.ite ?_ ?_
  | refine LeO.bind ?_ (fun _ => ?_)
def laws_FnLive.T16 : Bool × List (List Nat × List Nat) := (true, [([], []), ([], []), ([1], [1]), ([2], [2]), ([], []), ([], []), ([5], [5]), ([6], [6]), ([4, 7], [4, 7]), ([8], [8]), ([9], [9]), ([0, 3, 0, 1, 2, 3, 4, 5, 6, 7, 8, 9, 10], [0, 3]), ([11, 10, 0, 1, 2, 3, 4, 5, 6, 7, 8, 9, 10], [10, 11])])
def laws_FnLive.B16 : List Nat := [0, 0, 2, 6, 0, 0, 32, 96, 240, 496, 1008, 2047, 4095]
theorem laws_FnLive.tab16 : rtab .any (opsOf Try.f3 16) = laws_FnLive.T16 := by kernel_rfl
theorem laws_FnLive.bits16 : waitsOk laws_FnLive.T16.2 laws_FnLive.B16 = true := by kernel_rfl
set_option maxHeartbeats 8000000 in
set_option maxRecDepth 100000 in
theorem laws_FnLive.calls (k : Nat) (A0 : Option Addr) (c0 : Nat) (l0 : List Int) (r : Bool) (w : World) (hr0 : Kd.C (Kd.int .u8) w A0 l0.length l0) (hc0 : l0.length ≤ c0) (h : laws_FnLive.f k l0 = some r) :
 Calls Try.prog 3 #[.slice A0 l0.length c0] w fun e w' => e = .returned (.bool r) ∧ Below w.heap.size w w' := by
 have hu32 := Try.underlying32
 have hu30 := Try.underlying30
 have HR0 := am hr0
 have HC0 := am hc0
 clear hr0 hc0
 have HB := am (Below.refl w.heap.size w)
 have H : (if (l0.length : Int) > 1048576 then (some true) else ((spec_DrawFindLive.f k l0).bind fun bt427 => ((impl_FindLive.f k bt427.1 bt427.2.1 bt427.2.2).bind fun t432 => ((spec_FindLive.f k bt427.1 bt427.2.1 bt427.2.2).bind fun t433 => (if (t432 != t433) = true then (laws_FnLive.j0 k bt427.1 bt427.2.1 bt427.2.2 t432 true) else ((spec_FlashOk.f bt427.1).bind fun t434 => (laws_FnLive.j0 k bt427.1 bt427.2.1 bt427.2.2 t432 (!t434)))))))) = some r := h
 clear h
 by_cases c2 : (l0.length : Int) > 1048576
 · rw [if_pos c2] at H
   have c2b0 := decide_eq_true c2
   have c2b1 : decide (1048576 < l0.length) = true := decide_eq_true (by omega)
   clear c2
   obtain rfl := Option.some.inj H
   go_enter Try.func3, Try.ntmps3
   go_wp2
   go_ret
   exact (rq (ph HB.out))
 rw [if_neg c2] at H
 have c2b0 := decide_eq_false c2
 have c2b1 : decide (1048576 < l0.length) = false := decide_eq_false (by omega)
 clear c2
 replace H := Option.bind_eq_some_iff.mp H
 obtain ⟨⟨t427, t430, t431⟩, A30, H⟩ := H
 replace H : ((impl_FindLive.f k t427 t430 t431).bind fun t432 => ((spec_FindLive.f k t427 t430 t431).bind fun t433 => (if (t432 != t433) = true then (laws_FnLive.j0 k t427 t430 t431 t432 true) else ((spec_FlashOk.f t427).bind fun t434 => (laws_FnLive.j0 k t427 t430 t431 t432 (!t434)))))) = some r := H
 have A3 := am A30
 clear A30
 replace H := Option.bind_eq_some_iff.mp H
 obtain ⟨t432, A40, H⟩ := H
 replace H : ((spec_FindLive.f k t427 t430 t431).bind fun t433 => (if (t432 != t433) = true then (laws_FnLive.j0 k t427 t430 t431 t432 true) else ((spec_FlashOk.f t427).bind fun t434 => (laws_FnLive.j0 k t427 t430 t431 t432 (!t434))))) = some r := H
 have A4 := am A40
 clear A40
 have HC5 := am H
 clear H
 go_enter Try.func3, Try.ntmps3
 go_upto_region 5 with (first | (refine gl 21 Try.func4 #[.slice A0 l0.length c0] rfl ?_; (with_reducible refine (spec_DrawFindLive.calls k _ _ l0 t427 t430 t431 _ ?side1 ?side2 A3.out).mono ?_); (case side1 => repeat (first | exact HR0.out | (with_reducible refine Kd.C_alloc ?_ _) | (with_reducible refine Kd.C_drewN ?_ _) | (with_reducible refine Kd.C_drew ?_))); (case side2 => exact HC0.out); rintro e w6 ⟨v428, rfl, ho0, hb⟩; refine ⟨_, rfl, ?_⟩; have HO429 := am (Kd.V_lower (Kd.V_mono (ok' := fun k_ => True) ho0 (fun k_ hk_ => trivial)) (below_size (ph HB.out))); replace HB := am (below_step (ph HB.out) hb); (try clear hb); (try clear hb2); (try clear hk); (try clear hi); (try clear ho0); obtain ⟨Ao7, co7, eo7⟩ := Kd.V_slice HO429.out; subst eo7) | (refine gl 28 Try.func5 #[.slice Ao7 t427.length co7, .int .i64 t430, .int .i64 t431] rfl ?_; (with_reducible refine (impl_FindLive.calls k _ _ t427 t430 t431 t432 _ ?side1 ?side2 A4.out).mono ?_); (case side1 => repeat (first | exact (Kd.V_reads' HO429.out).2.2 | (with_reducible refine Kd.C_alloc ?_ _) | (with_reducible refine Kd.C_drewN ?_ _) | (with_reducible refine Kd.C_drew ?_))); (case side2 => exact (Kd.V_reads' HO429.out).2.1); rintro e w8 ⟨rfl, hb⟩; refine ⟨_, rfl, ?_⟩; replace HO429 := am (Kd.V_below (by (with_reducible repeat (first | apply Kd.V_alloc | apply Kd.V_drewN | apply Kd.V_drew)); exact HO429.out) hb); replace HB := am (below_step (ph HB.out) hb); (try clear hb); (try clear hb2); (try clear hk); (try clear hi)))
 (try simp only [Act.put, List.setIfInBounds_toArray, List.set_cons_zero, List.set_cons_succ])
 go_cut [39] (fun v39 wc => ∃ (kq : Nat) (x39_4 : Bool), v39 = .bool x39_4 ∧ Aside0 (laws_FnLive.j0 kq t427 t430 t431 t432 x39_4 = some r) ∧ Aside0 (kq ≤ k) ∧ Aside0 (Kd.V k35 35 wc w.heap.size (fun _ => True) (.slice Ao7 t427.length co7) t427) ∧ Aside0 (Below w.heap.size w wc))
 case first =>
  have H := HC5.out
  clear HC5
  replace H := Option.bind_eq_some_iff.mp H
  obtain ⟨t433, A90, H⟩ := H
  replace H : (if (t432 != t433) = true then (laws_FnLive.j0 k t427 t430 t431 t432 true) else ((spec_FlashOk.f t427).bind fun t434 => (laws_FnLive.j0 k t427 t430 t431 t432 (!t434)))) = some r := H
  have A9 := am A90
  clear A90
  by_cases c10 : (t432 != t433) = true
  · rw [if_pos c10] at H
    have c10b0 : (t432 != t433) = true := c10
    (try (have c10b1 : decide (t432 = t433) = false := by simpa using c10))
    (try (have c10b2 : (t432 == t433) = false := by simpa using c10))
    (try (have c10b3 : ¬ (t432 = t433) := by simpa using c10))
    clear c10
    (first | rw [c10b0] | (simp only [i64_w, i32_w]; rw [c10b0]) | skip)
    have H' := am H
    clear H
    go_wp2_with (first | (refine gl 33 Try.func6 #[.slice Ao7 t427.length co7, .int .i64 t430, .int .i64 t431] rfl ?_; (with_reducible refine (spec_FindLive.calls k _ _ t427 t430 t431 t433 _ ?side1 ?side2 A9.out).mono ?_); (case side1 => repeat (first | exact (Kd.V_reads' HO429.out).2.2 | (with_reducible refine Kd.C_alloc ?_ _) | (with_reducible refine Kd.C_drewN ?_ _) | (with_reducible refine Kd.C_drew ?_))); (case side2 => exact (Kd.V_reads' HO429.out).2.1); rintro e w11 ⟨rfl, hb⟩; refine ⟨_, rfl, ?_⟩; replace HO429 := am (Kd.V_below (by (with_reducible repeat (first | apply Kd.V_alloc | apply Kd.V_drewN | apply Kd.V_drew)); exact HO429.out) hb); replace HB := am (below_step (ph HB.out) hb); (try clear hb); (try clear hb2); (try clear hk); (try clear hi)))
    go_meet
    case rel => exact ⟨_, (true), rf, H', ⟨by first | omega | exact Nat.le_refl _⟩, ⟨by (with_reducible repeat (first | apply Kd.V_alloc | apply Kd.V_drewN | apply Kd.V_drew)); exact HO429.out⟩, ⟨ph HB.out⟩⟩
  rw [if_neg c10] at H
  have c10b0 : (t432 != t433) = false := by simpa using c10
  (try (have c10b1 : decide (t432 = t433) = true := by simpa using c10))
  (try (have c10b2 : (t432 == t433) = true := by simpa using c10))
  clear c10
  (first | rw [c10b0] | (simp only [i64_w, i32_w]; rw [c10b0]) | skip)
  replace H := Option.bind_eq_some_iff.mp H
  obtain ⟨t434, A120, H⟩ := H
  replace H : (laws_FnLive.j0 k t427 t430 t431 t432 (!t434)) = some r := H
  have A12 := am A120
  clear A120
  have H' := am H
  clear H
  go_wp2_with (first | (refine gl 33 Try.func6 #[.slice Ao7 t427.length co7, .int .i64 t430, .int .i64 t431] rfl ?_; (with_reducible refine (spec_FindLive.calls k _ _ t427 t430 t431 t433 _ ?side1 ?side2 A9.out).mono ?_); (case side1 => repeat (first | exact (Kd.V_reads' HO429.out).2.2 | (with_reducible refine Kd.C_alloc ?_ _) | (with_reducible refine Kd.C_drewN ?_ _) | (with_reducible refine Kd.C_drew ?_))); (case side2 => exact (Kd.V_reads' HO429.out).2.1); rintro e w13 ⟨rfl, hb⟩; refine ⟨_, rfl, ?_⟩; replace HO429 := am (Kd.V_below (by (with_reducible repeat (first | apply Kd.V_alloc | apply Kd.V_drewN | apply Kd.V_drew)); exact HO429.out) hb); replace HB := am (below_step (ph HB.out) hb); (try clear hb); (try clear hb2); (try clear hk); (try clear hi)) | (go_at_call 7; (with_reducible refine (spec_FlashOk.calls _ _ t427 t434 _ ?side1 ?side2 A12.out).mono ?_); (case side1 => repeat (first | exact (Kd.V_reads' HO429.out).2.2 | (with_reducible refine Kd.C_alloc ?_ _) | (with_reducible refine Kd.C_drewN ?_ _) | (with_reducible refine Kd.C_drew ?_))); (case side2 => exact (Kd.V_reads' HO429.out).2.1); rintro e w14 ⟨rfl, hb⟩; replace HO429 := am (Kd.V_below (by (with_reducible repeat (first | apply Kd.V_alloc | apply Kd.V_drewN | apply Kd.V_drew)); exact HO429.out) hb); replace HB := am (below_step (ph HB.out) hb); (try clear hb); (try clear hb2); (try clear hk); (try clear hi)))
  go_meet
  case rel => exact ⟨_, (!t434), rf, H', ⟨by first | omega | exact Nat.le_refl _⟩, ⟨by (with_reducible repeat (first | apply Kd.V_alloc | apply Kd.V_drewN | apply Kd.V_drew)); exact HO429.out⟩, ⟨ph HB.out⟩⟩
 case rest =>
  clear HC5
  obtain ⟨kq, x39_4, rfl, HA, HJ4, HO_3, HB⟩ := hcut
  cases kq with
  | zero => exact absurd HA.out (by simp [laws_FnLive.j0])
  | succ kj4 =>
   have H := HA.out
   clear HA
   simp only [laws_FnLive.j0] at H
   by_cases c15 : x39_4 = true
   · subst c15
     have H1 : ((spec_FindLive.f kj4 t427 t430 t431).bind fun t435 => (some (t432 == t435))) = some r := by rw [if_pos rfl] at H; exact H
     clear H
     have H := H1
     clear H1
     replace H := Option.bind_eq_some_iff.mp H
     obtain ⟨t435, A160, H⟩ := H
     replace H : (some (t432 == t435)) = some r := H
     have A16 := am A160
     clear A160
     obtain rfl := Option.some.inj H
     go_wp2_with (first | (refine gl 44 Try.func6 #[.slice Ao7 t427.length co7, .int .i64 t430, .int .i64 t431] rfl ?_; (with_reducible refine (spec_FindLive.calls kj4 _ _ t427 t430 t431 t435 _ ?side1 ?side2 A16.out).mono ?_); (case side1 => repeat (first | exact (Kd.V_reads' HO_3.out).2.2 | (with_reducible refine Kd.C_alloc ?_ _) | (with_reducible refine Kd.C_drewN ?_ _) | (with_reducible refine Kd.C_drew ?_))); (case side2 => exact (Kd.V_reads' HO_3.out).2.1); rintro e w17 ⟨rfl, hb⟩; refine ⟨_, rfl, ?_⟩; replace HO_3 := am (Kd.V_below (by (with_reducible repeat (first | apply Kd.V_alloc | apply Kd.V_drewN | apply Kd.V_drew)); exact HO_3.out) hb); replace HB := am (below_step (ph HB.out) hb); (try clear hb); (try clear hb2); (try clear hk); (try clear hi)))
     go_ret
     exact (rq (ph HB.out))
   replace c15 := Bool.eq_false_iff.mpr c15
   subst c15
   have H1 : (if 7 ≤ 35184372088832 then (laws_FnLive.l0 kj4 t427 (List.replicate 7 0) 0) else (none)) = some r := by rw [if_neg (show ¬ (false = true) by decide)] at H; exact H
   clear H
   have H := H1
   clear H1
   by_cases c18 : 7 ≤ 35184372088832
   rotate_left
   · rw [if_neg c18] at H
     exact absurd H (by simp)
   rw [if_pos c18] at H
   have c18b0 := eq_true c18
   have c18b1 := decide_eq_true c18
   clear c18
   obtain ⟨y436, hy436⟩ : ∃ y_ : List Int, y_ = (List.replicate 7 0) := ⟨_, rfl⟩
   replace H : (laws_FnLive.l0 kj4 t427 y436 0) = some r := by first | (rw [hy436]; with_reducible exact H) | (have H2_ := (Option.bind_some _ _).symm.trans H; rw [hy436]; with_reducible exact H2_) | (have H2_ := (Option.bind_some _ _).symm.trans H; with_reducible exact H2_) | with_reducible exact H | (rw [hy436]; exact H) | exact H
   have Ny436 := am hy436
   clear hy436
   have H' := am H
   clear H
   go_wp2_with (first | ((with_reducible refine gate_dst (N := 46) rfl ?_); refine Kd.R_make (Kd.int .i64) _ 3 rfl (N := 46) rfl 28 _ _ rfl 7 rfl rfl Try.underlying28 (.int .i64 0) 8 info3 rfl (by decide) (by omega) 0 (ok := fun _ => True) (okp := fun _ => True) rfl (fun _ hk => hk) trivial (by omega) (by omega) (Below.refl _ _) (Nat.le_refl _) ?_; intro v437 w19 ho20 hb hg_ hnew_; clear hg_ hnew_; (first | rw [← Ny436.out] at ho20 | (simp only [Int.reduceToNat] at ho20; rw [← Ny436.out] at ho20)); replace HO_3 := am (Kd.V_elder' (by (with_reducible repeat (first | apply Kd.V_alloc | apply Kd.V_drewN | apply Kd.V_drew)); exact HO_3.out) (Kd.R_base ho20) hb); have HO438 := am (Kd.R_lower ho20 (below_size (ph HB.out))); replace HB := am (below_step (ph HB.out) hb); clear hb ho20))
   go_loopg [8] kj4 (fun kq v8 w' => ∃ (x7_2 : List Int) (x8_2 : Int), v8 = .int .i64 x8_2 ∧ Aside0 (laws_FnLive.l0 kq t427 x7_2 x8_2 = some r) ∧ Aside0 (kq ≤ kj4) ∧ Aside0 (Kd.V k35 35 w' w.heap.size (fun k_ => some k_ ≠ (v437 : Value).ownBlock) (.slice Ao7 t427.length co7) t427) ∧ Aside0 (Kd.R (Kd.int .i64) 3 w' w.heap.size (fun _ => True) v437 x7_2) ∧ Aside0 (Below w.heap.size w w'))
   case atStart => exact ⟨(y436), (0), rf, H', ⟨Nat.le_refl _⟩, ⟨by (with_reducible repeat (first | apply Kd.V_alloc | apply Kd.V_drewN | apply Kd.V_drew)); exact Kd.V_mono HO_3.out (fun _ hk => hk.2)⟩, ⟨pr HO438.out⟩, ⟨ph HB.out⟩⟩
   case round =>
    clear H'
    obtain ⟨x7_2, x8_2, rfl, HA, HK2, HO_3, HO_7, HB⟩ := hrel
    cases gk with
    | zero => exact absurd HA.out (by simp [laws_FnLive.l0])
    | succ k2 =>
     have H := HA.out
     clear HA
     simp only [laws_FnLive.l0] at H
     by_cases c21 : x8_2 < 4
     rotate_left
     · rw [if_neg c21] at H
       have c21b0 := decide_eq_false c21
       clear c21
       have H' := am H
       clear H
       go_wp2
       go_loopg [13] k2 (fun kq v13 w' => ∃ (x13_3 : Int), v13 = .int .i64 x13_3 ∧ Aside0 (laws_FnLive.l2 kq t427 x7_2 x13_3 = some r) ∧ Aside0 (kq ≤ k2) ∧ Aside0 (Kd.V k35 35 w' w.heap.size (fun k_ => some k_ ≠ (v437 : Value).ownBlock) (.slice Ao7 t427.length co7) t427) ∧ Aside0 (Kd.R (Kd.int .i64) 3 w' w.heap.size (fun _ => True) v437 x7_2) ∧ Aside0 (Below w.heap.size w w'))
       case atStart => exact ⟨(1), rf, H', ⟨Nat.le_refl _⟩, ⟨by (with_reducible repeat (first | apply Kd.V_alloc | apply Kd.V_drewN | apply Kd.V_drew)); exact HO_3.out⟩, ⟨pr HO_7.out⟩, ⟨ph HB.out⟩⟩
       case round =>
        clear H'
        obtain ⟨x13_3, rfl, HA, HK3, HO_3, HO_7, HB⟩ := hrel
        cases gk with
        | zero => exact absurd HA.out (by simp [laws_FnLive.l2])
        | succ k3 =>
         have H := HA.out
         clear HA
         simp only [laws_FnLive.l2] at H
         by_cases c93 : x13_3 ≤ 6
         rotate_left
         · rw [if_neg c93] at H
           have c93b0 := decide_eq_false c93
           clear c93
           obtain rfl := Option.some.inj H
           go_wp2
           go_ret
           exact (rq (ph HB.out))
         rw [if_pos c93] at H
         have c93b0 := decide_eq_true c93
         clear c93
         replace H := Option.bind_eq_some_iff.mp H
         obtain ⟨⟨t451, t452, t453, t454, t455⟩, A940, H⟩ := H
         replace H : (if 0 ≤ x13_3 then (if x13_3 < (x7_2.length : Int) then (if (((rd x7_2 x13_3) == 1) != t455) = true then (some false) else (if (rd x7_2 x13_3) > 1 then (some false) else (laws_FnLive.l2 k3 t427 x7_2 (wrap64 (x13_3 + 1))))) else (none)) else (none)) = some r := H
         have A94 := am A940
         clear A940
         by_cases c95 : 0 ≤ x13_3
         rotate_left
         · rw [if_neg c95] at H
           exact absurd H (by simp)
         rw [if_pos c95] at H
         have c95b0 := decide_eq_true c95
         clear c95
         by_cases c96 : x13_3 < (x7_2.length : Int)
         rotate_left
         · rw [if_neg c96] at H
           exact absurd H (by simp)
         rw [if_pos c96] at H
         have c96b0 := decide_eq_true c96
         clear c96
         by_cases c97 : (((rd x7_2 x13_3) == 1) != t455) = true
         · rw [if_pos c97] at H
           have c97b0 : (((rd x7_2 x13_3) == 1) != t455) = true := c97
           (try (have c97b1 : decide (((rd x7_2 x13_3) == 1) = t455) = false := by simpa using c97))
           (try (have c97b2 : (((rd x7_2 x13_3) == 1) == t455) = false := by simpa using c97))
           (try (have c97b3 : ¬ (((rd x7_2 x13_3) == 1) = t455) := by simpa using c97))
           clear c97
           obtain rfl := Option.some.inj H
           go_wp2_with (first | (refine gl 107 Try.func8 #[.slice Ao7 t427.length co7, .int .i64 x13_3] rfl ?_; (with_reducible refine (impl_FindLast.calls _ _ t427 x13_3 t451 t452 t453 t454 t455 _ ?side1 ?side2 A94.out).mono ?_); (case side1 => repeat (first | exact (Kd.V_reads' HO_3.out).2.2 | (with_reducible refine Kd.C_alloc ?_ _) | (with_reducible refine Kd.C_drewN ?_ _) | (with_reducible refine Kd.C_drew ?_))); (case side2 => exact (Kd.V_reads' HO_3.out).2.1); rintro e w98 ⟨rfl, hb⟩; refine ⟨_, rfl, ?_⟩; replace HO_3 := am (Kd.V_below (by (with_reducible repeat (first | apply Kd.V_alloc | apply Kd.V_drewN | apply Kd.V_drew)); exact HO_3.out) hb); replace HO_7 := am (Kd.R_below (pr HO_7.out) hb); replace HB := am (below_step (ph HB.out) hb); (try clear hb); (try clear hb2); (try clear hk); (try clear hi)) | (refine bx 14 #[.int .i64 0, .int .i64 0, .int .i64 0, .int .i64 0] 30 rfl ?_; intro gb456 hg w99 hbox hb; replace HO_3 := am (Kd.V_below (Kd.V_elderB (by (with_reducible repeat (first | apply Kd.V_alloc | apply Kd.V_drewN | apply Kd.V_drew)); exact HO_3.out) gb456 (Nat.le_of_eq hg.symm)) hb); replace HO_7 := am (Kd.R_below (pr HO_7.out) hb); have BK456 := am (hbox); have GW456 := am ((by rw [hg]; exact (below_size (ph HB.out)) : w.heap.size ≤ gb456)); have GE456 := GW456; replace HB := am (below_step (ph HB.out) hb); clear hb hbox hg; obtain ⟨hcz100_0, hcz100_1, hcz100_2, hcz100_3⟩ := b4 BK456.out; obtain ⟨hfz100_0, hfz100_1, hfz100_2, hfz100_3⟩ := f4 BK456.out; obtain ⟨Ao101, co101, eo101⟩ := Kd.R_slice HO_7.out; subst eo101; have p457 : 0 ≤ (x13_3 : Int) := ofb; have q457 : x13_3 < (x7_2.length : Int) := ofb; obtain ⟨ad457, e457, hx457_0⟩ := Kd.at_int (Kd.R_reads' HO_7.out).2.2 x13_3 p457 q457; cases e457; have hn457_0 : ad457.block ≠ gb456 := Kd.own_blk (Kd.R_ne HO_7.out BK456.out (by decide)); have hn457_1 : ad457.block ≠ gb456 := Kd.own_blk (Kd.R_ne HO_7.out BK456.out (by decide)); have hn457_2 : ad457.block ≠ gb456 := Kd.own_blk (Kd.R_ne HO_7.out BK456.out (by decide)); have hn457_3 : ad457.block ≠ gb456 := Kd.own_blk (Kd.R_ne HO_7.out BK456.out (by decide)); replace hx457_0 := (cell_far (p := ⟨gb456, 0, none⟩) (by first | (rw [add_block]; exact hn457_0) | (show (Addr.add _ _).block ≠ _; rw [add_block]; exact hn457_0) | exact hn457_0) (.int .i64 t451)).trans hx457_0; replace hx457_0 := (cell_far (p := ⟨gb456, 1, none⟩) (by first | (rw [add_block]; exact hn457_1) | (show (Addr.add _ _).block ≠ _; rw [add_block]; exact hn457_1) | exact hn457_1) (.int .i64 t452)).trans hx457_0; replace hx457_0 := (cell_far (p := ⟨gb456, 2, none⟩) (by first | (rw [add_block]; exact hn457_2) | (show (Addr.add _ _).block ≠ _; rw [add_block]; exact hn457_2) | exact hn457_2) (.int .i64 t453)).trans hx457_0; replace hx457_0 := (cell_far (p := ⟨gb456, 3, none⟩) (by first | (rw [add_block]; exact hn457_3) | (show (Addr.add _ _).block ≠ _; rw [add_block]; exact hn457_3) | exact hn457_3) (.int .i64 t454)).trans hx457_0; clear hn457_0; clear hn457_1; clear hn457_2; clear hn457_3; replace p457 := eq_true p457; replace q457 := eq_true q457))
           go_ret
           exact (rq (bg1 HB.out GE456.out))
         rw [if_neg c97] at H
         have c97b0 : (((rd x7_2 x13_3) == 1) != t455) = false := by simpa using c97
         (try (have c97b1 : decide (((rd x7_2 x13_3) == 1) = t455) = true := by simpa using c97))
         (try (have c97b2 : (((rd x7_2 x13_3) == 1) == t455) = true := by simpa using c97))
         clear c97
         by_cases c102 : (rd x7_2 x13_3) > 1
         · rw [if_pos c102] at H
           have c102b0 := decide_eq_true c102
           clear c102
           obtain rfl := Option.some.inj H
           go_wp2_with (first | (refine gl 107 Try.func8 #[.slice Ao7 t427.length co7, .int .i64 x13_3] rfl ?_; (with_reducible refine (impl_FindLast.calls _ _ t427 x13_3 t451 t452 t453 t454 t455 _ ?side1 ?side2 A94.out).mono ?_); (case side1 => repeat (first | exact (Kd.V_reads' HO_3.out).2.2 | (with_reducible refine Kd.C_alloc ?_ _) | (with_reducible refine Kd.C_drewN ?_ _) | (with_reducible refine Kd.C_drew ?_))); (case side2 => exact (Kd.V_reads' HO_3.out).2.1); rintro e w103 ⟨rfl, hb⟩; refine ⟨_, rfl, ?_⟩; replace HO_3 := am (Kd.V_below (by (with_reducible repeat (first | apply Kd.V_alloc | apply Kd.V_drewN | apply Kd.V_drew)); exact HO_3.out) hb); replace HO_7 := am (Kd.R_below (pr HO_7.out) hb); replace HB := am (below_step (ph HB.out) hb); (try clear hb); (try clear hb2); (try clear hk); (try clear hi)) | (refine bx 14 #[.int .i64 0, .int .i64 0, .int .i64 0, .int .i64 0] 30 rfl ?_; intro gb456 hg w104 hbox hb; replace HO_3 := am (Kd.V_below (Kd.V_elderB (by (with_reducible repeat (first | apply Kd.V_alloc | apply Kd.V_drewN | apply Kd.V_drew)); exact HO_3.out) gb456 (Nat.le_of_eq hg.symm)) hb); replace HO_7 := am (Kd.R_below (pr HO_7.out) hb); have BK456 := am (hbox); have GW456 := am ((by rw [hg]; exact (below_size (ph HB.out)) : w.heap.size ≤ gb456)); have GE456 := GW456; replace HB := am (below_step (ph HB.out) hb); clear hb hbox hg; obtain ⟨hcz105_0, hcz105_1, hcz105_2, hcz105_3⟩ := b4 BK456.out; obtain ⟨hfz105_0, hfz105_1, hfz105_2, hfz105_3⟩ := f4 BK456.out; obtain ⟨Ao106, co106, eo106⟩ := Kd.R_slice HO_7.out; subst eo106; have p457 : 0 ≤ (x13_3 : Int) := ofb; have q457 : x13_3 < (x7_2.length : Int) := ofb; obtain ⟨ad457, e457, hx457_0⟩ := Kd.at_int (Kd.R_reads' HO_7.out).2.2 x13_3 p457 q457; cases e457; have hn457_0 : ad457.block ≠ gb456 := Kd.own_blk (Kd.R_ne HO_7.out BK456.out (by decide)); have hn457_1 : ad457.block ≠ gb456 := Kd.own_blk (Kd.R_ne HO_7.out BK456.out (by decide)); have hn457_2 : ad457.block ≠ gb456 := Kd.own_blk (Kd.R_ne HO_7.out BK456.out (by decide)); have hn457_3 : ad457.block ≠ gb456 := Kd.own_blk (Kd.R_ne HO_7.out BK456.out (by decide)); replace hx457_0 := (cell_far (p := ⟨gb456, 0, none⟩) (by first | (rw [add_block]; exact hn457_0) | (show (Addr.add _ _).block ≠ _; rw [add_block]; exact hn457_0) | exact hn457_0) (.int .i64 t451)).trans hx457_0; replace hx457_0 := (cell_far (p := ⟨gb456, 1, none⟩) (by first | (rw [add_block]; exact hn457_1) | (show (Addr.add _ _).block ≠ _; rw [add_block]; exact hn457_1) | exact hn457_1) (.int .i64 t452)).trans hx457_0; replace hx457_0 := (cell_far (p := ⟨gb456, 2, none⟩) (by first | (rw [add_block]; exact hn457_2) | (show (Addr.add _ _).block ≠ _; rw [add_block]; exact hn457_2) | exact hn457_2) (.int .i64 t453)).trans hx457_0; replace hx457_0 := (cell_far (p := ⟨gb456, 3, none⟩) (by first | (rw [add_block]; exact hn457_3) | (show (Addr.add _ _).block ≠ _; rw [add_block]; exact hn457_3) | exact hn457_3) (.int .i64 t454)).trans hx457_0; clear hn457_0; clear hn457_1; clear hn457_2; clear hn457_3; replace p457 := eq_true p457; replace q457 := eq_true q457; have p458 : 0 ≤ (x13_3 : Int) := ofb; have q458 : x13_3 < (x7_2.length : Int) := ofb; obtain ⟨ad458, e458, hx458_0⟩ := Kd.at_int (Kd.R_reads' HO_7.out).2.2 x13_3 p458 q458; obtain rfl : ad457 = ad458 := (by injection e458); have hn458_0 : ad457.block ≠ gb456 := Kd.own_blk (Kd.R_ne HO_7.out BK456.out (by decide)); have hn458_1 : ad457.block ≠ gb456 := Kd.own_blk (Kd.R_ne HO_7.out BK456.out (by decide)); have hn458_2 : ad457.block ≠ gb456 := Kd.own_blk (Kd.R_ne HO_7.out BK456.out (by decide)); have hn458_3 : ad457.block ≠ gb456 := Kd.own_blk (Kd.R_ne HO_7.out BK456.out (by decide)); replace hx458_0 := (cell_far (p := ⟨gb456, 0, none⟩) (by first | (rw [add_block]; exact hn458_0) | (show (Addr.add _ _).block ≠ _; rw [add_block]; exact hn458_0) | exact hn458_0) (.int .i64 t451)).trans hx458_0; replace hx458_0 := (cell_far (p := ⟨gb456, 1, none⟩) (by first | (rw [add_block]; exact hn458_1) | (show (Addr.add _ _).block ≠ _; rw [add_block]; exact hn458_1) | exact hn458_1) (.int .i64 t452)).trans hx458_0; replace hx458_0 := (cell_far (p := ⟨gb456, 2, none⟩) (by first | (rw [add_block]; exact hn458_2) | (show (Addr.add _ _).block ≠ _; rw [add_block]; exact hn458_2) | exact hn458_2) (.int .i64 t453)).trans hx458_0; replace hx458_0 := (cell_far (p := ⟨gb456, 3, none⟩) (by first | (rw [add_block]; exact hn458_3) | (show (Addr.add _ _).block ≠ _; rw [add_block]; exact hn458_3) | exact hn458_3) (.int .i64 t454)).trans hx458_0; clear hn458_0; clear hn458_1; clear hn458_2; clear hn458_3; replace p458 := eq_true p458; replace q458 := eq_true q458))
           go_ret
           exact (rq (bg1 HB.out GE456.out))
         rw [if_neg c102] at H
         have c102b0 := decide_eq_false c102
         clear c102
         have H' := am H
         clear H
         go_wp2_with (first | (refine gl 107 Try.func8 #[.slice Ao7 t427.length co7, .int .i64 x13_3] rfl ?_; (with_reducible refine (impl_FindLast.calls _ _ t427 x13_3 t451 t452 t453 t454 t455 _ ?side1 ?side2 A94.out).mono ?_); (case side1 => repeat (first | exact (Kd.V_reads' HO_3.out).2.2 | (with_reducible refine Kd.C_alloc ?_ _) | (with_reducible refine Kd.C_drewN ?_ _) | (with_reducible refine Kd.C_drew ?_))); (case side2 => exact (Kd.V_reads' HO_3.out).2.1); rintro e w107 ⟨rfl, hb⟩; refine ⟨_, rfl, ?_⟩; replace HO_3 := am (Kd.V_below (by (with_reducible repeat (first | apply Kd.V_alloc | apply Kd.V_drewN | apply Kd.V_drew)); exact HO_3.out) hb); replace HO_7 := am (Kd.R_below (pr HO_7.out) hb); replace HB := am (below_step (ph HB.out) hb); (try clear hb); (try clear hb2); (try clear hk); (try clear hi)) | (refine bx 14 #[.int .i64 0, .int .i64 0, .int .i64 0, .int .i64 0] 30 rfl ?_; intro gb456 hg w108 hbox hb; replace HO_3 := am (Kd.V_below (Kd.V_elderB (by (with_reducible repeat (first | apply Kd.V_alloc | apply Kd.V_drewN | apply Kd.V_drew)); exact HO_3.out) gb456 (Nat.le_of_eq hg.symm)) hb); replace HO_7 := am (Kd.R_below (pr HO_7.out) hb); have BK456 := am (hbox); have GW456 := am ((by rw [hg]; exact (below_size (ph HB.out)) : w.heap.size ≤ gb456)); have GE456 := GW456; replace HB := am (below_step (ph HB.out) hb); clear hb hbox hg; obtain ⟨hcz109_0, hcz109_1, hcz109_2, hcz109_3⟩ := b4 BK456.out; obtain ⟨hfz109_0, hfz109_1, hfz109_2, hfz109_3⟩ := f4 BK456.out; obtain ⟨Ao110, co110, eo110⟩ := Kd.R_slice HO_7.out; subst eo110; have p457 : 0 ≤ (x13_3 : Int) := ofb; have q457 : x13_3 < (x7_2.length : Int) := ofb; obtain ⟨ad457, e457, hx457_0⟩ := Kd.at_int (Kd.R_reads' HO_7.out).2.2 x13_3 p457 q457; cases e457; have hn457_0 : ad457.block ≠ gb456 := Kd.own_blk (Kd.R_ne HO_7.out BK456.out (by decide)); have hn457_1 : ad457.block ≠ gb456 := Kd.own_blk (Kd.R_ne HO_7.out BK456.out (by decide)); have hn457_2 : ad457.block ≠ gb456 := Kd.own_blk (Kd.R_ne HO_7.out BK456.out (by decide)); have hn457_3 : ad457.block ≠ gb456 := Kd.own_blk (Kd.R_ne HO_7.out BK456.out (by decide)); replace hx457_0 := (cell_far (p := ⟨gb456, 0, none⟩) (by first | (rw [add_block]; exact hn457_0) | (show (Addr.add _ _).block ≠ _; rw [add_block]; exact hn457_0) | exact hn457_0) (.int .i64 t451)).trans hx457_0; replace hx457_0 := (cell_far (p := ⟨gb456, 1, none⟩) (by first | (rw [add_block]; exact hn457_1) | (show (Addr.add _ _).block ≠ _; rw [add_block]; exact hn457_1) | exact hn457_1) (.int .i64 t452)).trans hx457_0; replace hx457_0 := (cell_far (p := ⟨gb456, 2, none⟩) (by first | (rw [add_block]; exact hn457_2) | (show (Addr.add _ _).block ≠ _; rw [add_block]; exact hn457_2) | exact hn457_2) (.int .i64 t453)).trans hx457_0; replace hx457_0 := (cell_far (p := ⟨gb456, 3, none⟩) (by first | (rw [add_block]; exact hn457_3) | (show (Addr.add _ _).block ≠ _; rw [add_block]; exact hn457_3) | exact hn457_3) (.int .i64 t454)).trans hx457_0; clear hn457_0; clear hn457_1; clear hn457_2; clear hn457_3; replace p457 := eq_true p457; replace q457 := eq_true q457; have p458 : 0 ≤ (x13_3 : Int) := ofb; have q458 : x13_3 < (x7_2.length : Int) := ofb; obtain ⟨ad458, e458, hx458_0⟩ := Kd.at_int (Kd.R_reads' HO_7.out).2.2 x13_3 p458 q458; obtain rfl : ad457 = ad458 := (by injection e458); have hn458_0 : ad457.block ≠ gb456 := Kd.own_blk (Kd.R_ne HO_7.out BK456.out (by decide)); have hn458_1 : ad457.block ≠ gb456 := Kd.own_blk (Kd.R_ne HO_7.out BK456.out (by decide)); have hn458_2 : ad457.block ≠ gb456 := Kd.own_blk (Kd.R_ne HO_7.out BK456.out (by decide)); have hn458_3 : ad457.block ≠ gb456 := Kd.own_blk (Kd.R_ne HO_7.out BK456.out (by decide)); replace hx458_0 := (cell_far (p := ⟨gb456, 0, none⟩) (by first | (rw [add_block]; exact hn458_0) | (show (Addr.add _ _).block ≠ _; rw [add_block]; exact hn458_0) | exact hn458_0) (.int .i64 t451)).trans hx458_0; replace hx458_0 := (cell_far (p := ⟨gb456, 1, none⟩) (by first | (rw [add_block]; exact hn458_1) | (show (Addr.add _ _).block ≠ _; rw [add_block]; exact hn458_1) | exact hn458_1) (.int .i64 t452)).trans hx458_0; replace hx458_0 := (cell_far (p := ⟨gb456, 2, none⟩) (by first | (rw [add_block]; exact hn458_2) | (show (Addr.add _ _).block ≠ _; rw [add_block]; exact hn458_2) | exact hn458_2) (.int .i64 t453)).trans hx458_0; replace hx458_0 := (cell_far (p := ⟨gb456, 3, none⟩) (by first | (rw [add_block]; exact hn458_3) | (show (Addr.add _ _).block ≠ _; rw [add_block]; exact hn458_3) | exact hn458_3) (.int .i64 t454)).trans hx458_0; clear hn458_0; clear hn458_1; clear hn458_2; clear hn458_3; replace p458 := eq_true p458; replace q458 := eq_true q458))
         go_roundg k3
         case measure => have := HJ4.out; have := HK2.out; have := HK3.out; omega
         case rel => exact ⟨(wrap64 (x13_3 + 1)), rf, H', ⟨by have := HJ4.out; have := HK2.out; have := HK3.out; omega⟩, ⟨by (with_reducible repeat (first | apply Kd.V_alloc | apply Kd.V_drewN | apply Kd.V_drew)); exact Kd.V_mono (Kd.V_far (p := ⟨gb456, 3, none⟩) (Kd.V_far (p := ⟨gb456, 2, none⟩) (Kd.V_far (p := ⟨gb456, 1, none⟩) (Kd.V_far (p := ⟨gb456, 0, none⟩) (Kd.V_mono HO_3.out (fun k_ hk => (⟨hk, hk.2⟩ : _ ∧ k_ ≠ gb456))) (fun _ hk => hk.2) (.int .i64 t451)) (fun _ hk => hk.2) (.int .i64 t452)) (fun _ hk => hk.2) (.int .i64 t453)) (fun _ hk => hk.2) (.int .i64 t454)) (fun _ hk => hk.1.1)⟩, ⟨by (with_reducible repeat (first | apply Kd.R_alloc | apply Kd.R_drewN | apply Kd.R_drew)); exact Kd.R_mono (Kd.R_far (p := ⟨gb456, 3, none⟩) (Kd.R_far (p := ⟨gb456, 2, none⟩) (Kd.R_far (p := ⟨gb456, 1, none⟩) (Kd.R_far (p := ⟨gb456, 0, none⟩) (Kd.R_types HO_7.out BK456.out (by decide)) (fun _ hk => hk.2) (.int .i64 t451)) (fun _ hk => hk.2) (.int .i64 t452)) (fun _ hk => hk.2) (.int .i64 t453)) (fun _ hk => hk.2) (.int .i64 t454)) (fun _ hk => trivial)⟩, ⟨bg1 HB.out GE456.out⟩⟩
     rw [if_pos c21] at H
     have c21b0 := decide_eq_true c21
     clear c21
     have H' := am H
     clear H
     go_wp2
     go_loopg [9] k2 (fun kq v9 w' => ∃ (x7_3 : List Int) (x9_3 : Int), v9 = .int .i64 x9_3 ∧ Aside0 (laws_FnLive.l1 kq t427 x7_3 x8_2 x9_3 = some r) ∧ Aside0 (kq ≤ k2) ∧ Aside0 (Kd.V k35 35 w' w.heap.size (fun k_ => some k_ ≠ (v437 : Value).ownBlock) (.slice Ao7 t427.length co7) t427) ∧ Aside0 (Kd.R (Kd.int .i64) 3 w' w.heap.size (fun _ => True) v437 x7_3) ∧ Aside0 (Below w.heap.size w w'))
     case atStart => exact ⟨(x7_2), (0), rf, H', ⟨Nat.le_refl _⟩, ⟨by (with_reducible repeat (first | apply Kd.V_alloc | apply Kd.V_drewN | apply Kd.V_drew)); exact HO_3.out⟩, ⟨pr HO_7.out⟩, ⟨ph HB.out⟩⟩
     case round =>
      clear H'
      obtain ⟨x7_3, x9_3, rfl, HA, HK3, HO_3, HO_7, HB⟩ := hrel
      cases gk with
      | zero => exact absurd HA.out (by simp [laws_FnLive.l1])
      | succ k3 =>
       have H := HA.out
       clear HA
       simp only [laws_FnLive.l1] at H
       by_cases c22 : x9_3 < 4
       rotate_left
       · rw [if_neg c22] at H
         have c22b0 := decide_eq_false c22
         clear c22
         have H' := am H
         clear H
         go_wp2
         go_roundg k3
         case measure => have := HJ4.out; have := HK2.out; have := HK3.out; omega
         case rel => exact ⟨(x7_3), (wrap64 (x8_2 + 1)), rf, H', ⟨by have := HJ4.out; have := HK2.out; have := HK3.out; omega⟩, ⟨by (with_reducible repeat (first | apply Kd.V_alloc | apply Kd.V_drewN | apply Kd.V_drew)); exact HO_3.out⟩, ⟨pr HO_7.out⟩, ⟨ph HB.out⟩⟩
       rw [if_pos c22] at H
       have c22b0 := decide_eq_true c22
       clear c22
       replace H := Option.bind_eq_some_iff.mp H
       obtain ⟨t439, A230, H⟩ := H
       replace H : (if t439 = true then (if 0 ≤ x8_2 then (if x8_2 < (t427.length : Int) then (if 0 ≤ x9_3 then (if x9_3 < (((rd_T35 t427 x8_2).f0).length : Int) then (if 0 ≤ ((rd_T32 ((rd_T35 t427 x8_2).f0) x9_3).f1.f2) then (if ((rd_T32 ((rd_T35 t427 x8_2).f0) x9_3).f1.f2) < (x7_3.length : Int) then ((impl_FindLast.f t427 ((rd_T32 ((rd_T35 t427 x8_2).f0) x9_3).f1.f2)).bind fun bt445 => (if ((rd_T32 ((rd_T35 t427 x8_2).f0) x9_3).f0) = 1 then (if bt445.2.2.2.2 = true then (if (!(bt445.1 == ((rd_T32 ((rd_T35 t427 x8_2).f0) x9_3).f1.f0)) || (!(bt445.2.1 == ((rd_T32 ((rd_T35 t427 x8_2).f0) x9_3).f1.f1)) || (!(bt445.2.2.1 == ((rd_T32 ((rd_T35 t427 x8_2).f0) x9_3).f1.f2)) || (!(bt445.2.2.2.1 == ((rd_T32 ((rd_T35 t427 x8_2).f0) x9_3).f1.f3)))))) = true then (some false) else (laws_FnLive.l1 k3 t427 (x7_3.set (((rd_T32 ((rd_T35 t427 x8_2).f0) x9_3).f1.f2) : Int).toNat (wrap64 ((rd x7_3 ((rd_T32 ((rd_T35 t427 x8_2).f0) x9_3).f1.f2)) + 1))) x8_2 (wrap64 (x9_3 + 1)))) else (some false)) else (some false))) else (none)) else (none)) else (none)) else (none)) else (none)) else (none)) else (laws_FnLive.l1 k3 t427 x7_3 x8_2 (wrap64 (x9_3 + 1)))) = some r := H
       have A23 := am A230
       clear A230
       by_cases c24 : t439 = true
       rotate_left
       · replace c24 := Bool.eq_false_iff.mpr c24
         subst c24
         have H1 : (laws_FnLive.l1 k3 t427 x7_3 x8_2 (wrap64 (x9_3 + 1))) = some r := by rw [if_neg (show ¬ (false = true) by decide)] at H; exact H
         clear H
         have H := H1
         clear H1
         have H' := am H
         clear H
         go_wp2_with (first | (refine gl 58 Try.func5 #[.slice Ao7 t427.length co7, .int .i64 x8_2, .int .i64 x9_3] rfl ?_; (with_reducible refine (impl_FindLive.calls k3 _ _ t427 x8_2 x9_3 false _ ?side1 ?side2 A23.out).mono ?_); (case side1 => repeat (first | exact (Kd.V_reads' HO_3.out).2.2 | (with_reducible refine Kd.C_alloc ?_ _) | (with_reducible refine Kd.C_drewN ?_ _) | (with_reducible refine Kd.C_drew ?_))); (case side2 => exact (Kd.V_reads' HO_3.out).2.1); rintro e w92 ⟨rfl, hb⟩; refine ⟨_, rfl, ?_⟩; replace HO_3 := am (Kd.V_below (by (with_reducible repeat (first | apply Kd.V_alloc | apply Kd.V_drewN | apply Kd.V_drew)); exact HO_3.out) hb); replace HO_7 := am (Kd.R_below (pr HO_7.out) hb); replace HB := am (below_step (ph HB.out) hb); (try clear hb); (try clear hb2); (try clear hk); (try clear hi)))
         go_roundg k3
         case measure => have := HJ4.out; have := HK2.out; have := HK3.out; omega
         case rel => exact ⟨(x7_3), (wrap64 (x9_3 + 1)), rf, H', ⟨by have := HJ4.out; have := HK2.out; have := HK3.out; omega⟩, ⟨by (with_reducible repeat (first | apply Kd.V_alloc | apply Kd.V_drewN | apply Kd.V_drew)); exact HO_3.out⟩, ⟨pr HO_7.out⟩, ⟨ph HB.out⟩⟩
       subst c24
       have H1 : (if 0 ≤ x8_2 then (if x8_2 < (t427.length : Int) then (if 0 ≤ x9_3 then (if x9_3 < (((rd_T35 t427 x8_2).f0).length : Int) then (if 0 ≤ ((rd_T32 ((rd_T35 t427 x8_2).f0) x9_3).f1.f2) then (if ((rd_T32 ((rd_T35 t427 x8_2).f0) x9_3).f1.f2) < (x7_3.length : Int) then ((impl_FindLast.f t427 ((rd_T32 ((rd_T35 t427 x8_2).f0) x9_3).f1.f2)).bind fun bt445 => (if ((rd_T32 ((rd_T35 t427 x8_2).f0) x9_3).f0) = 1 then (if bt445.2.2.2.2 = true then (if (!(bt445.1 == ((rd_T32 ((rd_T35 t427 x8_2).f0) x9_3).f1.f0)) || (!(bt445.2.1 == ((rd_T32 ((rd_T35 t427 x8_2).f0) x9_3).f1.f1)) || (!(bt445.2.2.1 == ((rd_T32 ((rd_T35 t427 x8_2).f0) x9_3).f1.f2)) || (!(bt445.2.2.2.1 == ((rd_T32 ((rd_T35 t427 x8_2).f0) x9_3).f1.f3)))))) = true then (some false) else (laws_FnLive.l1 k3 t427 (x7_3.set (((rd_T32 ((rd_T35 t427 x8_2).f0) x9_3).f1.f2) : Int).toNat (wrap64 ((rd x7_3 ((rd_T32 ((rd_T35 t427 x8_2).f0) x9_3).f1.f2)) + 1))) x8_2 (wrap64 (x9_3 + 1)))) else (some false)) else (some false))) else (none)) else (none)) else (none)) else (none)) else (none)) else (none)) = some r := by rw [if_pos rfl] at H; exact H
       clear H
       have H := H1
       clear H1
       by_cases c25 : 0 ≤ x8_2
       rotate_left
       · rw [if_neg c25] at H
         exact absurd H (by simp)
       rw [if_pos c25] at H
       have c25b0 := decide_eq_true c25
       clear c25
       by_cases c26 : x8_2 < (t427.length : Int)
       rotate_left
       · rw [if_neg c26] at H
         exact absurd H (by simp)
       rw [if_pos c26] at H
       have c26b0 := decide_eq_true c26
       clear c26
       by_cases c27 : 0 ≤ x9_3
       rotate_left
       · rw [if_neg c27] at H
         exact absurd H (by simp)
       rw [if_pos c27] at H
       have c27b0 := decide_eq_true c27
       clear c27
       by_cases c28 : x9_3 < (((rd_T35 t427 x8_2).f0).length : Int)
       rotate_left
       · rw [if_neg c28] at H
         exact absurd H (by simp)
       rw [if_pos c28] at H
       have c28b0 := decide_eq_true c28
       clear c28
       by_cases c29 : 0 ≤ ((rd_T32 ((rd_T35 t427 x8_2).f0) x9_3).f1.f2)
       rotate_left
       · rw [if_neg c29] at H
         exact absurd H (by simp)
       rw [if_pos c29] at H
       have c29b0 := decide_eq_true c29
       clear c29
       by_cases c30 : ((rd_T32 ((rd_T35 t427 x8_2).f0) x9_3).f1.f2) < (x7_3.length : Int)
       rotate_left
       · rw [if_neg c30] at H
         exact absurd H (by simp)
       rw [if_pos c30] at H
       have c30b0 := decide_eq_true c30
       clear c30
       obtain ⟨y444, hy444⟩ : ∃ y_ : List Int, y_ = (x7_3.set (((rd_T32 ((rd_T35 t427 x8_2).f0) x9_3).f1.f2) : Int).toNat (wrap64 ((rd x7_3 ((rd_T32 ((rd_T35 t427 x8_2).f0) x9_3).f1.f2)) + 1))) := ⟨_, rfl⟩
       replace H : ((impl_FindLast.f t427 ((rd_T32 ((rd_T35 t427 x8_2).f0) x9_3).f1.f2)).bind fun bt445 => (if ((rd_T32 ((rd_T35 t427 x8_2).f0) x9_3).f0) = 1 then (if bt445.2.2.2.2 = true then (if (!(bt445.1 == ((rd_T32 ((rd_T35 t427 x8_2).f0) x9_3).f1.f0)) || (!(bt445.2.1 == ((rd_T32 ((rd_T35 t427 x8_2).f0) x9_3).f1.f1)) || (!(bt445.2.2.1 == ((rd_T32 ((rd_T35 t427 x8_2).f0) x9_3).f1.f2)) || (!(bt445.2.2.2.1 == ((rd_T32 ((rd_T35 t427 x8_2).f0) x9_3).f1.f3)))))) = true then (some false) else (laws_FnLive.l1 k3 t427 y444 x8_2 (wrap64 (x9_3 + 1)))) else (some false)) else (some false))) = some r := by first | (rw [hy444]; with_reducible exact H) | (have H2_ := (Option.bind_some _ _).symm.trans H; rw [hy444]; with_reducible exact H2_) | (have H2_ := (Option.bind_some _ _).symm.trans H; with_reducible exact H2_) | with_reducible exact H | (rw [hy444]; exact H) | exact H
       have Ny444 := am hy444
       clear hy444
       replace H := Option.bind_eq_some_iff.mp H
       obtain ⟨⟨t445, t446, t447, t448, t449⟩, A320, H⟩ := H
       replace H : (if ((rd_T32 ((rd_T35 t427 x8_2).f0) x9_3).f0) = 1 then (if t449 = true then (if (!(t445 == ((rd_T32 ((rd_T35 t427 x8_2).f0) x9_3).f1.f0)) || (!(t446 == ((rd_T32 ((rd_T35 t427 x8_2).f0) x9_3).f1.f1)) || (!(t447 == ((rd_T32 ((rd_T35 t427 x8_2).f0) x9_3).f1.f2)) || (!(t448 == ((rd_T32 ((rd_T35 t427 x8_2).f0) x9_3).f1.f3)))))) = true then (some false) else (laws_FnLive.l1 k3 t427 y444 x8_2 (wrap64 (x9_3 + 1)))) else (some false)) else (some false)) = some r := H
       have A32 := am A320
       clear A320
       by_cases c33 : ((rd_T32 ((rd_T35 t427 x8_2).f0) x9_3).f0) = 1
       rotate_left
       · rw [if_neg c33] at H
         have c33b0 : (((rd_T32 ((rd_T35 t427 x8_2).f0) x9_3).f0) == 1) = false := beq_eq_false_iff_ne.mpr c33
         have c33b1 : (((rd_T32 ((rd_T35 t427 x8_2).f0) x9_3).f0) != 1) = true := bne_iff_ne.mpr c33
         obtain rfl := Option.some.inj H
         try go_wp2_with (first | (refine gl 58 Try.func5 #[.slice Ao7 t427.length co7, .int .i64 x8_2, .int .i64 x9_3] rfl ?_; (with_reducible refine (impl_FindLive.calls k3 _ _ t427 x8_2 x9_3 true _ ?side1 ?side2 A23.out).mono ?_); (case side1 => repeat (first | exact (Kd.V_reads' HO_3.out).2.2 | (with_reducible refine Kd.C_alloc ?_ _) | (with_reducible refine Kd.C_drewN ?_ _) | (with_reducible refine Kd.C_drew ?_))); (case side2 => exact (Kd.V_reads' HO_3.out).2.1); rintro e w78 ⟨rfl, hb⟩; refine ⟨_, rfl, ?_⟩; replace HO_3 := am (Kd.V_below (by (with_reducible repeat (first | apply Kd.V_alloc | apply Kd.V_drewN | apply Kd.V_drew)); exact HO_3.out) hb); replace HO_7 := am (Kd.R_below (pr HO_7.out) hb); replace HB := am (below_step (ph HB.out) hb); (try clear hb); (try clear hb2); (try clear hk); (try clear hi); have p440 : 0 ≤ (x8_2 : Int) := ofb; have q440 : x8_2 < (t427.length : Int) := ofb; obtain ⟨ad440, A440_0, c440_0, e440, hx440_0, hx440_1, hl440_0, hi440_0⟩ := at_T35 (Kd.V_reads' HO_3.out).2.2 x8_2 p440 q440; cases e440; obtain ⟨ce440, hce440, hMe440, hcc440⟩ := Kd.V_get HO_3.out z35 x8_2 p440 (by first | exact q440 | exact ofb | (have e_ := (Kd.V_reads' HO_3.out).1; omega)); obtain ⟨ua440_0, uc440_0, rfl, ul440_0, ge440_0⟩ := k35_openF hMe440; have hv440_0 := hcc440 0 _ rfl; rw [Nat.add_zero] at hv440_0; replace hv440_0 := Option.some.inj (hv440_0.symm.trans hx440_0); injection hv440_0 with hva_ hvn_ hvc_; rw [hva_] at ge440_0; rw [hvc_] at ul440_0; have HL440_0 := am (show Kd.V k32 32 _ w.heap.size _ _ ((rd_T35 t427 x8_2).f0) from Kd.V_mk ul440_0 ge440_0); clear hva_ hvn_ hvc_ ge440_0 ul440_0; clear hcc440 hce440; have HR440_0 := am hi440_0; have HC440_0 := am hl440_0; clear hi440_0 hl440_0; replace p440 := eq_true p440; replace q440 := eq_true q440; have p441 : 0 ≤ (x9_3 : Int) := ofb; have q441 : x9_3 < (((rd_T35 t427 x8_2).f0).length : Int) := ofb; obtain ⟨ad441, e441, hx441_0, hx441_1, hx441_2, hx441_3, hx441_4⟩ := at_T32 (by repeat (first | (with_reducible exact HR440_0.out) | (with_reducible refine Kd.C_alloc ?_ _) | (with_reducible refine Kd.C_drewN ?_ _) | (with_reducible refine Kd.C_drew ?_) | exact HR440_0.out)) x9_3 p441 q441; cases e441; replace p441 := eq_true p441; replace q441 := eq_true q441) | (refine bx 10 #[.int .i64 0, .int .i64 0, .int .i64 0, .int .i64 0, .int .i64 0] 32 rfl ?_; intro gb442 hg w79 hbox hb; replace HO_3 := am (Kd.V_below (Kd.V_elderB (by (with_reducible repeat (first | apply Kd.V_alloc | apply Kd.V_drewN | apply Kd.V_drew)); exact HO_3.out) gb442 (Nat.le_of_eq hg.symm)) hb); replace HO_7 := am (Kd.R_below (pr HO_7.out) hb); replace HL440_0 := am (Kd.V_below (Kd.V_elderB (by (with_reducible repeat (first | apply Kd.V_alloc | apply Kd.V_drewN | apply Kd.V_drew)); exact HL440_0.out) gb442 (Nat.le_of_eq hg.symm)) hb); replace HR440_0 := am (Kd.C_below (by repeat (first | (with_reducible exact HR440_0.out) | (with_reducible refine Kd.C_alloc ?_ _) | (with_reducible refine Kd.C_drewN ?_ _) | (with_reducible refine Kd.C_drew ?_) | exact HR440_0.out)) hb); have BK442 := am (hbox); have GW442 := am ((by rw [hg]; exact (below_size (ph HB.out)) : w.heap.size ≤ gb442)); have GE442 := GW442; replace HB := am (below_step (ph HB.out) hb); clear hb hbox hg; obtain ⟨hcz80_0, hcz80_1, hcz80_2, hcz80_3, hcz80_4⟩ := b5 BK442.out; obtain ⟨hfz80_0, hfz80_1, hfz80_2, hfz80_3, hfz80_4⟩ := f5 BK442.out))
         have n0_ : Aside0 (Kd.V k35 35 (((((w79.setCell ⟨gb442, 0, none⟩ (.int .i64 ((rd_T32 ((rd_T35 t427 x8_2).f0) x9_3).f0))).setCell ⟨gb442, 1, none⟩ (.int .i64 ((rd_T32 ((rd_T35 t427 x8_2).f0) x9_3).f1.f0))).setCell ⟨gb442, 2, none⟩ (.int .i64 ((rd_T32 ((rd_T35 t427 x8_2).f0) x9_3).f1.f1))).setCell ⟨gb442, 3, none⟩ (.int .i64 ((rd_T32 ((rd_T35 t427 x8_2).f0) x9_3).f1.f2))).setCell ⟨gb442, 4, none⟩ (.int .i64 ((rd_T32 ((rd_T35 t427 x8_2).f0) x9_3).f1.f3))) w.heap.size (fun k_ => some k_ ≠ (v437 : Value).ownBlock ∧ k_ ≠ gb442) (.slice (some ad440) t427.length co7) t427) := ⟨by (with_reducible repeat (first | apply Kd.V_alloc | apply Kd.V_drewN | apply Kd.V_drew)); exact Kd.V_mono (Kd.V_far (p := ⟨gb442, 4, none⟩) (Kd.V_far (p := ⟨gb442, 3, none⟩) (Kd.V_far (p := ⟨gb442, 2, none⟩) (Kd.V_far (p := ⟨gb442, 1, none⟩) (Kd.V_far (p := ⟨gb442, 0, none⟩) (Kd.V_mono HO_3.out (fun k_ hk => (⟨hk, hk.2⟩ : _ ∧ k_ ≠ gb442))) (fun _ hk => hk.2) (.int .i64 ((rd_T32 ((rd_T35 t427 x8_2).f0) x9_3).f0))) (fun _ hk => hk.2) (.int .i64 ((rd_T32 ((rd_T35 t427 x8_2).f0) x9_3).f1.f0))) (fun _ hk => hk.2) (.int .i64 ((rd_T32 ((rd_T35 t427 x8_2).f0) x9_3).f1.f1))) (fun _ hk => hk.2) (.int .i64 ((rd_T32 ((rd_T35 t427 x8_2).f0) x9_3).f1.f2))) (fun _ hk => hk.2) (.int .i64 ((rd_T32 ((rd_T35 t427 x8_2).f0) x9_3).f1.f3))) (fun _ hk => ⟨hk.1.1, hk.1.2⟩)⟩
         have n1_ : Aside0 (Kd.R (Kd.int .i64) 3 (((((w79.setCell ⟨gb442, 0, none⟩ (.int .i64 ((rd_T32 ((rd_T35 t427 x8_2).f0) x9_3).f0))).setCell ⟨gb442, 1, none⟩ (.int .i64 ((rd_T32 ((rd_T35 t427 x8_2).f0) x9_3).f1.f0))).setCell ⟨gb442, 2, none⟩ (.int .i64 ((rd_T32 ((rd_T35 t427 x8_2).f0) x9_3).f1.f1))).setCell ⟨gb442, 3, none⟩ (.int .i64 ((rd_T32 ((rd_T35 t427 x8_2).f0) x9_3).f1.f2))).setCell ⟨gb442, 4, none⟩ (.int .i64 ((rd_T32 ((rd_T35 t427 x8_2).f0) x9_3).f1.f3))) w.heap.size (fun _ => True) v437 x7_3) := ⟨by (with_reducible repeat (first | apply Kd.R_alloc | apply Kd.R_drewN | apply Kd.R_drew)); exact Kd.R_mono (Kd.R_far (p := ⟨gb442, 4, none⟩) (Kd.R_far (p := ⟨gb442, 3, none⟩) (Kd.R_far (p := ⟨gb442, 2, none⟩) (Kd.R_far (p := ⟨gb442, 1, none⟩) (Kd.R_far (p := ⟨gb442, 0, none⟩) (Kd.R_types HO_7.out BK442.out (by decide)) (fun _ hk => hk.2) (.int .i64 ((rd_T32 ((rd_T35 t427 x8_2).f0) x9_3).f0))) (fun _ hk => hk.2) (.int .i64 ((rd_T32 ((rd_T35 t427 x8_2).f0) x9_3).f1.f0))) (fun _ hk => hk.2) (.int .i64 ((rd_T32 ((rd_T35 t427 x8_2).f0) x9_3).f1.f1))) (fun _ hk => hk.2) (.int .i64 ((rd_T32 ((rd_T35 t427 x8_2).f0) x9_3).f1.f2))) (fun _ hk => hk.2) (.int .i64 ((rd_T32 ((rd_T35 t427 x8_2).f0) x9_3).f1.f3))) (fun _ hk => trivial)⟩
         have n2_ : Aside0 (Kd.V k32 32 (((((w79.setCell ⟨gb442, 0, none⟩ (.int .i64 ((rd_T32 ((rd_T35 t427 x8_2).f0) x9_3).f0))).setCell ⟨gb442, 1, none⟩ (.int .i64 ((rd_T32 ((rd_T35 t427 x8_2).f0) x9_3).f1.f0))).setCell ⟨gb442, 2, none⟩ (.int .i64 ((rd_T32 ((rd_T35 t427 x8_2).f0) x9_3).f1.f1))).setCell ⟨gb442, 3, none⟩ (.int .i64 ((rd_T32 ((rd_T35 t427 x8_2).f0) x9_3).f1.f2))).setCell ⟨gb442, 4, none⟩ (.int .i64 ((rd_T32 ((rd_T35 t427 x8_2).f0) x9_3).f1.f3))) w.heap.size (fun k_ => some k_ ≠ (v437 : Value).ownBlock ∧ k_ ≠ gb442) (.slice (some ad441) ((rd_T35 t427 x8_2).f0).length c440_0) ((rd_T35 t427 x8_2).f0)) := ⟨by (with_reducible repeat (first | apply Kd.V_alloc | apply Kd.V_drewN | apply Kd.V_drew)); exact Kd.V_mono (Kd.V_far (p := ⟨gb442, 4, none⟩) (Kd.V_far (p := ⟨gb442, 3, none⟩) (Kd.V_far (p := ⟨gb442, 2, none⟩) (Kd.V_far (p := ⟨gb442, 1, none⟩) (Kd.V_far (p := ⟨gb442, 0, none⟩) (Kd.V_mono HL440_0.out (fun k_ hk => (⟨hk, hk.2⟩ : _ ∧ k_ ≠ gb442))) (fun _ hk => hk.2) (.int .i64 ((rd_T32 ((rd_T35 t427 x8_2).f0) x9_3).f0))) (fun _ hk => hk.2) (.int .i64 ((rd_T32 ((rd_T35 t427 x8_2).f0) x9_3).f1.f0))) (fun _ hk => hk.2) (.int .i64 ((rd_T32 ((rd_T35 t427 x8_2).f0) x9_3).f1.f1))) (fun _ hk => hk.2) (.int .i64 ((rd_T32 ((rd_T35 t427 x8_2).f0) x9_3).f1.f2))) (fun _ hk => hk.2) (.int .i64 ((rd_T32 ((rd_T35 t427 x8_2).f0) x9_3).f1.f3))) (fun _ hk => ⟨hk.1.1, hk.1.2⟩)⟩
         have n3_ : Aside0 ((((((w79.setCell ⟨gb442, 0, none⟩ (.int .i64 ((rd_T32 ((rd_T35 t427 x8_2).f0) x9_3).f0))).setCell ⟨gb442, 1, none⟩ (.int .i64 ((rd_T32 ((rd_T35 t427 x8_2).f0) x9_3).f1.f0))).setCell ⟨gb442, 2, none⟩ (.int .i64 ((rd_T32 ((rd_T35 t427 x8_2).f0) x9_3).f1.f1))).setCell ⟨gb442, 3, none⟩ (.int .i64 ((rd_T32 ((rd_T35 t427 x8_2).f0) x9_3).f1.f2))).setCell ⟨gb442, 4, none⟩ (.int .i64 ((rd_T32 ((rd_T35 t427 x8_2).f0) x9_3).f1.f3))).heap[gb442]? = some (.cells #[.int .i64 ((rd_T32 ((rd_T35 t427 x8_2).f0) x9_3).f0), .int .i64 ((rd_T32 ((rd_T35 t427 x8_2).f0) x9_3).f1.f0), .int .i64 ((rd_T32 ((rd_T35 t427 x8_2).f0) x9_3).f1.f1), .int .i64 ((rd_T32 ((rd_T35 t427 x8_2).f0) x9_3).f1.f2), .int .i64 ((rd_T32 ((rd_T35 t427 x8_2).f0) x9_3).f1.f3)] 32 (0, 0))) := ⟨by (with_reducible repeat (first | refine blk_drewN ?_ _ | refine blk_drew ?_ | refine blk_alloc ?_ _)); refine blk_put (cs := #[.int .i64 ((rd_T32 ((rd_T35 t427 x8_2).f0) x9_3).f0), .int .i64 ((rd_T32 ((rd_T35 t427 x8_2).f0) x9_3).f1.f0), .int .i64 ((rd_T32 ((rd_T35 t427 x8_2).f0) x9_3).f1.f1), .int .i64 ((rd_T32 ((rd_T35 t427 x8_2).f0) x9_3).f1.f2), .int .i64 0]) ?_ 4 _ rfl; (with_reducible repeat (first | refine blk_drewN ?_ _ | refine blk_drew ?_ | refine blk_alloc ?_ _)); refine blk_put (cs := #[.int .i64 ((rd_T32 ((rd_T35 t427 x8_2).f0) x9_3).f0), .int .i64 ((rd_T32 ((rd_T35 t427 x8_2).f0) x9_3).f1.f0), .int .i64 ((rd_T32 ((rd_T35 t427 x8_2).f0) x9_3).f1.f1), .int .i64 0, .int .i64 0]) ?_ 3 _ rfl; (with_reducible repeat (first | refine blk_drewN ?_ _ | refine blk_drew ?_ | refine blk_alloc ?_ _)); refine blk_put (cs := #[.int .i64 ((rd_T32 ((rd_T35 t427 x8_2).f0) x9_3).f0), .int .i64 ((rd_T32 ((rd_T35 t427 x8_2).f0) x9_3).f1.f0), .int .i64 0, .int .i64 0, .int .i64 0]) ?_ 2 _ rfl; (with_reducible repeat (first | refine blk_drewN ?_ _ | refine blk_drew ?_ | refine blk_alloc ?_ _)); refine blk_put (cs := #[.int .i64 ((rd_T32 ((rd_T35 t427 x8_2).f0) x9_3).f0), .int .i64 0, .int .i64 0, .int .i64 0, .int .i64 0]) ?_ 1 _ rfl; (with_reducible repeat (first | refine blk_drewN ?_ _ | refine blk_drew ?_ | refine blk_alloc ?_ _)); refine blk_put (cs := #[.int .i64 0, .int .i64 0, .int .i64 0, .int .i64 0, .int .i64 0]) ?_ 0 _ rfl; (with_reducible repeat (first | refine blk_drewN ?_ _ | refine blk_drew ?_ | refine blk_alloc ?_ _)); exact BK442.out⟩
         have n4_ : Aside0 (Below w.heap.size w (((((w79.setCell ⟨gb442, 0, none⟩ (.int .i64 ((rd_T32 ((rd_T35 t427 x8_2).f0) x9_3).f0))).setCell ⟨gb442, 1, none⟩ (.int .i64 ((rd_T32 ((rd_T35 t427 x8_2).f0) x9_3).f1.f0))).setCell ⟨gb442, 2, none⟩ (.int .i64 ((rd_T32 ((rd_T35 t427 x8_2).f0) x9_3).f1.f1))).setCell ⟨gb442, 3, none⟩ (.int .i64 ((rd_T32 ((rd_T35 t427 x8_2).f0) x9_3).f1.f2))).setCell ⟨gb442, 4, none⟩ (.int .i64 ((rd_T32 ((rd_T35 t427 x8_2).f0) x9_3).f1.f3)))) := ⟨bg1 HB.out GE442.out⟩
         (try clear HO_3)
         (try clear HO_7)
         (try clear HL440_0)
         (try clear BK442)
         (try clear HB)
         generalize (((((w79.setCell ⟨gb442, 0, none⟩ (.int .i64 ((rd_T32 ((rd_T35 t427 x8_2).f0) x9_3).f0))).setCell ⟨gb442, 1, none⟩ (.int .i64 ((rd_T32 ((rd_T35 t427 x8_2).f0) x9_3).f1.f0))).setCell ⟨gb442, 2, none⟩ (.int .i64 ((rd_T32 ((rd_T35 t427 x8_2).f0) x9_3).f1.f1))).setCell ⟨gb442, 3, none⟩ (.int .i64 ((rd_T32 ((rd_T35 t427 x8_2).f0) x9_3).f1.f2))).setCell ⟨gb442, 4, none⟩ (.int .i64 ((rd_T32 ((rd_T35 t427 x8_2).f0) x9_3).f1.f3))) = w81 at n0_ n1_ n2_ n3_ n4_ ⊢
         have HO_3 := n0_
         have HO_7 := n1_
         have HL440_0 := n2_
         have BK442 := n3_
         have HB := n4_
         clear n0_ n1_ n2_ n3_ n4_
         replace HO_3 := am (Kd.V_drew HO_3.out)
         replace HO_7 := am (Kd.R_drew HO_7.out)
         replace HL440_0 := am (Kd.V_drew HL440_0.out)
         replace BK442 := am (blk_drew BK442.out)
         replace HB := am (below_drew1 HB.out)
         obtain ⟨Ao83, co83, eo83⟩ := Kd.R_slice HO_7.out
         (first | subst eo83 | (injection eo83 with f1_ f2_ f3_; have f4_ := f1_.symm; have f5_ := f3_.symm; clear f1_ f2_ f3_; subst f4_; subst f5_))
         have p443 : 0 ≤ (((rd_T32 ((rd_T35 t427 x8_2).f0) x9_3).f1.f2) : Int) := ofb
         have q443 : ((rd_T32 ((rd_T35 t427 x8_2).f0) x9_3).f1.f2) < (x7_3.length : Int) := ofb
         obtain ⟨ad443, e443, hx443_0⟩ := Kd.at_int (Kd.R_reads' HO_7.out).2.2 ((rd_T32 ((rd_T35 t427 x8_2).f0) x9_3).f1.f2) p443 q443
         cases e443
         replace p443 := eq_true p443
         replace q443 := eq_true q443
         have p31 : 0 ≤ (((rd_T32 ((rd_T35 t427 x8_2).f0) x9_3).f1.f2) : Int) := ofb
         have q31 : (((rd_T32 ((rd_T35 t427 x8_2).f0) x9_3).f1.f2) : Int) < ((x7_3.length : Int) : Int) := ofb
         obtain ⟨go31, co31, eo31, gb31, gl31, cl31, HG31⟩ := Kd.R_form HO_7.out (by omega)
         (first | cases eo31 | (injection eo31 with ea_ en_ ec_; (first | subst ea_ | (injection ea_ with ea_; subst ea_)); subst ec_; clear en_))
         have GB31 := am gb31
         have GG31 := am HG31
         clear gb31 gl31 HG31
         (first | simp only [add_plain] at hx443_0 | skip)
         obtain ⟨hx31_0, hf31_0⟩ := Kd.R_celln 0 HO_7.out (((rd_T32 ((rd_T35 t427 x8_2).f0) x9_3).f1.f2) : Int) p31 q31
         replace p31 := eq_true p31
         replace q31 := eq_true q31
         have HP84 := Kd.R_putn HO_7.out (((rd_T32 ((rd_T35 t427 x8_2).f0) x9_3).f1.f2) : Int) (wrap64 ((rd x7_3 ((rd_T32 ((rd_T35 t427 x8_2).f0) x9_3).f1.f2)) + 1))
         rw [← Ny444.out] at HP84
         have HQ84 := am HP84
         clear HP84
         refine start_ (n := 13) (S := fun w' => w'.cell? ⟨gb442, 0, none⟩ = some (.int .i64 ((rd_T32 ((rd_T35 t427 x8_2).f0) x9_3).f0)) ∧ w'.cell? ⟨gb442, 1, none⟩ = some (.int .i64 ((rd_T32 ((rd_T35 t427 x8_2).f0) x9_3).f1.f0)) ∧ w'.cell? ⟨gb442, 2, none⟩ = some (.int .i64 ((rd_T32 ((rd_T35 t427 x8_2).f0) x9_3).f1.f1)) ∧ w'.cell? ⟨gb442, 3, none⟩ = some (.int .i64 ((rd_T32 ((rd_T35 t427 x8_2).f0) x9_3).f1.f2)) ∧ w'.cell? ⟨gb442, 4, none⟩ = some (.int .i64 ((rd_T32 ((rd_T35 t427 x8_2).f0) x9_3).f1.f3)) ∧ w'.cell? ⟨go31, (((rd_T32 ((rd_T35 t427 x8_2).f0) x9_3).f1.f2)).toNat, none⟩ = some (.int .i64 (rd x7_3 ((rd_T32 ((rd_T35 t427 x8_2).f0) x9_3).f1.f2)))) (ds := [12]) #[false, false, false, false, false, false, false, false, false, false, false, false, false] (by kernel_rfl) rfl rfl ⟨(blk_cell BK442.out 0).trans rfl, (blk_cell BK442.out 1).trans rfl, (blk_cell BK442.out 2).trans rfl, (blk_cell BK442.out 3).trans rfl, (blk_cell BK442.out 4).trans rfl, hx443_0⟩ (fun hHeld => ?_); refine with_tabW laws_FnLive.tab16 laws_FnLive.bits16 (fun HT_ HW_ => ?_)
         generalize w81.drew = w82 at HO_3 HO_7 HL440_0 BK442 HB GG31 HQ84 hf31_0 hx31_0 hx443_0 hHeld ⊢
         refine pj_ 0 67 #[true, false, false, false, false, false, false, false, false, false, false, false, false] rfl rfl (any_of HT_.out (by kernel_rfl)) (fun _ _ _ h => h) ?_
         refine pj_ 1 68 #[true, true, false, false, false, false, false, false, false, false, false, false, false] rfl rfl (any_of HT_.out (by kernel_rfl)) (fun _ _ _ h => h) ?_
         refine pj_ 2 69 #[true, true, true, false, false, false, false, false, false, false, false, false, false] rfl rfl (any_of HT_.out (by kernel_rfl)) (fun _ _ _ h => h) ?_
         refine pj_ 4 71 #[true, true, true, false, true, false, false, false, false, false, false, false, false] rfl rfl (any_of HT_.out (by kernel_rfl)) (fun _ _ _ h => h) ?_
         refine pj_ 5 72 #[true, true, true, false, true, true, false, false, false, false, false, false, false] rfl rfl (any_of HT_.out (by kernel_rfl)) (fun _ _ _ h => h) ?_
         refine pj_ 6 73 #[true, true, true, false, true, true, true, false, false, false, false, false, false] rfl rfl (any_of HT_.out (by kernel_rfl)) (fun _ _ _ h => h) ?_
         refine pm_ 3 70 #[true, true, true, true, true, true, true, false, false, false, false, false, false] rfl rfl (take_ofW HT_.out HW_.out (by kernel_rfl)) (fun _ _ _ h => h) hHeld ?_
         refine pm_ 7 74 #[true, true, true, true, true, true, true, true, false, false, false, false, false] rfl rfl (take_ofW HT_.out HW_.out (by kernel_rfl)) (fun _ _ _ h => h) hHeld ?_
         refine pj_ 8 75 #[true, true, true, true, true, true, true, true, true, false, false, false, false] rfl rfl (any_of HT_.out (by kernel_rfl)) (fun _ _ _ h => h) ?_
         refine pm_ 9 76 #[true, true, true, true, true, true, true, true, true, true, false, false, false] rfl rfl (take_ofW HT_.out HW_.out (by kernel_rfl)) (fun _ _ _ h => h) hHeld ?_
         refine pj_ 10 77 #[true, true, true, true, true, true, true, true, true, true, true, false, false] rfl rfl (any_of HT_.out (by kernel_rfl)) (fun _ _ _ h => h) ?_
         refine pj_ 11 78 #[true, true, true, true, true, true, true, true, true, true, true, true, false] rfl rfl (any_of HT_.out (by kernel_rfl)) (fun _ _ _ h => h) ?_
         refine last_ (i := 12) (N := none) #[true, true, true, true, true, true, true, true, true, true, true, true, true] rfl rfl (one_of HT_.out (by kernel_rfl)) (by decide) (fun K hK => ?_)
         refine skip_ (w1 := ?_) (by rfl) rfl ?_ ?_
         rotate_left
         · go_simp
           rfl
         refine hK.out _ _ ?_
         clear hK K
         refine done_ (done_of HT_.out (by kernel_rfl)) ?_
         have n0_ : Aside0 (Kd.V k35 35 (w82.setCell ⟨go31, (((rd_T32 ((rd_T35 t427 x8_2).f0) x9_3).f1.f2) : Int).toNat, none⟩ (.int .i64 (wrap64 ((rd x7_3 ((rd_T32 ((rd_T35 t427 x8_2).f0) x9_3).f1.f2)) + 1)))) w.heap.size (fun k_ => some k_ ≠ (.slice (some ⟨go31, 0, none⟩) x7_3.length co83 : Value).ownBlock ∧ k_ ≠ gb442) (.slice (some ad440) t427.length co7) t427) := ⟨by (with_reducible repeat (first | apply Kd.V_alloc | apply Kd.V_drewN | apply Kd.V_drew)); exact Kd.V_mono (Kd.V_far (p := ⟨go31, (((rd_T32 ((rd_T35 t427 x8_2).f0) x9_3).f1.f2) : Int).toNat, none⟩) (Kd.V_mono HO_3.out (fun k_ hk => (⟨hk, fun e_ => hk.1 (by rw [e_]; rfl)⟩ : _ ∧ k_ ≠ go31))) (fun _ hk => hk.2) (.int .i64 (wrap64 ((rd x7_3 ((rd_T32 ((rd_T35 t427 x8_2).f0) x9_3).f1.f2)) + 1)))) (fun _ hk => ⟨hk.1.1, hk.1.2⟩)⟩
         have n1_ : Aside0 (Kd.R (Kd.int .i64) 3 (w82.setCell ⟨go31, (((rd_T32 ((rd_T35 t427 x8_2).f0) x9_3).f1.f2) : Int).toNat, none⟩ (.int .i64 (wrap64 ((rd x7_3 ((rd_T32 ((rd_T35 t427 x8_2).f0) x9_3).f1.f2)) + 1)))) w.heap.size (fun _ => True) (.slice (some ⟨go31, 0, none⟩) x7_3.length co83) y444) := ⟨pr HQ84.out⟩
         have n2_ : Aside0 (Kd.V k32 32 (w82.setCell ⟨go31, (((rd_T32 ((rd_T35 t427 x8_2).f0) x9_3).f1.f2) : Int).toNat, none⟩ (.int .i64 (wrap64 ((rd x7_3 ((rd_T32 ((rd_T35 t427 x8_2).f0) x9_3).f1.f2)) + 1)))) w.heap.size (fun k_ => some k_ ≠ (.slice (some ⟨go31, 0, none⟩) x7_3.length co83 : Value).ownBlock ∧ k_ ≠ gb442) (.slice (some ad441) ((rd_T35 t427 x8_2).f0).length c440_0) ((rd_T35 t427 x8_2).f0)) := ⟨by (with_reducible repeat (first | apply Kd.V_alloc | apply Kd.V_drewN | apply Kd.V_drew)); exact Kd.V_mono (Kd.V_far (p := ⟨go31, (((rd_T32 ((rd_T35 t427 x8_2).f0) x9_3).f1.f2) : Int).toNat, none⟩) (Kd.V_mono HL440_0.out (fun k_ hk => (⟨hk, fun e_ => hk.1 (by rw [e_]; rfl)⟩ : _ ∧ k_ ≠ go31))) (fun _ hk => hk.2) (.int .i64 (wrap64 ((rd x7_3 ((rd_T32 ((rd_T35 t427 x8_2).f0) x9_3).f1.f2)) + 1)))) (fun _ hk => ⟨hk.1.1, hk.1.2⟩)⟩
         have n3_ : Aside0 ((w82.setCell ⟨go31, (((rd_T32 ((rd_T35 t427 x8_2).f0) x9_3).f1.f2) : Int).toNat, none⟩ (.int .i64 (wrap64 ((rd x7_3 ((rd_T32 ((rd_T35 t427 x8_2).f0) x9_3).f1.f2)) + 1)))).heap[gb442]? = some (.cells #[.int .i64 ((rd_T32 ((rd_T35 t427 x8_2).f0) x9_3).f0), .int .i64 ((rd_T32 ((rd_T35 t427 x8_2).f0) x9_3).f1.f0), .int .i64 ((rd_T32 ((rd_T35 t427 x8_2).f0) x9_3).f1.f1), .int .i64 ((rd_T32 ((rd_T35 t427 x8_2).f0) x9_3).f1.f2), .int .i64 ((rd_T32 ((rd_T35 t427 x8_2).f0) x9_3).f1.f3)] 32 (0, 0))) := ⟨by (with_reducible repeat (first | refine blk_drewN ?_ _ | refine blk_drew ?_ | refine blk_alloc ?_ _)); refine blk_far ?_ (by have h_ := Kd.R_ne HO_7.out BK442.out (by decide); intro e_; exact h_ (by rw [e_]; rfl)) _; (with_reducible repeat (first | refine blk_drewN ?_ _ | refine blk_drew ?_ | refine blk_alloc ?_ _)); exact BK442.out⟩
         have n4_ : Aside0 (Below w.heap.size w (w82.setCell ⟨go31, (((rd_T32 ((rd_T35 t427 x8_2).f0) x9_3).f1.f2) : Int).toNat, none⟩ (.int .i64 (wrap64 ((rd x7_3 ((rd_T32 ((rd_T35 t427 x8_2).f0) x9_3).f1.f2)) + 1))))) := ⟨by repeat (first | (with_reducible first | exact HB.out | apply below_alloc | apply pw_below_drewN | apply below_drew1 | refine below_set ?_ GB31.out | refine below_set ?_ GE442.out) | exact HB.out)⟩
         (try clear HO_3)
         (try clear HO_7)
         (try clear HL440_0)
         (try clear BK442)
         (try clear HB)
         generalize (w82.setCell ⟨go31, (((rd_T32 ((rd_T35 t427 x8_2).f0) x9_3).f1.f2) : Int).toNat, none⟩ (.int .i64 (wrap64 ((rd x7_3 ((rd_T32 ((rd_T35 t427 x8_2).f0) x9_3).f1.f2)) + 1)))) = w85 at n0_ n1_ n2_ n3_ n4_ ⊢
         have HO_3 := n0_
         have HO_7 := n1_
         have HL440_0 := n2_
         have BK442 := n3_
         have HB := n4_
         clear n0_ n1_ n2_ n3_ n4_
         have hcz86_0 : w85.cell? ⟨gb442, 0, none⟩ = some (.int .i64 ((rd_T32 ((rd_T35 t427 x8_2).f0) x9_3).f0)) := (blk_cell BK442.out 0).trans rfl
         have hcz86_1 : w85.cell? ⟨gb442, 1, none⟩ = some (.int .i64 ((rd_T32 ((rd_T35 t427 x8_2).f0) x9_3).f1.f0)) := (blk_cell BK442.out 1).trans rfl
         have hcz86_2 : w85.cell? ⟨gb442, 2, none⟩ = some (.int .i64 ((rd_T32 ((rd_T35 t427 x8_2).f0) x9_3).f1.f1)) := (blk_cell BK442.out 2).trans rfl
         have hcz86_3 : w85.cell? ⟨gb442, 3, none⟩ = some (.int .i64 ((rd_T32 ((rd_T35 t427 x8_2).f0) x9_3).f1.f2)) := (blk_cell BK442.out 3).trans rfl
         have hcz86_4 : w85.cell? ⟨gb442, 4, none⟩ = some (.int .i64 ((rd_T32 ((rd_T35 t427 x8_2).f0) x9_3).f1.f3)) := (blk_cell BK442.out 4).trans rfl
         obtain ⟨hfz86_0, hfz86_1, hfz86_2, hfz86_3, hfz86_4⟩ := f5 BK442.out
         try go_wp2_with (first | (refine gl 84 Try.func8 #[.slice (some ad440) t427.length co7, .int .i64 ((rd_T32 ((rd_T35 t427 x8_2).f0) x9_3).f1.f2)] rfl ?_; (with_reducible refine (impl_FindLast.calls _ _ t427 ((rd_T32 ((rd_T35 t427 x8_2).f0) x9_3).f1.f2) t445 t446 t447 t448 t449 _ ?side1 ?side2 A32.out).mono ?_); (case side1 => repeat (first | exact (Kd.V_reads' HO_3.out).2.2 | (with_reducible refine Kd.C_alloc ?_ _) | (with_reducible refine Kd.C_drewN ?_ _) | (with_reducible refine Kd.C_drew ?_))); (case side2 => exact (Kd.V_reads' HO_3.out).2.1); rintro e w87 ⟨rfl, hb⟩; refine ⟨_, rfl, ?_⟩; replace HO_3 := am (Kd.V_below (by (with_reducible repeat (first | apply Kd.V_alloc | apply Kd.V_drewN | apply Kd.V_drew)); exact HO_3.out) hb); replace HO_7 := am (Kd.R_below (pr HO_7.out) hb); replace HL440_0 := am (Kd.V_below (by (with_reducible repeat (first | apply Kd.V_alloc | apply Kd.V_drewN | apply Kd.V_drew)); exact HL440_0.out) hb); replace BK442 := am (blk_below (pb BK442.out) hb); replace HB := am (below_step (bg1 HB.out GE442.out) hb); (try clear hb); (try clear hb2); (try clear hk); (try clear hi)) | (refine bx 11 #[.int .i64 0, .int .i64 0, .int .i64 0, .int .i64 0] 30 rfl ?_; intro gb450 hg w88 hbox hb; replace HO_3 := am (Kd.V_below (Kd.V_elderB (by (with_reducible repeat (first | apply Kd.V_alloc | apply Kd.V_drewN | apply Kd.V_drew)); exact HO_3.out) gb450 (Nat.le_of_eq hg.symm)) hb); replace HO_7 := am (Kd.R_below (pr HO_7.out) hb); replace HL440_0 := am (Kd.V_below (Kd.V_elderB (by (with_reducible repeat (first | apply Kd.V_alloc | apply Kd.V_drewN | apply Kd.V_drew)); exact HL440_0.out) gb450 (Nat.le_of_eq hg.symm)) hb); have BK450 := am (hbox); have GW450 := am ((by rw [hg]; exact (below_size (bg1 HB.out GE442.out)) : w.heap.size ≤ gb450)); have GE450 := GW450; replace HB := am (below_step (bg1 HB.out GE442.out) hb); have NB442_450 := am ((by rw [hg]; exact Nat.ne_of_lt (blk_lt (pb BK442.out)) : gb442 ≠ gb450)); have NB450_442 := am (Ne.symm NB442_450.out); replace BK442 := am (blk_below (pb BK442.out) hb); clear hb hbox hg; have hnb89 := NB450_442.out; have hnc89 := NB442_450.out; obtain ⟨hcz90_0, hcz90_1, hcz90_2, hcz90_3⟩ := b4 BK450.out; obtain ⟨hfz90_0, hfz90_1, hfz90_2, hfz90_3⟩ := f4 BK450.out; have hcz91_0 : w88.cell? ⟨gb442, 0, none⟩ = some (.int .i64 ((rd_T32 ((rd_T35 t427 x8_2).f0) x9_3).f0)) := (blk_cell BK442.out 0).trans rfl; have hcz91_1 : w88.cell? ⟨gb442, 1, none⟩ = some (.int .i64 ((rd_T32 ((rd_T35 t427 x8_2).f0) x9_3).f1.f0)) := (blk_cell BK442.out 1).trans rfl; have hcz91_2 : w88.cell? ⟨gb442, 2, none⟩ = some (.int .i64 ((rd_T32 ((rd_T35 t427 x8_2).f0) x9_3).f1.f1)) := (blk_cell BK442.out 2).trans rfl; have hcz91_3 : w88.cell? ⟨gb442, 3, none⟩ = some (.int .i64 ((rd_T32 ((rd_T35 t427 x8_2).f0) x9_3).f1.f2)) := (blk_cell BK442.out 3).trans rfl; have hcz91_4 : w88.cell? ⟨gb442, 4, none⟩ = some (.int .i64 ((rd_T32 ((rd_T35 t427 x8_2).f0) x9_3).f1.f3)) := (blk_cell BK442.out 4).trans rfl; obtain ⟨hfz91_0, hfz91_1, hfz91_2, hfz91_3, hfz91_4⟩ := f5 BK442.out))
         go_ret
         exact (rq (bg2 HB.out GE442.out GE450.out))
       rw [if_pos c33] at H
       have c33b0 : (((rd_T32 ((rd_T35 t427 x8_2).f0) x9_3).f0) == 1) = true := beq_iff_eq.mpr c33
       have c33b1 : (((rd_T32 ((rd_T35 t427 x8_2).f0) x9_3).f0) != 1) = false := bne_eq_false_iff_eq.mpr c33
       clear c33
       by_cases c34 : t449 = true
       rotate_left
       · replace c34 := Bool.eq_false_iff.mpr c34
         subst c34
         have H1 : (some false) = some r := by rw [if_neg (show ¬ (false = true) by decide)] at H; exact H
         clear H
         have H := H1
         clear H1
         obtain rfl := Option.some.inj H
         try go_wp2_with (first | (refine gl 58 Try.func5 #[.slice Ao7 t427.length co7, .int .i64 x8_2, .int .i64 x9_3] rfl ?_; (with_reducible refine (impl_FindLive.calls k3 _ _ t427 x8_2 x9_3 true _ ?side1 ?side2 A23.out).mono ?_); (case side1 => repeat (first | exact (Kd.V_reads' HO_3.out).2.2 | (with_reducible refine Kd.C_alloc ?_ _) | (with_reducible refine Kd.C_drewN ?_ _) | (with_reducible refine Kd.C_drew ?_))); (case side2 => exact (Kd.V_reads' HO_3.out).2.1); rintro e w64 ⟨rfl, hb⟩; refine ⟨_, rfl, ?_⟩; replace HO_3 := am (Kd.V_below (by (with_reducible repeat (first | apply Kd.V_alloc | apply Kd.V_drewN | apply Kd.V_drew)); exact HO_3.out) hb); replace HO_7 := am (Kd.R_below (pr HO_7.out) hb); replace HB := am (below_step (ph HB.out) hb); (try clear hb); (try clear hb2); (try clear hk); (try clear hi); have p440 : 0 ≤ (x8_2 : Int) := ofb; have q440 : x8_2 < (t427.length : Int) := ofb; obtain ⟨ad440, A440_0, c440_0, e440, hx440_0, hx440_1, hl440_0, hi440_0⟩ := at_T35 (Kd.V_reads' HO_3.out).2.2 x8_2 p440 q440; cases e440; obtain ⟨ce440, hce440, hMe440, hcc440⟩ := Kd.V_get HO_3.out z35 x8_2 p440 (by first | exact q440 | exact ofb | (have e_ := (Kd.V_reads' HO_3.out).1; omega)); obtain ⟨ua440_0, uc440_0, rfl, ul440_0, ge440_0⟩ := k35_openF hMe440; have hv440_0 := hcc440 0 _ rfl; rw [Nat.add_zero] at hv440_0; replace hv440_0 := Option.some.inj (hv440_0.symm.trans hx440_0); injection hv440_0 with hva_ hvn_ hvc_; rw [hva_] at ge440_0; rw [hvc_] at ul440_0; have HL440_0 := am (show Kd.V k32 32 _ w.heap.size _ _ ((rd_T35 t427 x8_2).f0) from Kd.V_mk ul440_0 ge440_0); clear hva_ hvn_ hvc_ ge440_0 ul440_0; clear hcc440 hce440; have HR440_0 := am hi440_0; have HC440_0 := am hl440_0; clear hi440_0 hl440_0; replace p440 := eq_true p440; replace q440 := eq_true q440; have p441 : 0 ≤ (x9_3 : Int) := ofb; have q441 : x9_3 < (((rd_T35 t427 x8_2).f0).length : Int) := ofb; obtain ⟨ad441, e441, hx441_0, hx441_1, hx441_2, hx441_3, hx441_4⟩ := at_T32 (by repeat (first | (with_reducible exact HR440_0.out) | (with_reducible refine Kd.C_alloc ?_ _) | (with_reducible refine Kd.C_drewN ?_ _) | (with_reducible refine Kd.C_drew ?_) | exact HR440_0.out)) x9_3 p441 q441; cases e441; replace p441 := eq_true p441; replace q441 := eq_true q441) | (refine bx 10 #[.int .i64 0, .int .i64 0, .int .i64 0, .int .i64 0, .int .i64 0] 32 rfl ?_; intro gb442 hg w65 hbox hb; replace HO_3 := am (Kd.V_below (Kd.V_elderB (by (with_reducible repeat (first | apply Kd.V_alloc | apply Kd.V_drewN | apply Kd.V_drew)); exact HO_3.out) gb442 (Nat.le_of_eq hg.symm)) hb); replace HO_7 := am (Kd.R_below (pr HO_7.out) hb); replace HL440_0 := am (Kd.V_below (Kd.V_elderB (by (with_reducible repeat (first | apply Kd.V_alloc | apply Kd.V_drewN | apply Kd.V_drew)); exact HL440_0.out) gb442 (Nat.le_of_eq hg.symm)) hb); replace HR440_0 := am (Kd.C_below (by repeat (first | (with_reducible exact HR440_0.out) | (with_reducible refine Kd.C_alloc ?_ _) | (with_reducible refine Kd.C_drewN ?_ _) | (with_reducible refine Kd.C_drew ?_) | exact HR440_0.out)) hb); have BK442 := am (hbox); have GW442 := am ((by rw [hg]; exact (below_size (ph HB.out)) : w.heap.size ≤ gb442)); have GE442 := GW442; replace HB := am (below_step (ph HB.out) hb); clear hb hbox hg; obtain ⟨hcz66_0, hcz66_1, hcz66_2, hcz66_3, hcz66_4⟩ := b5 BK442.out; obtain ⟨hfz66_0, hfz66_1, hfz66_2, hfz66_3, hfz66_4⟩ := f5 BK442.out))
         have n0_ : Aside0 (Kd.V k35 35 (((((w65.setCell ⟨gb442, 0, none⟩ (.int .i64 ((rd_T32 ((rd_T35 t427 x8_2).f0) x9_3).f0))).setCell ⟨gb442, 1, none⟩ (.int .i64 ((rd_T32 ((rd_T35 t427 x8_2).f0) x9_3).f1.f0))).setCell ⟨gb442, 2, none⟩ (.int .i64 ((rd_T32 ((rd_T35 t427 x8_2).f0) x9_3).f1.f1))).setCell ⟨gb442, 3, none⟩ (.int .i64 ((rd_T32 ((rd_T35 t427 x8_2).f0) x9_3).f1.f2))).setCell ⟨gb442, 4, none⟩ (.int .i64 ((rd_T32 ((rd_T35 t427 x8_2).f0) x9_3).f1.f3))) w.heap.size (fun k_ => some k_ ≠ (v437 : Value).ownBlock ∧ k_ ≠ gb442) (.slice (some ad440) t427.length co7) t427) := ⟨by (with_reducible repeat (first | apply Kd.V_alloc | apply Kd.V_drewN | apply Kd.V_drew)); exact Kd.V_mono (Kd.V_far (p := ⟨gb442, 4, none⟩) (Kd.V_far (p := ⟨gb442, 3, none⟩) (Kd.V_far (p := ⟨gb442, 2, none⟩) (Kd.V_far (p := ⟨gb442, 1, none⟩) (Kd.V_far (p := ⟨gb442, 0, none⟩) (Kd.V_mono HO_3.out (fun k_ hk => (⟨hk, hk.2⟩ : _ ∧ k_ ≠ gb442))) (fun _ hk => hk.2) (.int .i64 ((rd_T32 ((rd_T35 t427 x8_2).f0) x9_3).f0))) (fun _ hk => hk.2) (.int .i64 ((rd_T32 ((rd_T35 t427 x8_2).f0) x9_3).f1.f0))) (fun _ hk => hk.2) (.int .i64 ((rd_T32 ((rd_T35 t427 x8_2).f0) x9_3).f1.f1))) (fun _ hk => hk.2) (.int .i64 ((rd_T32 ((rd_T35 t427 x8_2).f0) x9_3).f1.f2))) (fun _ hk => hk.2) (.int .i64 ((rd_T32 ((rd_T35 t427 x8_2).f0) x9_3).f1.f3))) (fun _ hk => ⟨hk.1.1, hk.1.2⟩)⟩
         have n1_ : Aside0 (Kd.R (Kd.int .i64) 3 (((((w65.setCell ⟨gb442, 0, none⟩ (.int .i64 ((rd_T32 ((rd_T35 t427 x8_2).f0) x9_3).f0))).setCell ⟨gb442, 1, none⟩ (.int .i64 ((rd_T32 ((rd_T35 t427 x8_2).f0) x9_3).f1.f0))).setCell ⟨gb442, 2, none⟩ (.int .i64 ((rd_T32 ((rd_T35 t427 x8_2).f0) x9_3).f1.f1))).setCell ⟨gb442, 3, none⟩ (.int .i64 ((rd_T32 ((rd_T35 t427 x8_2).f0) x9_3).f1.f2))).setCell ⟨gb442, 4, none⟩ (.int .i64 ((rd_T32 ((rd_T35 t427 x8_2).f0) x9_3).f1.f3))) w.heap.size (fun _ => True) v437 x7_3) := ⟨by (with_reducible repeat (first | apply Kd.R_alloc | apply Kd.R_drewN | apply Kd.R_drew)); exact Kd.R_mono (Kd.R_far (p := ⟨gb442, 4, none⟩) (Kd.R_far (p := ⟨gb442, 3, none⟩) (Kd.R_far (p := ⟨gb442, 2, none⟩) (Kd.R_far (p := ⟨gb442, 1, none⟩) (Kd.R_far (p := ⟨gb442, 0, none⟩) (Kd.R_types HO_7.out BK442.out (by decide)) (fun _ hk => hk.2) (.int .i64 ((rd_T32 ((rd_T35 t427 x8_2).f0) x9_3).f0))) (fun _ hk => hk.2) (.int .i64 ((rd_T32 ((rd_T35 t427 x8_2).f0) x9_3).f1.f0))) (fun _ hk => hk.2) (.int .i64 ((rd_T32 ((rd_T35 t427 x8_2).f0) x9_3).f1.f1))) (fun _ hk => hk.2) (.int .i64 ((rd_T32 ((rd_T35 t427 x8_2).f0) x9_3).f1.f2))) (fun _ hk => hk.2) (.int .i64 ((rd_T32 ((rd_T35 t427 x8_2).f0) x9_3).f1.f3))) (fun _ hk => trivial)⟩
         have n2_ : Aside0 (Kd.V k32 32 (((((w65.setCell ⟨gb442, 0, none⟩ (.int .i64 ((rd_T32 ((rd_T35 t427 x8_2).f0) x9_3).f0))).setCell ⟨gb442, 1, none⟩ (.int .i64 ((rd_T32 ((rd_T35 t427 x8_2).f0) x9_3).f1.f0))).setCell ⟨gb442, 2, none⟩ (.int .i64 ((rd_T32 ((rd_T35 t427 x8_2).f0) x9_3).f1.f1))).setCell ⟨gb442, 3, none⟩ (.int .i64 ((rd_T32 ((rd_T35 t427 x8_2).f0) x9_3).f1.f2))).setCell ⟨gb442, 4, none⟩ (.int .i64 ((rd_T32 ((rd_T35 t427 x8_2).f0) x9_3).f1.f3))) w.heap.size (fun k_ => some k_ ≠ (v437 : Value).ownBlock ∧ k_ ≠ gb442) (.slice (some ad441) ((rd_T35 t427 x8_2).f0).length c440_0) ((rd_T35 t427 x8_2).f0)) := ⟨by (with_reducible repeat (first | apply Kd.V_alloc | apply Kd.V_drewN | apply Kd.V_drew)); exact Kd.V_mono (Kd.V_far (p := ⟨gb442, 4, none⟩) (Kd.V_far (p := ⟨gb442, 3, none⟩) (Kd.V_far (p := ⟨gb442, 2, none⟩) (Kd.V_far (p := ⟨gb442, 1, none⟩) (Kd.V_far (p := ⟨gb442, 0, none⟩) (Kd.V_mono HL440_0.out (fun k_ hk => (⟨hk, hk.2⟩ : _ ∧ k_ ≠ gb442))) (fun _ hk => hk.2) (.int .i64 ((rd_T32 ((rd_T35 t427 x8_2).f0) x9_3).f0))) (fun _ hk => hk.2) (.int .i64 ((rd_T32 ((rd_T35 t427 x8_2).f0) x9_3).f1.f0))) (fun _ hk => hk.2) (.int .i64 ((rd_T32 ((rd_T35 t427 x8_2).f0) x9_3).f1.f1))) (fun _ hk => hk.2) (.int .i64 ((rd_T32 ((rd_T35 t427 x8_2).f0) x9_3).f1.f2))) (fun _ hk => hk.2) (.int .i64 ((rd_T32 ((rd_T35 t427 x8_2).f0) x9_3).f1.f3))) (fun _ hk => ⟨hk.1.1, hk.1.2⟩)⟩
         have n3_ : Aside0 ((((((w65.setCell ⟨gb442, 0, none⟩ (.int .i64 ((rd_T32 ((rd_T35 t427 x8_2).f0) x9_3).f0))).setCell ⟨gb442, 1, none⟩ (.int .i64 ((rd_T32 ((rd_T35 t427 x8_2).f0) x9_3).f1.f0))).setCell ⟨gb442, 2, none⟩ (.int .i64 ((rd_T32 ((rd_T35 t427 x8_2).f0) x9_3).f1.f1))).setCell ⟨gb442, 3, none⟩ (.int .i64 ((rd_T32 ((rd_T35 t427 x8_2).f0) x9_3).f1.f2))).setCell ⟨gb442, 4, none⟩ (.int .i64 ((rd_T32 ((rd_T35 t427 x8_2).f0) x9_3).f1.f3))).heap[gb442]? = some (.cells #[.int .i64 ((rd_T32 ((rd_T35 t427 x8_2).f0) x9_3).f0), .int .i64 ((rd_T32 ((rd_T35 t427 x8_2).f0) x9_3).f1.f0), .int .i64 ((rd_T32 ((rd_T35 t427 x8_2).f0) x9_3).f1.f1), .int .i64 ((rd_T32 ((rd_T35 t427 x8_2).f0) x9_3).f1.f2), .int .i64 ((rd_T32 ((rd_T35 t427 x8_2).f0) x9_3).f1.f3)] 32 (0, 0))) := ⟨by (with_reducible repeat (first | refine blk_drewN ?_ _ | refine blk_drew ?_ | refine blk_alloc ?_ _)); refine blk_put (cs := #[.int .i64 ((rd_T32 ((rd_T35 t427 x8_2).f0) x9_3).f0), .int .i64 ((rd_T32 ((rd_T35 t427 x8_2).f0) x9_3).f1.f0), .int .i64 ((rd_T32 ((rd_T35 t427 x8_2).f0) x9_3).f1.f1), .int .i64 ((rd_T32 ((rd_T35 t427 x8_2).f0) x9_3).f1.f2), .int .i64 0]) ?_ 4 _ rfl; (with_reducible repeat (first | refine blk_drewN ?_ _ | refine blk_drew ?_ | refine blk_alloc ?_ _)); refine blk_put (cs := #[.int .i64 ((rd_T32 ((rd_T35 t427 x8_2).f0) x9_3).f0), .int .i64 ((rd_T32 ((rd_T35 t427 x8_2).f0) x9_3).f1.f0), .int .i64 ((rd_T32 ((rd_T35 t427 x8_2).f0) x9_3).f1.f1), .int .i64 0, .int .i64 0]) ?_ 3 _ rfl; (with_reducible repeat (first | refine blk_drewN ?_ _ | refine blk_drew ?_ | refine blk_alloc ?_ _)); refine blk_put (cs := #[.int .i64 ((rd_T32 ((rd_T35 t427 x8_2).f0) x9_3).f0), .int .i64 ((rd_T32 ((rd_T35 t427 x8_2).f0) x9_3).f1.f0), .int .i64 0, .int .i64 0, .int .i64 0]) ?_ 2 _ rfl; (with_reducible repeat (first | refine blk_drewN ?_ _ | refine blk_drew ?_ | refine blk_alloc ?_ _)); refine blk_put (cs := #[.int .i64 ((rd_T32 ((rd_T35 t427 x8_2).f0) x9_3).f0), .int .i64 0, .int .i64 0, .int .i64 0, .int .i64 0]) ?_ 1 _ rfl; (with_reducible repeat (first | refine blk_drewN ?_ _ | refine blk_drew ?_ | refine blk_alloc ?_ _)); refine blk_put (cs := #[.int .i64 0, .int .i64 0, .int .i64 0, .int .i64 0, .int .i64 0]) ?_ 0 _ rfl; (with_reducible repeat (first | refine blk_drewN ?_ _ | refine blk_drew ?_ | refine blk_alloc ?_ _)); exact BK442.out⟩
         have n4_ : Aside0 (Below w.heap.size w (((((w65.setCell ⟨gb442, 0, none⟩ (.int .i64 ((rd_T32 ((rd_T35 t427 x8_2).f0) x9_3).f0))).setCell ⟨gb442, 1, none⟩ (.int .i64 ((rd_T32 ((rd_T35 t427 x8_2).f0) x9_3).f1.f0))).setCell ⟨gb442, 2, none⟩ (.int .i64 ((rd_T32 ((rd_T35 t427 x8_2).f0) x9_3).f1.f1))).setCell ⟨gb442, 3, none⟩ (.int .i64 ((rd_T32 ((rd_T35 t427 x8_2).f0) x9_3).f1.f2))).setCell ⟨gb442, 4, none⟩ (.int .i64 ((rd_T32 ((rd_T35 t427 x8_2).f0) x9_3).f1.f3)))) := ⟨bg1 HB.out GE442.out⟩
         (try clear HO_3)
         (try clear HO_7)
         (try clear HL440_0)
         (try clear BK442)
         (try clear HB)
         generalize (((((w65.setCell ⟨gb442, 0, none⟩ (.int .i64 ((rd_T32 ((rd_T35 t427 x8_2).f0) x9_3).f0))).setCell ⟨gb442, 1, none⟩ (.int .i64 ((rd_T32 ((rd_T35 t427 x8_2).f0) x9_3).f1.f0))).setCell ⟨gb442, 2, none⟩ (.int .i64 ((rd_T32 ((rd_T35 t427 x8_2).f0) x9_3).f1.f1))).setCell ⟨gb442, 3, none⟩ (.int .i64 ((rd_T32 ((rd_T35 t427 x8_2).f0) x9_3).f1.f2))).setCell ⟨gb442, 4, none⟩ (.int .i64 ((rd_T32 ((rd_T35 t427 x8_2).f0) x9_3).f1.f3))) = w67 at n0_ n1_ n2_ n3_ n4_ ⊢
         have HO_3 := n0_
         have HO_7 := n1_
         have HL440_0 := n2_
         have BK442 := n3_
         have HB := n4_
         clear n0_ n1_ n2_ n3_ n4_
         replace HO_3 := am (Kd.V_drew HO_3.out)
         replace HO_7 := am (Kd.R_drew HO_7.out)
         replace HL440_0 := am (Kd.V_drew HL440_0.out)
         replace BK442 := am (blk_drew BK442.out)
         replace HB := am (below_drew1 HB.out)
         obtain ⟨Ao69, co69, eo69⟩ := Kd.R_slice HO_7.out
         (first | subst eo69 | (injection eo69 with f1_ f2_ f3_; have f4_ := f1_.symm; have f5_ := f3_.symm; clear f1_ f2_ f3_; subst f4_; subst f5_))
         have p443 : 0 ≤ (((rd_T32 ((rd_T35 t427 x8_2).f0) x9_3).f1.f2) : Int) := ofb
         have q443 : ((rd_T32 ((rd_T35 t427 x8_2).f0) x9_3).f1.f2) < (x7_3.length : Int) := ofb
         obtain ⟨ad443, e443, hx443_0⟩ := Kd.at_int (Kd.R_reads' HO_7.out).2.2 ((rd_T32 ((rd_T35 t427 x8_2).f0) x9_3).f1.f2) p443 q443
         cases e443
         replace p443 := eq_true p443
         replace q443 := eq_true q443
         have p31 : 0 ≤ (((rd_T32 ((rd_T35 t427 x8_2).f0) x9_3).f1.f2) : Int) := ofb
         have q31 : (((rd_T32 ((rd_T35 t427 x8_2).f0) x9_3).f1.f2) : Int) < ((x7_3.length : Int) : Int) := ofb
         obtain ⟨go31, co31, eo31, gb31, gl31, cl31, HG31⟩ := Kd.R_form HO_7.out (by omega)
         (first | cases eo31 | (injection eo31 with ea_ en_ ec_; (first | subst ea_ | (injection ea_ with ea_; subst ea_)); subst ec_; clear en_))
         have GB31 := am gb31
         have GG31 := am HG31
         clear gb31 gl31 HG31
         (first | simp only [add_plain] at hx443_0 | skip)
         obtain ⟨hx31_0, hf31_0⟩ := Kd.R_celln 0 HO_7.out (((rd_T32 ((rd_T35 t427 x8_2).f0) x9_3).f1.f2) : Int) p31 q31
         replace p31 := eq_true p31
         replace q31 := eq_true q31
         have HP70 := Kd.R_putn HO_7.out (((rd_T32 ((rd_T35 t427 x8_2).f0) x9_3).f1.f2) : Int) (wrap64 ((rd x7_3 ((rd_T32 ((rd_T35 t427 x8_2).f0) x9_3).f1.f2)) + 1))
         rw [← Ny444.out] at HP70
         have HQ70 := am HP70
         clear HP70
         refine start_ (n := 13) (S := fun w' => w'.cell? ⟨gb442, 0, none⟩ = some (.int .i64 ((rd_T32 ((rd_T35 t427 x8_2).f0) x9_3).f0)) ∧ w'.cell? ⟨gb442, 1, none⟩ = some (.int .i64 ((rd_T32 ((rd_T35 t427 x8_2).f0) x9_3).f1.f0)) ∧ w'.cell? ⟨gb442, 2, none⟩ = some (.int .i64 ((rd_T32 ((rd_T35 t427 x8_2).f0) x9_3).f1.f1)) ∧ w'.cell? ⟨gb442, 3, none⟩ = some (.int .i64 ((rd_T32 ((rd_T35 t427 x8_2).f0) x9_3).f1.f2)) ∧ w'.cell? ⟨gb442, 4, none⟩ = some (.int .i64 ((rd_T32 ((rd_T35 t427 x8_2).f0) x9_3).f1.f3)) ∧ w'.cell? ⟨go31, (((rd_T32 ((rd_T35 t427 x8_2).f0) x9_3).f1.f2)).toNat, none⟩ = some (.int .i64 (rd x7_3 ((rd_T32 ((rd_T35 t427 x8_2).f0) x9_3).f1.f2)))) (ds := [12]) #[false, false, false, false, false, false, false, false, false, false, false, false, false] (by kernel_rfl) rfl rfl ⟨(blk_cell BK442.out 0).trans rfl, (blk_cell BK442.out 1).trans rfl, (blk_cell BK442.out 2).trans rfl, (blk_cell BK442.out 3).trans rfl, (blk_cell BK442.out 4).trans rfl, hx443_0⟩ (fun hHeld => ?_); refine with_tabW laws_FnLive.tab16 laws_FnLive.bits16 (fun HT_ HW_ => ?_)
         generalize w67.drew = w68 at HO_3 HO_7 HL440_0 BK442 HB GG31 HQ70 hf31_0 hx31_0 hx443_0 hHeld ⊢
         refine pj_ 0 67 #[true, false, false, false, false, false, false, false, false, false, false, false, false] rfl rfl (any_of HT_.out (by kernel_rfl)) (fun _ _ _ h => h) ?_
         refine pj_ 1 68 #[true, true, false, false, false, false, false, false, false, false, false, false, false] rfl rfl (any_of HT_.out (by kernel_rfl)) (fun _ _ _ h => h) ?_
         refine pj_ 2 69 #[true, true, true, false, false, false, false, false, false, false, false, false, false] rfl rfl (any_of HT_.out (by kernel_rfl)) (fun _ _ _ h => h) ?_
         refine pj_ 4 71 #[true, true, true, false, true, false, false, false, false, false, false, false, false] rfl rfl (any_of HT_.out (by kernel_rfl)) (fun _ _ _ h => h) ?_
         refine pj_ 5 72 #[true, true, true, false, true, true, false, false, false, false, false, false, false] rfl rfl (any_of HT_.out (by kernel_rfl)) (fun _ _ _ h => h) ?_
         refine pj_ 6 73 #[true, true, true, false, true, true, true, false, false, false, false, false, false] rfl rfl (any_of HT_.out (by kernel_rfl)) (fun _ _ _ h => h) ?_
         refine pm_ 3 70 #[true, true, true, true, true, true, true, false, false, false, false, false, false] rfl rfl (take_ofW HT_.out HW_.out (by kernel_rfl)) (fun _ _ _ h => h) hHeld ?_
         refine pm_ 7 74 #[true, true, true, true, true, true, true, true, false, false, false, false, false] rfl rfl (take_ofW HT_.out HW_.out (by kernel_rfl)) (fun _ _ _ h => h) hHeld ?_
         refine pj_ 8 75 #[true, true, true, true, true, true, true, true, true, false, false, false, false] rfl rfl (any_of HT_.out (by kernel_rfl)) (fun _ _ _ h => h) ?_
         refine pm_ 9 76 #[true, true, true, true, true, true, true, true, true, true, false, false, false] rfl rfl (take_ofW HT_.out HW_.out (by kernel_rfl)) (fun _ _ _ h => h) hHeld ?_
         refine pj_ 10 77 #[true, true, true, true, true, true, true, true, true, true, true, false, false] rfl rfl (any_of HT_.out (by kernel_rfl)) (fun _ _ _ h => h) ?_
         refine pj_ 11 78 #[true, true, true, true, true, true, true, true, true, true, true, true, false] rfl rfl (any_of HT_.out (by kernel_rfl)) (fun _ _ _ h => h) ?_
         refine last_ (i := 12) (N := none) #[true, true, true, true, true, true, true, true, true, true, true, true, true] rfl rfl (one_of HT_.out (by kernel_rfl)) (by decide) (fun K hK => ?_)
         refine skip_ (w1 := ?_) (by rfl) rfl ?_ ?_
         rotate_left
         · go_simp
           rfl
         refine hK.out _ _ ?_
         clear hK K
         refine done_ (done_of HT_.out (by kernel_rfl)) ?_
         have n0_ : Aside0 (Kd.V k35 35 (w68.setCell ⟨go31, (((rd_T32 ((rd_T35 t427 x8_2).f0) x9_3).f1.f2) : Int).toNat, none⟩ (.int .i64 (wrap64 ((rd x7_3 ((rd_T32 ((rd_T35 t427 x8_2).f0) x9_3).f1.f2)) + 1)))) w.heap.size (fun k_ => some k_ ≠ (.slice (some ⟨go31, 0, none⟩) x7_3.length co69 : Value).ownBlock ∧ k_ ≠ gb442) (.slice (some ad440) t427.length co7) t427) := ⟨by (with_reducible repeat (first | apply Kd.V_alloc | apply Kd.V_drewN | apply Kd.V_drew)); exact Kd.V_mono (Kd.V_far (p := ⟨go31, (((rd_T32 ((rd_T35 t427 x8_2).f0) x9_3).f1.f2) : Int).toNat, none⟩) (Kd.V_mono HO_3.out (fun k_ hk => (⟨hk, fun e_ => hk.1 (by rw [e_]; rfl)⟩ : _ ∧ k_ ≠ go31))) (fun _ hk => hk.2) (.int .i64 (wrap64 ((rd x7_3 ((rd_T32 ((rd_T35 t427 x8_2).f0) x9_3).f1.f2)) + 1)))) (fun _ hk => ⟨hk.1.1, hk.1.2⟩)⟩
         have n1_ : Aside0 (Kd.R (Kd.int .i64) 3 (w68.setCell ⟨go31, (((rd_T32 ((rd_T35 t427 x8_2).f0) x9_3).f1.f2) : Int).toNat, none⟩ (.int .i64 (wrap64 ((rd x7_3 ((rd_T32 ((rd_T35 t427 x8_2).f0) x9_3).f1.f2)) + 1)))) w.heap.size (fun _ => True) (.slice (some ⟨go31, 0, none⟩) x7_3.length co69) y444) := ⟨pr HQ70.out⟩
         have n2_ : Aside0 (Kd.V k32 32 (w68.setCell ⟨go31, (((rd_T32 ((rd_T35 t427 x8_2).f0) x9_3).f1.f2) : Int).toNat, none⟩ (.int .i64 (wrap64 ((rd x7_3 ((rd_T32 ((rd_T35 t427 x8_2).f0) x9_3).f1.f2)) + 1)))) w.heap.size (fun k_ => some k_ ≠ (.slice (some ⟨go31, 0, none⟩) x7_3.length co69 : Value).ownBlock ∧ k_ ≠ gb442) (.slice (some ad441) ((rd_T35 t427 x8_2).f0).length c440_0) ((rd_T35 t427 x8_2).f0)) := ⟨by (with_reducible repeat (first | apply Kd.V_alloc | apply Kd.V_drewN | apply Kd.V_drew)); exact Kd.V_mono (Kd.V_far (p := ⟨go31, (((rd_T32 ((rd_T35 t427 x8_2).f0) x9_3).f1.f2) : Int).toNat, none⟩) (Kd.V_mono HL440_0.out (fun k_ hk => (⟨hk, fun e_ => hk.1 (by rw [e_]; rfl)⟩ : _ ∧ k_ ≠ go31))) (fun _ hk => hk.2) (.int .i64 (wrap64 ((rd x7_3 ((rd_T32 ((rd_T35 t427 x8_2).f0) x9_3).f1.f2)) + 1)))) (fun _ hk => ⟨hk.1.1, hk.1.2⟩)⟩
         have n3_ : Aside0 ((w68.setCell ⟨go31, (((rd_T32 ((rd_T35 t427 x8_2).f0) x9_3).f1.f2) : Int).toNat, none⟩ (.int .i64 (wrap64 ((rd x7_3 ((rd_T32 ((rd_T35 t427 x8_2).f0) x9_3).f1.f2)) + 1)))).heap[gb442]? = some (.cells #[.int .i64 ((rd_T32 ((rd_T35 t427 x8_2).f0) x9_3).f0), .int .i64 ((rd_T32 ((rd_T35 t427 x8_2).f0) x9_3).f1.f0), .int .i64 ((rd_T32 ((rd_T35 t427 x8_2).f0) x9_3).f1.f1), .int .i64 ((rd_T32 ((rd_T35 t427 x8_2).f0) x9_3).f1.f2), .int .i64 ((rd_T32 ((rd_T35 t427 x8_2).f0) x9_3).f1.f3)] 32 (0, 0))) := ⟨by (with_reducible repeat (first | refine blk_drewN ?_ _ | refine blk_drew ?_ | refine blk_alloc ?_ _)); refine blk_far ?_ (by have h_ := Kd.R_ne HO_7.out BK442.out (by decide); intro e_; exact h_ (by rw [e_]; rfl)) _; (with_reducible repeat (first | refine blk_drewN ?_ _ | refine blk_drew ?_ | refine blk_alloc ?_ _)); exact BK442.out⟩
         have n4_ : Aside0 (Below w.heap.size w (w68.setCell ⟨go31, (((rd_T32 ((rd_T35 t427 x8_2).f0) x9_3).f1.f2) : Int).toNat, none⟩ (.int .i64 (wrap64 ((rd x7_3 ((rd_T32 ((rd_T35 t427 x8_2).f0) x9_3).f1.f2)) + 1))))) := ⟨by repeat (first | (with_reducible first | exact HB.out | apply below_alloc | apply pw_below_drewN | apply below_drew1 | refine below_set ?_ GB31.out | refine below_set ?_ GE442.out) | exact HB.out)⟩
         (try clear HO_3)
         (try clear HO_7)
         (try clear HL440_0)
         (try clear BK442)
         (try clear HB)
         generalize (w68.setCell ⟨go31, (((rd_T32 ((rd_T35 t427 x8_2).f0) x9_3).f1.f2) : Int).toNat, none⟩ (.int .i64 (wrap64 ((rd x7_3 ((rd_T32 ((rd_T35 t427 x8_2).f0) x9_3).f1.f2)) + 1)))) = w71 at n0_ n1_ n2_ n3_ n4_ ⊢
         have HO_3 := n0_
         have HO_7 := n1_
         have HL440_0 := n2_
         have BK442 := n3_
         have HB := n4_
         clear n0_ n1_ n2_ n3_ n4_
         have hcz72_0 : w71.cell? ⟨gb442, 0, none⟩ = some (.int .i64 ((rd_T32 ((rd_T35 t427 x8_2).f0) x9_3).f0)) := (blk_cell BK442.out 0).trans rfl
         have hcz72_1 : w71.cell? ⟨gb442, 1, none⟩ = some (.int .i64 ((rd_T32 ((rd_T35 t427 x8_2).f0) x9_3).f1.f0)) := (blk_cell BK442.out 1).trans rfl
         have hcz72_2 : w71.cell? ⟨gb442, 2, none⟩ = some (.int .i64 ((rd_T32 ((rd_T35 t427 x8_2).f0) x9_3).f1.f1)) := (blk_cell BK442.out 2).trans rfl
         have hcz72_3 : w71.cell? ⟨gb442, 3, none⟩ = some (.int .i64 ((rd_T32 ((rd_T35 t427 x8_2).f0) x9_3).f1.f2)) := (blk_cell BK442.out 3).trans rfl
         have hcz72_4 : w71.cell? ⟨gb442, 4, none⟩ = some (.int .i64 ((rd_T32 ((rd_T35 t427 x8_2).f0) x9_3).f1.f3)) := (blk_cell BK442.out 4).trans rfl
         obtain ⟨hfz72_0, hfz72_1, hfz72_2, hfz72_3, hfz72_4⟩ := f5 BK442.out
         try go_wp2_with (first | (refine gl 84 Try.func8 #[.slice (some ad440) t427.length co7, .int .i64 ((rd_T32 ((rd_T35 t427 x8_2).f0) x9_3).f1.f2)] rfl ?_; (with_reducible refine (impl_FindLast.calls _ _ t427 ((rd_T32 ((rd_T35 t427 x8_2).f0) x9_3).f1.f2) t445 t446 t447 t448 false _ ?side1 ?side2 A32.out).mono ?_); (case side1 => repeat (first | exact (Kd.V_reads' HO_3.out).2.2 | (with_reducible refine Kd.C_alloc ?_ _) | (with_reducible refine Kd.C_drewN ?_ _) | (with_reducible refine Kd.C_drew ?_))); (case side2 => exact (Kd.V_reads' HO_3.out).2.1); rintro e w73 ⟨rfl, hb⟩; refine ⟨_, rfl, ?_⟩; replace HO_3 := am (Kd.V_below (by (with_reducible repeat (first | apply Kd.V_alloc | apply Kd.V_drewN | apply Kd.V_drew)); exact HO_3.out) hb); replace HO_7 := am (Kd.R_below (pr HO_7.out) hb); replace HL440_0 := am (Kd.V_below (by (with_reducible repeat (first | apply Kd.V_alloc | apply Kd.V_drewN | apply Kd.V_drew)); exact HL440_0.out) hb); replace BK442 := am (blk_below (pb BK442.out) hb); replace HB := am (below_step (bg1 HB.out GE442.out) hb); (try clear hb); (try clear hb2); (try clear hk); (try clear hi)) | (refine bx 11 #[.int .i64 0, .int .i64 0, .int .i64 0, .int .i64 0] 30 rfl ?_; intro gb450 hg w74 hbox hb; replace HO_3 := am (Kd.V_below (Kd.V_elderB (by (with_reducible repeat (first | apply Kd.V_alloc | apply Kd.V_drewN | apply Kd.V_drew)); exact HO_3.out) gb450 (Nat.le_of_eq hg.symm)) hb); replace HO_7 := am (Kd.R_below (pr HO_7.out) hb); replace HL440_0 := am (Kd.V_below (Kd.V_elderB (by (with_reducible repeat (first | apply Kd.V_alloc | apply Kd.V_drewN | apply Kd.V_drew)); exact HL440_0.out) gb450 (Nat.le_of_eq hg.symm)) hb); have BK450 := am (hbox); have GW450 := am ((by rw [hg]; exact (below_size (bg1 HB.out GE442.out)) : w.heap.size ≤ gb450)); have GE450 := GW450; replace HB := am (below_step (bg1 HB.out GE442.out) hb); have NB442_450 := am ((by rw [hg]; exact Nat.ne_of_lt (blk_lt (pb BK442.out)) : gb442 ≠ gb450)); have NB450_442 := am (Ne.symm NB442_450.out); replace BK442 := am (blk_below (pb BK442.out) hb); clear hb hbox hg; have hnb75 := NB450_442.out; have hnc75 := NB442_450.out; obtain ⟨hcz76_0, hcz76_1, hcz76_2, hcz76_3⟩ := b4 BK450.out; obtain ⟨hfz76_0, hfz76_1, hfz76_2, hfz76_3⟩ := f4 BK450.out; have hcz77_0 : w74.cell? ⟨gb442, 0, none⟩ = some (.int .i64 ((rd_T32 ((rd_T35 t427 x8_2).f0) x9_3).f0)) := (blk_cell BK442.out 0).trans rfl; have hcz77_1 : w74.cell? ⟨gb442, 1, none⟩ = some (.int .i64 ((rd_T32 ((rd_T35 t427 x8_2).f0) x9_3).f1.f0)) := (blk_cell BK442.out 1).trans rfl; have hcz77_2 : w74.cell? ⟨gb442, 2, none⟩ = some (.int .i64 ((rd_T32 ((rd_T35 t427 x8_2).f0) x9_3).f1.f1)) := (blk_cell BK442.out 2).trans rfl; have hcz77_3 : w74.cell? ⟨gb442, 3, none⟩ = some (.int .i64 ((rd_T32 ((rd_T35 t427 x8_2).f0) x9_3).f1.f2)) := (blk_cell BK442.out 3).trans rfl; have hcz77_4 : w74.cell? ⟨gb442, 4, none⟩ = some (.int .i64 ((rd_T32 ((rd_T35 t427 x8_2).f0) x9_3).f1.f3)) := (blk_cell BK442.out 4).trans rfl; obtain ⟨hfz77_0, hfz77_1, hfz77_2, hfz77_3, hfz77_4⟩ := f5 BK442.out))
         go_ret
         exact (rq (bg2 HB.out GE442.out GE450.out))
       subst c34
       have H1 : (if (!(t445 == ((rd_T32 ((rd_T35 t427 x8_2).f0) x9_3).f1.f0)) || (!(t446 == ((rd_T32 ((rd_T35 t427 x8_2).f0) x9_3).f1.f1)) || (!(t447 == ((rd_T32 ((rd_T35 t427 x8_2).f0) x9_3).f1.f2)) || (!(t448 == ((rd_T32 ((rd_T35 t427 x8_2).f0) x9_3).f1.f3)))))) = true then (some false) else (laws_FnLive.l1 k3 t427 y444 x8_2 (wrap64 (x9_3 + 1)))) = some r := by rw [if_pos rfl] at H; exact H
       clear H
       have H := H1
       clear H1
       by_cases c35 : (!(t445 == ((rd_T32 ((rd_T35 t427 x8_2).f0) x9_3).f1.f0)) || (!(t446 == ((rd_T32 ((rd_T35 t427 x8_2).f0) x9_3).f1.f1)) || (!(t447 == ((rd_T32 ((rd_T35 t427 x8_2).f0) x9_3).f1.f2)) || (!(t448 == ((rd_T32 ((rd_T35 t427 x8_2).f0) x9_3).f1.f3)))))) = true
       · rw [if_pos c35] at H
         have c35b0 : (!(t445 == ((rd_T32 ((rd_T35 t427 x8_2).f0) x9_3).f1.f0)) || (!(t446 == ((rd_T32 ((rd_T35 t427 x8_2).f0) x9_3).f1.f1)) || (!(t447 == ((rd_T32 ((rd_T35 t427 x8_2).f0) x9_3).f1.f2)) || (!(t448 == ((rd_T32 ((rd_T35 t427 x8_2).f0) x9_3).f1.f3)))))) = true := c35
         clear c35
         obtain rfl := Option.some.inj H
         try go_wp2_with (first | (refine gl 58 Try.func5 #[.slice Ao7 t427.length co7, .int .i64 x8_2, .int .i64 x9_3] rfl ?_; (with_reducible refine (impl_FindLive.calls k3 _ _ t427 x8_2 x9_3 true _ ?side1 ?side2 A23.out).mono ?_); (case side1 => repeat (first | exact (Kd.V_reads' HO_3.out).2.2 | (with_reducible refine Kd.C_alloc ?_ _) | (with_reducible refine Kd.C_drewN ?_ _) | (with_reducible refine Kd.C_drew ?_))); (case side2 => exact (Kd.V_reads' HO_3.out).2.1); rintro e w36 ⟨rfl, hb⟩; refine ⟨_, rfl, ?_⟩; replace HO_3 := am (Kd.V_below (by (with_reducible repeat (first | apply Kd.V_alloc | apply Kd.V_drewN | apply Kd.V_drew)); exact HO_3.out) hb); replace HO_7 := am (Kd.R_below (pr HO_7.out) hb); replace HB := am (below_step (ph HB.out) hb); (try clear hb); (try clear hb2); (try clear hk); (try clear hi); have p440 : 0 ≤ (x8_2 : Int) := ofb; have q440 : x8_2 < (t427.length : Int) := ofb; obtain ⟨ad440, A440_0, c440_0, e440, hx440_0, hx440_1, hl440_0, hi440_0⟩ := at_T35 (Kd.V_reads' HO_3.out).2.2 x8_2 p440 q440; cases e440; obtain ⟨ce440, hce440, hMe440, hcc440⟩ := Kd.V_get HO_3.out z35 x8_2 p440 (by first | exact q440 | exact ofb | (have e_ := (Kd.V_reads' HO_3.out).1; omega)); obtain ⟨ua440_0, uc440_0, rfl, ul440_0, ge440_0⟩ := k35_openF hMe440; have hv440_0 := hcc440 0 _ rfl; rw [Nat.add_zero] at hv440_0; replace hv440_0 := Option.some.inj (hv440_0.symm.trans hx440_0); injection hv440_0 with hva_ hvn_ hvc_; rw [hva_] at ge440_0; rw [hvc_] at ul440_0; have HL440_0 := am (show Kd.V k32 32 _ w.heap.size _ _ ((rd_T35 t427 x8_2).f0) from Kd.V_mk ul440_0 ge440_0); clear hva_ hvn_ hvc_ ge440_0 ul440_0; clear hcc440 hce440; have HR440_0 := am hi440_0; have HC440_0 := am hl440_0; clear hi440_0 hl440_0; replace p440 := eq_true p440; replace q440 := eq_true q440; have p441 : 0 ≤ (x9_3 : Int) := ofb; have q441 : x9_3 < (((rd_T35 t427 x8_2).f0).length : Int) := ofb; obtain ⟨ad441, e441, hx441_0, hx441_1, hx441_2, hx441_3, hx441_4⟩ := at_T32 (by repeat (first | (with_reducible exact HR440_0.out) | (with_reducible refine Kd.C_alloc ?_ _) | (with_reducible refine Kd.C_drewN ?_ _) | (with_reducible refine Kd.C_drew ?_) | exact HR440_0.out)) x9_3 p441 q441; cases e441; replace p441 := eq_true p441; replace q441 := eq_true q441) | (refine bx 10 #[.int .i64 0, .int .i64 0, .int .i64 0, .int .i64 0, .int .i64 0] 32 rfl ?_; intro gb442 hg w37 hbox hb; replace HO_3 := am (Kd.V_below (Kd.V_elderB (by (with_reducible repeat (first | apply Kd.V_alloc | apply Kd.V_drewN | apply Kd.V_drew)); exact HO_3.out) gb442 (Nat.le_of_eq hg.symm)) hb); replace HO_7 := am (Kd.R_below (pr HO_7.out) hb); replace HL440_0 := am (Kd.V_below (Kd.V_elderB (by (with_reducible repeat (first | apply Kd.V_alloc | apply Kd.V_drewN | apply Kd.V_drew)); exact HL440_0.out) gb442 (Nat.le_of_eq hg.symm)) hb); replace HR440_0 := am (Kd.C_below (by repeat (first | (with_reducible exact HR440_0.out) | (with_reducible refine Kd.C_alloc ?_ _) | (with_reducible refine Kd.C_drewN ?_ _) | (with_reducible refine Kd.C_drew ?_) | exact HR440_0.out)) hb); have BK442 := am (hbox); have GW442 := am ((by rw [hg]; exact (below_size (ph HB.out)) : w.heap.size ≤ gb442)); have GE442 := GW442; replace HB := am (below_step (ph HB.out) hb); clear hb hbox hg; obtain ⟨hcz38_0, hcz38_1, hcz38_2, hcz38_3, hcz38_4⟩ := b5 BK442.out; obtain ⟨hfz38_0, hfz38_1, hfz38_2, hfz38_3, hfz38_4⟩ := f5 BK442.out))
         have n0_ : Aside0 (Kd.V k35 35 (((((w37.setCell ⟨gb442, 0, none⟩ (.int .i64 ((rd_T32 ((rd_T35 t427 x8_2).f0) x9_3).f0))).setCell ⟨gb442, 1, none⟩ (.int .i64 ((rd_T32 ((rd_T35 t427 x8_2).f0) x9_3).f1.f0))).setCell ⟨gb442, 2, none⟩ (.int .i64 ((rd_T32 ((rd_T35 t427 x8_2).f0) x9_3).f1.f1))).setCell ⟨gb442, 3, none⟩ (.int .i64 ((rd_T32 ((rd_T35 t427 x8_2).f0) x9_3).f1.f2))).setCell ⟨gb442, 4, none⟩ (.int .i64 ((rd_T32 ((rd_T35 t427 x8_2).f0) x9_3).f1.f3))) w.heap.size (fun k_ => some k_ ≠ (v437 : Value).ownBlock ∧ k_ ≠ gb442) (.slice (some ad440) t427.length co7) t427) := ⟨by (with_reducible repeat (first | apply Kd.V_alloc | apply Kd.V_drewN | apply Kd.V_drew)); exact Kd.V_mono (Kd.V_far (p := ⟨gb442, 4, none⟩) (Kd.V_far (p := ⟨gb442, 3, none⟩) (Kd.V_far (p := ⟨gb442, 2, none⟩) (Kd.V_far (p := ⟨gb442, 1, none⟩) (Kd.V_far (p := ⟨gb442, 0, none⟩) (Kd.V_mono HO_3.out (fun k_ hk => (⟨hk, hk.2⟩ : _ ∧ k_ ≠ gb442))) (fun _ hk => hk.2) (.int .i64 ((rd_T32 ((rd_T35 t427 x8_2).f0) x9_3).f0))) (fun _ hk => hk.2) (.int .i64 ((rd_T32 ((rd_T35 t427 x8_2).f0) x9_3).f1.f0))) (fun _ hk => hk.2) (.int .i64 ((rd_T32 ((rd_T35 t427 x8_2).f0) x9_3).f1.f1))) (fun _ hk => hk.2) (.int .i64 ((rd_T32 ((rd_T35 t427 x8_2).f0) x9_3).f1.f2))) (fun _ hk => hk.2) (.int .i64 ((rd_T32 ((rd_T35 t427 x8_2).f0) x9_3).f1.f3))) (fun _ hk => ⟨hk.1.1, hk.1.2⟩)⟩
         have n1_ : Aside0 (Kd.R (Kd.int .i64) 3 (((((w37.setCell ⟨gb442, 0, none⟩ (.int .i64 ((rd_T32 ((rd_T35 t427 x8_2).f0) x9_3).f0))).setCell ⟨gb442, 1, none⟩ (.int .i64 ((rd_T32 ((rd_T35 t427 x8_2).f0) x9_3).f1.f0))).setCell ⟨gb442, 2, none⟩ (.int .i64 ((rd_T32 ((rd_T35 t427 x8_2).f0) x9_3).f1.f1))).setCell ⟨gb442, 3, none⟩ (.int .i64 ((rd_T32 ((rd_T35 t427 x8_2).f0) x9_3).f1.f2))).setCell ⟨gb442, 4, none⟩ (.int .i64 ((rd_T32 ((rd_T35 t427 x8_2).f0) x9_3).f1.f3))) w.heap.size (fun _ => True) v437 x7_3) := ⟨by (with_reducible repeat (first | apply Kd.R_alloc | apply Kd.R_drewN | apply Kd.R_drew)); exact Kd.R_mono (Kd.R_far (p := ⟨gb442, 4, none⟩) (Kd.R_far (p := ⟨gb442, 3, none⟩) (Kd.R_far (p := ⟨gb442, 2, none⟩) (Kd.R_far (p := ⟨gb442, 1, none⟩) (Kd.R_far (p := ⟨gb442, 0, none⟩) (Kd.R_types HO_7.out BK442.out (by decide)) (fun _ hk => hk.2) (.int .i64 ((rd_T32 ((rd_T35 t427 x8_2).f0) x9_3).f0))) (fun _ hk => hk.2) (.int .i64 ((rd_T32 ((rd_T35 t427 x8_2).f0) x9_3).f1.f0))) (fun _ hk => hk.2) (.int .i64 ((rd_T32 ((rd_T35 t427 x8_2).f0) x9_3).f1.f1))) (fun _ hk => hk.2) (.int .i64 ((rd_T32 ((rd_T35 t427 x8_2).f0) x9_3).f1.f2))) (fun _ hk => hk.2) (.int .i64 ((rd_T32 ((rd_T35 t427 x8_2).f0) x9_3).f1.f3))) (fun _ hk => trivial)⟩
         have n2_ : Aside0 (Kd.V k32 32 (((((w37.setCell ⟨gb442, 0, none⟩ (.int .i64 ((rd_T32 ((rd_T35 t427 x8_2).f0) x9_3).f0))).setCell ⟨gb442, 1, none⟩ (.int .i64 ((rd_T32 ((rd_T35 t427 x8_2).f0) x9_3).f1.f0))).setCell ⟨gb442, 2, none⟩ (.int .i64 ((rd_T32 ((rd_T35 t427 x8_2).f0) x9_3).f1.f1))).setCell ⟨gb442, 3, none⟩ (.int .i64 ((rd_T32 ((rd_T35 t427 x8_2).f0) x9_3).f1.f2))).setCell ⟨gb442, 4, none⟩ (.int .i64 ((rd_T32 ((rd_T35 t427 x8_2).f0) x9_3).f1.f3))) w.heap.size (fun k_ => some k_ ≠ (v437 : Value).ownBlock ∧ k_ ≠ gb442) (.slice (some ad441) ((rd_T35 t427 x8_2).f0).length c440_0) ((rd_T35 t427 x8_2).f0)) := ⟨by (with_reducible repeat (first | apply Kd.V_alloc | apply Kd.V_drewN | apply Kd.V_drew)); exact Kd.V_mono (Kd.V_far (p := ⟨gb442, 4, none⟩) (Kd.V_far (p := ⟨gb442, 3, none⟩) (Kd.V_far (p := ⟨gb442, 2, none⟩) (Kd.V_far (p := ⟨gb442, 1, none⟩) (Kd.V_far (p := ⟨gb442, 0, none⟩) (Kd.V_mono HL440_0.out (fun k_ hk => (⟨hk, hk.2⟩ : _ ∧ k_ ≠ gb442))) (fun _ hk => hk.2) (.int .i64 ((rd_T32 ((rd_T35 t427 x8_2).f0) x9_3).f0))) (fun _ hk => hk.2) (.int .i64 ((rd_T32 ((rd_T35 t427 x8_2).f0) x9_3).f1.f0))) (fun _ hk => hk.2) (.int .i64 ((rd_T32 ((rd_T35 t427 x8_2).f0) x9_3).f1.f1))) (fun _ hk => hk.2) (.int .i64 ((rd_T32 ((rd_T35 t427 x8_2).f0) x9_3).f1.f2))) (fun _ hk => hk.2) (.int .i64 ((rd_T32 ((rd_T35 t427 x8_2).f0) x9_3).f1.f3))) (fun _ hk => ⟨hk.1.1, hk.1.2⟩)⟩
         have n3_ : Aside0 ((((((w37.setCell ⟨gb442, 0, none⟩ (.int .i64 ((rd_T32 ((rd_T35 t427 x8_2).f0) x9_3).f0))).setCell ⟨gb442, 1, none⟩ (.int .i64 ((rd_T32 ((rd_T35 t427 x8_2).f0) x9_3).f1.f0))).setCell ⟨gb442, 2, none⟩ (.int .i64 ((rd_T32 ((rd_T35 t427 x8_2).f0) x9_3).f1.f1))).setCell ⟨gb442, 3, none⟩ (.int .i64 ((rd_T32 ((rd_T35 t427 x8_2).f0) x9_3).f1.f2))).setCell ⟨gb442, 4, none⟩ (.int .i64 ((rd_T32 ((rd_T35 t427 x8_2).f0) x9_3).f1.f3))).heap[gb442]? = some (.cells #[.int .i64 ((rd_T32 ((rd_T35 t427 x8_2).f0) x9_3).f0), .int .i64 ((rd_T32 ((rd_T35 t427 x8_2).f0) x9_3).f1.f0), .int .i64 ((rd_T32 ((rd_T35 t427 x8_2).f0) x9_3).f1.f1), .int .i64 ((rd_T32 ((rd_T35 t427 x8_2).f0) x9_3).f1.f2), .int .i64 ((rd_T32 ((rd_T35 t427 x8_2).f0) x9_3).f1.f3)] 32 (0, 0))) := ⟨by (with_reducible repeat (first | refine blk_drewN ?_ _ | refine blk_drew ?_ | refine blk_alloc ?_ _)); refine blk_put (cs := #[.int .i64 ((rd_T32 ((rd_T35 t427 x8_2).f0) x9_3).f0), .int .i64 ((rd_T32 ((rd_T35 t427 x8_2).f0) x9_3).f1.f0), .int .i64 ((rd_T32 ((rd_T35 t427 x8_2).f0) x9_3).f1.f1), .int .i64 ((rd_T32 ((rd_T35 t427 x8_2).f0) x9_3).f1.f2), .int .i64 0]) ?_ 4 _ rfl; (with_reducible repeat (first | refine blk_drewN ?_ _ | refine blk_drew ?_ | refine blk_alloc ?_ _)); refine blk_put (cs := #[.int .i64 ((rd_T32 ((rd_T35 t427 x8_2).f0) x9_3).f0), .int .i64 ((rd_T32 ((rd_T35 t427 x8_2).f0) x9_3).f1.f0), .int .i64 ((rd_T32 ((rd_T35 t427 x8_2).f0) x9_3).f1.f1), .int .i64 0, .int .i64 0]) ?_ 3 _ rfl; (with_reducible repeat (first | refine blk_drewN ?_ _ | refine blk_drew ?_ | refine blk_alloc ?_ _)); refine blk_put (cs := #[.int .i64 ((rd_T32 ((rd_T35 t427 x8_2).f0) x9_3).f0), .int .i64 ((rd_T32 ((rd_T35 t427 x8_2).f0) x9_3).f1.f0), .int .i64 0, .int .i64 0, .int .i64 0]) ?_ 2 _ rfl; (with_reducible repeat (first | refine blk_drewN ?_ _ | refine blk_drew ?_ | refine blk_alloc ?_ _)); refine blk_put (cs := #[.int .i64 ((rd_T32 ((rd_T35 t427 x8_2).f0) x9_3).f0), .int .i64 0, .int .i64 0, .int .i64 0, .int .i64 0]) ?_ 1 _ rfl; (with_reducible repeat (first | refine blk_drewN ?_ _ | refine blk_drew ?_ | refine blk_alloc ?_ _)); refine blk_put (cs := #[.int .i64 0, .int .i64 0, .int .i64 0, .int .i64 0, .int .i64 0]) ?_ 0 _ rfl; (with_reducible repeat (first | refine blk_drewN ?_ _ | refine blk_drew ?_ | refine blk_alloc ?_ _)); exact BK442.out⟩
         have n4_ : Aside0 (Below w.heap.size w (((((w37.setCell ⟨gb442, 0, none⟩ (.int .i64 ((rd_T32 ((rd_T35 t427 x8_2).f0) x9_3).f0))).setCell ⟨gb442, 1, none⟩ (.int .i64 ((rd_T32 ((rd_T35 t427 x8_2).f0) x9_3).f1.f0))).setCell ⟨gb442, 2, none⟩ (.int .i64 ((rd_T32 ((rd_T35 t427 x8_2).f0) x9_3).f1.f1))).setCell ⟨gb442, 3, none⟩ (.int .i64 ((rd_T32 ((rd_T35 t427 x8_2).f0) x9_3).f1.f2))).setCell ⟨gb442, 4, none⟩ (.int .i64 ((rd_T32 ((rd_T35 t427 x8_2).f0) x9_3).f1.f3)))) := ⟨bg1 HB.out GE442.out⟩
         (try clear HO_3)
         (try clear HO_7)
         (try clear HL440_0)
         (try clear BK442)
         (try clear HB)
         generalize (((((w37.setCell ⟨gb442, 0, none⟩ (.int .i64 ((rd_T32 ((rd_T35 t427 x8_2).f0) x9_3).f0))).setCell ⟨gb442, 1, none⟩ (.int .i64 ((rd_T32 ((rd_T35 t427 x8_2).f0) x9_3).f1.f0))).setCell ⟨gb442, 2, none⟩ (.int .i64 ((rd_T32 ((rd_T35 t427 x8_2).f0) x9_3).f1.f1))).setCell ⟨gb442, 3, none⟩ (.int .i64 ((rd_T32 ((rd_T35 t427 x8_2).f0) x9_3).f1.f2))).setCell ⟨gb442, 4, none⟩ (.int .i64 ((rd_T32 ((rd_T35 t427 x8_2).f0) x9_3).f1.f3))) = w39 at n0_ n1_ n2_ n3_ n4_ ⊢
         have HO_3 := n0_
         have HO_7 := n1_
         have HL440_0 := n2_
         have BK442 := n3_
         have HB := n4_
         clear n0_ n1_ n2_ n3_ n4_
         replace HO_3 := am (Kd.V_drew HO_3.out)
         replace HO_7 := am (Kd.R_drew HO_7.out)
         replace HL440_0 := am (Kd.V_drew HL440_0.out)
         replace BK442 := am (blk_drew BK442.out)
         replace HB := am (below_drew1 HB.out)
         obtain ⟨Ao41, co41, eo41⟩ := Kd.R_slice HO_7.out
         (first | subst eo41 | (injection eo41 with f1_ f2_ f3_; have f4_ := f1_.symm; have f5_ := f3_.symm; clear f1_ f2_ f3_; subst f4_; subst f5_))
         have p443 : 0 ≤ (((rd_T32 ((rd_T35 t427 x8_2).f0) x9_3).f1.f2) : Int) := ofb
         have q443 : ((rd_T32 ((rd_T35 t427 x8_2).f0) x9_3).f1.f2) < (x7_3.length : Int) := ofb
         obtain ⟨ad443, e443, hx443_0⟩ := Kd.at_int (Kd.R_reads' HO_7.out).2.2 ((rd_T32 ((rd_T35 t427 x8_2).f0) x9_3).f1.f2) p443 q443
         cases e443
         replace p443 := eq_true p443
         replace q443 := eq_true q443
         have p31 : 0 ≤ (((rd_T32 ((rd_T35 t427 x8_2).f0) x9_3).f1.f2) : Int) := ofb
         have q31 : (((rd_T32 ((rd_T35 t427 x8_2).f0) x9_3).f1.f2) : Int) < ((x7_3.length : Int) : Int) := ofb
         obtain ⟨go31, co31, eo31, gb31, gl31, cl31, HG31⟩ := Kd.R_form HO_7.out (by omega)
         (first | cases eo31 | (injection eo31 with ea_ en_ ec_; (first | subst ea_ | (injection ea_ with ea_; subst ea_)); subst ec_; clear en_))
         have GB31 := am gb31
         have GG31 := am HG31
         clear gb31 gl31 HG31
         (first | simp only [add_plain] at hx443_0 | skip)
         obtain ⟨hx31_0, hf31_0⟩ := Kd.R_celln 0 HO_7.out (((rd_T32 ((rd_T35 t427 x8_2).f0) x9_3).f1.f2) : Int) p31 q31
         replace p31 := eq_true p31
         replace q31 := eq_true q31
         have HP42 := Kd.R_putn HO_7.out (((rd_T32 ((rd_T35 t427 x8_2).f0) x9_3).f1.f2) : Int) (wrap64 ((rd x7_3 ((rd_T32 ((rd_T35 t427 x8_2).f0) x9_3).f1.f2)) + 1))
         rw [← Ny444.out] at HP42
         have HQ42 := am HP42
         clear HP42
         refine start_ (n := 13) (S := fun w' => w'.cell? ⟨gb442, 0, none⟩ = some (.int .i64 ((rd_T32 ((rd_T35 t427 x8_2).f0) x9_3).f0)) ∧ w'.cell? ⟨gb442, 1, none⟩ = some (.int .i64 ((rd_T32 ((rd_T35 t427 x8_2).f0) x9_3).f1.f0)) ∧ w'.cell? ⟨gb442, 2, none⟩ = some (.int .i64 ((rd_T32 ((rd_T35 t427 x8_2).f0) x9_3).f1.f1)) ∧ w'.cell? ⟨gb442, 3, none⟩ = some (.int .i64 ((rd_T32 ((rd_T35 t427 x8_2).f0) x9_3).f1.f2)) ∧ w'.cell? ⟨gb442, 4, none⟩ = some (.int .i64 ((rd_T32 ((rd_T35 t427 x8_2).f0) x9_3).f1.f3)) ∧ w'.cell? ⟨go31, (((rd_T32 ((rd_T35 t427 x8_2).f0) x9_3).f1.f2)).toNat, none⟩ = some (.int .i64 (rd x7_3 ((rd_T32 ((rd_T35 t427 x8_2).f0) x9_3).f1.f2)))) (ds := [12]) #[false, false, false, false, false, false, false, false, false, false, false, false, false] (by kernel_rfl) rfl rfl ⟨(blk_cell BK442.out 0).trans rfl, (blk_cell BK442.out 1).trans rfl, (blk_cell BK442.out 2).trans rfl, (blk_cell BK442.out 3).trans rfl, (blk_cell BK442.out 4).trans rfl, hx443_0⟩ (fun hHeld => ?_); refine with_tabW laws_FnLive.tab16 laws_FnLive.bits16 (fun HT_ HW_ => ?_)
         generalize w39.drew = w40 at HO_3 HO_7 HL440_0 BK442 HB GG31 HQ42 hf31_0 hx31_0 hx443_0 hHeld ⊢
         refine pj_ 0 67 #[true, false, false, false, false, false, false, false, false, false, false, false, false] rfl rfl (any_of HT_.out (by kernel_rfl)) (fun _ _ _ h => h) ?_
         refine pj_ 1 68 #[true, true, false, false, false, false, false, false, false, false, false, false, false] rfl rfl (any_of HT_.out (by kernel_rfl)) (fun _ _ _ h => h) ?_
         refine pj_ 2 69 #[true, true, true, false, false, false, false, false, false, false, false, false, false] rfl rfl (any_of HT_.out (by kernel_rfl)) (fun _ _ _ h => h) ?_
         refine pj_ 4 71 #[true, true, true, false, true, false, false, false, false, false, false, false, false] rfl rfl (any_of HT_.out (by kernel_rfl)) (fun _ _ _ h => h) ?_
         refine pj_ 5 72 #[true, true, true, false, true, true, false, false, false, false, false, false, false] rfl rfl (any_of HT_.out (by kernel_rfl)) (fun _ _ _ h => h) ?_
         refine pj_ 6 73 #[true, true, true, false, true, true, true, false, false, false, false, false, false] rfl rfl (any_of HT_.out (by kernel_rfl)) (fun _ _ _ h => h) ?_
         refine pm_ 3 70 #[true, true, true, true, true, true, true, false, false, false, false, false, false] rfl rfl (take_ofW HT_.out HW_.out (by kernel_rfl)) (fun _ _ _ h => h) hHeld ?_
         refine pm_ 7 74 #[true, true, true, true, true, true, true, true, false, false, false, false, false] rfl rfl (take_ofW HT_.out HW_.out (by kernel_rfl)) (fun _ _ _ h => h) hHeld ?_
         refine pj_ 8 75 #[true, true, true, true, true, true, true, true, true, false, false, false, false] rfl rfl (any_of HT_.out (by kernel_rfl)) (fun _ _ _ h => h) ?_
         refine pm_ 9 76 #[true, true, true, true, true, true, true, true, true, true, false, false, false] rfl rfl (take_ofW HT_.out HW_.out (by kernel_rfl)) (fun _ _ _ h => h) hHeld ?_
         refine pj_ 10 77 #[true, true, true, true, true, true, true, true, true, true, true, false, false] rfl rfl (any_of HT_.out (by kernel_rfl)) (fun _ _ _ h => h) ?_
         refine pj_ 11 78 #[true, true, true, true, true, true, true, true, true, true, true, true, false] rfl rfl (any_of HT_.out (by kernel_rfl)) (fun _ _ _ h => h) ?_
         refine last_ (i := 12) (N := none) #[true, true, true, true, true, true, true, true, true, true, true, true, true] rfl rfl (one_of HT_.out (by kernel_rfl)) (by decide) (fun K hK => ?_)
         refine skip_ (w1 := ?_) (by rfl) rfl ?_ ?_
         rotate_left
         · go_simp
           rfl
         refine hK.out _ _ ?_
         clear hK K
         refine done_ (done_of HT_.out (by kernel_rfl)) ?_
         have n0_ : Aside0 (Kd.V k35 35 (w40.setCell ⟨go31, (((rd_T32 ((rd_T35 t427 x8_2).f0) x9_3).f1.f2) : Int).toNat, none⟩ (.int .i64 (wrap64 ((rd x7_3 ((rd_T32 ((rd_T35 t427 x8_2).f0) x9_3).f1.f2)) + 1)))) w.heap.size (fun k_ => some k_ ≠ (.slice (some ⟨go31, 0, none⟩) x7_3.length co41 : Value).ownBlock ∧ k_ ≠ gb442) (.slice (some ad440) t427.length co7) t427) := ⟨by (with_reducible repeat (first | apply Kd.V_alloc | apply Kd.V_drewN | apply Kd.V_drew)); exact Kd.V_mono (Kd.V_far (p := ⟨go31, (((rd_T32 ((rd_T35 t427 x8_2).f0) x9_3).f1.f2) : Int).toNat, none⟩) (Kd.V_mono HO_3.out (fun k_ hk => (⟨hk, fun e_ => hk.1 (by rw [e_]; rfl)⟩ : _ ∧ k_ ≠ go31))) (fun _ hk => hk.2) (.int .i64 (wrap64 ((rd x7_3 ((rd_T32 ((rd_T35 t427 x8_2).f0) x9_3).f1.f2)) + 1)))) (fun _ hk => ⟨hk.1.1, hk.1.2⟩)⟩
         have n1_ : Aside0 (Kd.R (Kd.int .i64) 3 (w40.setCell ⟨go31, (((rd_T32 ((rd_T35 t427 x8_2).f0) x9_3).f1.f2) : Int).toNat, none⟩ (.int .i64 (wrap64 ((rd x7_3 ((rd_T32 ((rd_T35 t427 x8_2).f0) x9_3).f1.f2)) + 1)))) w.heap.size (fun _ => True) (.slice (some ⟨go31, 0, none⟩) x7_3.length co41) y444) := ⟨pr HQ42.out⟩
         have n2_ : Aside0 (Kd.V k32 32 (w40.setCell ⟨go31, (((rd_T32 ((rd_T35 t427 x8_2).f0) x9_3).f1.f2) : Int).toNat, none⟩ (.int .i64 (wrap64 ((rd x7_3 ((rd_T32 ((rd_T35 t427 x8_2).f0) x9_3).f1.f2)) + 1)))) w.heap.size (fun k_ => some k_ ≠ (.slice (some ⟨go31, 0, none⟩) x7_3.length co41 : Value).ownBlock ∧ k_ ≠ gb442) (.slice (some ad441) ((rd_T35 t427 x8_2).f0).length c440_0) ((rd_T35 t427 x8_2).f0)) := ⟨by (with_reducible repeat (first | apply Kd.V_alloc | apply Kd.V_drewN | apply Kd.V_drew)); exact Kd.V_mono (Kd.V_far (p := ⟨go31, (((rd_T32 ((rd_T35 t427 x8_2).f0) x9_3).f1.f2) : Int).toNat, none⟩) (Kd.V_mono HL440_0.out (fun k_ hk => (⟨hk, fun e_ => hk.1 (by rw [e_]; rfl)⟩ : _ ∧ k_ ≠ go31))) (fun _ hk => hk.2) (.int .i64 (wrap64 ((rd x7_3 ((rd_T32 ((rd_T35 t427 x8_2).f0) x9_3).f1.f2)) + 1)))) (fun _ hk => ⟨hk.1.1, hk.1.2⟩)⟩
         have n3_ : Aside0 ((w40.setCell ⟨go31, (((rd_T32 ((rd_T35 t427 x8_2).f0) x9_3).f1.f2) : Int).toNat, none⟩ (.int .i64 (wrap64 ((rd x7_3 ((rd_T32 ((rd_T35 t427 x8_2).f0) x9_3).f1.f2)) + 1)))).heap[gb442]? = some (.cells #[.int .i64 ((rd_T32 ((rd_T35 t427 x8_2).f0) x9_3).f0), .int .i64 ((rd_T32 ((rd_T35 t427 x8_2).f0) x9_3).f1.f0), .int .i64 ((rd_T32 ((rd_T35 t427 x8_2).f0) x9_3).f1.f1), .int .i64 ((rd_T32 ((rd_T35 t427 x8_2).f0) x9_3).f1.f2), .int .i64 ((rd_T32 ((rd_T35 t427 x8_2).f0) x9_3).f1.f3)] 32 (0, 0))) := ⟨by (with_reducible repeat (first | refine blk_drewN ?_ _ | refine blk_drew ?_ | refine blk_alloc ?_ _)); refine blk_far ?_ (by have h_ := Kd.R_ne HO_7.out BK442.out (by decide); intro e_; exact h_ (by rw [e_]; rfl)) _; (with_reducible repeat (first | refine blk_drewN ?_ _ | refine blk_drew ?_ | refine blk_alloc ?_ _)); exact BK442.out⟩
         have n4_ : Aside0 (Below w.heap.size w (w40.setCell ⟨go31, (((rd_T32 ((rd_T35 t427 x8_2).f0) x9_3).f1.f2) : Int).toNat, none⟩ (.int .i64 (wrap64 ((rd x7_3 ((rd_T32 ((rd_T35 t427 x8_2).f0) x9_3).f1.f2)) + 1))))) := ⟨by repeat (first | (with_reducible first | exact HB.out | apply below_alloc | apply pw_below_drewN | apply below_drew1 | refine below_set ?_ GB31.out | refine below_set ?_ GE442.out) | exact HB.out)⟩
         (try clear HO_3)
         (try clear HO_7)
         (try clear HL440_0)
         (try clear BK442)
         (try clear HB)
         generalize (w40.setCell ⟨go31, (((rd_T32 ((rd_T35 t427 x8_2).f0) x9_3).f1.f2) : Int).toNat, none⟩ (.int .i64 (wrap64 ((rd x7_3 ((rd_T32 ((rd_T35 t427 x8_2).f0) x9_3).f1.f2)) + 1)))) = w43 at n0_ n1_ n2_ n3_ n4_ ⊢
         have HO_3 := n0_
         have HO_7 := n1_
         have HL440_0 := n2_
         have BK442 := n3_
         have HB := n4_
         clear n0_ n1_ n2_ n3_ n4_
         have hcz44_0 : w43.cell? ⟨gb442, 0, none⟩ = some (.int .i64 ((rd_T32 ((rd_T35 t427 x8_2).f0) x9_3).f0)) := (blk_cell BK442.out 0).trans rfl
         have hcz44_1 : w43.cell? ⟨gb442, 1, none⟩ = some (.int .i64 ((rd_T32 ((rd_T35 t427 x8_2).f0) x9_3).f1.f0)) := (blk_cell BK442.out 1).trans rfl
         have hcz44_2 : w43.cell? ⟨gb442, 2, none⟩ = some (.int .i64 ((rd_T32 ((rd_T35 t427 x8_2).f0) x9_3).f1.f1)) := (blk_cell BK442.out 2).trans rfl
         have hcz44_3 : w43.cell? ⟨gb442, 3, none⟩ = some (.int .i64 ((rd_T32 ((rd_T35 t427 x8_2).f0) x9_3).f1.f2)) := (blk_cell BK442.out 3).trans rfl
         have hcz44_4 : w43.cell? ⟨gb442, 4, none⟩ = some (.int .i64 ((rd_T32 ((rd_T35 t427 x8_2).f0) x9_3).f1.f3)) := (blk_cell BK442.out 4).trans rfl
         obtain ⟨hfz44_0, hfz44_1, hfz44_2, hfz44_3, hfz44_4⟩ := f5 BK442.out
         try go_wp2_with (first | (refine gl 84 Try.func8 #[.slice (some ad440) t427.length co7, .int .i64 ((rd_T32 ((rd_T35 t427 x8_2).f0) x9_3).f1.f2)] rfl ?_; (with_reducible refine (impl_FindLast.calls _ _ t427 ((rd_T32 ((rd_T35 t427 x8_2).f0) x9_3).f1.f2) t445 t446 t447 t448 true _ ?side1 ?side2 A32.out).mono ?_); (case side1 => repeat (first | exact (Kd.V_reads' HO_3.out).2.2 | (with_reducible refine Kd.C_alloc ?_ _) | (with_reducible refine Kd.C_drewN ?_ _) | (with_reducible refine Kd.C_drew ?_))); (case side2 => exact (Kd.V_reads' HO_3.out).2.1); rintro e w45 ⟨rfl, hb⟩; refine ⟨_, rfl, ?_⟩; replace HO_3 := am (Kd.V_below (by (with_reducible repeat (first | apply Kd.V_alloc | apply Kd.V_drewN | apply Kd.V_drew)); exact HO_3.out) hb); replace HO_7 := am (Kd.R_below (pr HO_7.out) hb); replace HL440_0 := am (Kd.V_below (by (with_reducible repeat (first | apply Kd.V_alloc | apply Kd.V_drewN | apply Kd.V_drew)); exact HL440_0.out) hb); replace BK442 := am (blk_below (pb BK442.out) hb); replace HB := am (below_step (bg1 HB.out GE442.out) hb); (try clear hb); (try clear hb2); (try clear hk); (try clear hi)) | (refine bx 11 #[.int .i64 0, .int .i64 0, .int .i64 0, .int .i64 0] 30 rfl ?_; intro gb450 hg w46 hbox hb; replace HO_3 := am (Kd.V_below (Kd.V_elderB (by (with_reducible repeat (first | apply Kd.V_alloc | apply Kd.V_drewN | apply Kd.V_drew)); exact HO_3.out) gb450 (Nat.le_of_eq hg.symm)) hb); replace HO_7 := am (Kd.R_below (pr HO_7.out) hb); replace HL440_0 := am (Kd.V_below (Kd.V_elderB (by (with_reducible repeat (first | apply Kd.V_alloc | apply Kd.V_drewN | apply Kd.V_drew)); exact HL440_0.out) gb450 (Nat.le_of_eq hg.symm)) hb); have BK450 := am (hbox); have GW450 := am ((by rw [hg]; exact (below_size (bg1 HB.out GE442.out)) : w.heap.size ≤ gb450)); have GE450 := GW450; replace HB := am (below_step (bg1 HB.out GE442.out) hb); have NB442_450 := am ((by rw [hg]; exact Nat.ne_of_lt (blk_lt (pb BK442.out)) : gb442 ≠ gb450)); have NB450_442 := am (Ne.symm NB442_450.out); replace BK442 := am (blk_below (pb BK442.out) hb); clear hb hbox hg; have hnb47 := NB450_442.out; have hnc47 := NB442_450.out; obtain ⟨hcz48_0, hcz48_1, hcz48_2, hcz48_3⟩ := b4 BK450.out; obtain ⟨hfz48_0, hfz48_1, hfz48_2, hfz48_3⟩ := f4 BK450.out; have hcz49_0 : w46.cell? ⟨gb442, 0, none⟩ = some (.int .i64 ((rd_T32 ((rd_T35 t427 x8_2).f0) x9_3).f0)) := (blk_cell BK442.out 0).trans rfl; have hcz49_1 : w46.cell? ⟨gb442, 1, none⟩ = some (.int .i64 ((rd_T32 ((rd_T35 t427 x8_2).f0) x9_3).f1.f0)) := (blk_cell BK442.out 1).trans rfl; have hcz49_2 : w46.cell? ⟨gb442, 2, none⟩ = some (.int .i64 ((rd_T32 ((rd_T35 t427 x8_2).f0) x9_3).f1.f1)) := (blk_cell BK442.out 2).trans rfl; have hcz49_3 : w46.cell? ⟨gb442, 3, none⟩ = some (.int .i64 ((rd_T32 ((rd_T35 t427 x8_2).f0) x9_3).f1.f2)) := (blk_cell BK442.out 3).trans rfl; have hcz49_4 : w46.cell? ⟨gb442, 4, none⟩ = some (.int .i64 ((rd_T32 ((rd_T35 t427 x8_2).f0) x9_3).f1.f3)) := (blk_cell BK442.out 4).trans rfl; obtain ⟨hfz49_0, hfz49_1, hfz49_2, hfz49_3, hfz49_4⟩ := f5 BK442.out))
         go_ret
         exact (rq (bg2 HB.out GE442.out GE450.out))
       rw [if_neg c35] at H
       have c35b0 : (!(t445 == ((rd_T32 ((rd_T35 t427 x8_2).f0) x9_3).f1.f0)) || (!(t446 == ((rd_T32 ((rd_T35 t427 x8_2).f0) x9_3).f1.f1)) || (!(t447 == ((rd_T32 ((rd_T35 t427 x8_2).f0) x9_3).f1.f2)) || (!(t448 == ((rd_T32 ((rd_T35 t427 x8_2).f0) x9_3).f1.f3)))))) = false := by simpa using c35
       clear c35
       have H' := am H
       clear H
       try go_wp2_with (first | (refine gl 58 Try.func5 #[.slice Ao7 t427.length co7, .int .i64 x8_2, .int .i64 x9_3] rfl ?_; (with_reducible refine (impl_FindLive.calls k3 _ _ t427 x8_2 x9_3 true _ ?side1 ?side2 A23.out).mono ?_); (case side1 => repeat (first | exact (Kd.V_reads' HO_3.out).2.2 | (with_reducible refine Kd.C_alloc ?_ _) | (with_reducible refine Kd.C_drewN ?_ _) | (with_reducible refine Kd.C_drew ?_))); (case side2 => exact (Kd.V_reads' HO_3.out).2.1); rintro e w50 ⟨rfl, hb⟩; refine ⟨_, rfl, ?_⟩; replace HO_3 := am (Kd.V_below (by (with_reducible repeat (first | apply Kd.V_alloc | apply Kd.V_drewN | apply Kd.V_drew)); exact HO_3.out) hb); replace HO_7 := am (Kd.R_below (pr HO_7.out) hb); replace HB := am (below_step (ph HB.out) hb); (try clear hb); (try clear hb2); (try clear hk); (try clear hi); have p440 : 0 ≤ (x8_2 : Int) := ofb; have q440 : x8_2 < (t427.length : Int) := ofb; obtain ⟨ad440, A440_0, c440_0, e440, hx440_0, hx440_1, hl440_0, hi440_0⟩ := at_T35 (Kd.V_reads' HO_3.out).2.2 x8_2 p440 q440; cases e440; obtain ⟨ce440, hce440, hMe440, hcc440⟩ := Kd.V_get HO_3.out z35 x8_2 p440 (by first | exact q440 | exact ofb | (have e_ := (Kd.V_reads' HO_3.out).1; omega)); obtain ⟨ua440_0, uc440_0, rfl, ul440_0, ge440_0⟩ := k35_openF hMe440; have hv440_0 := hcc440 0 _ rfl; rw [Nat.add_zero] at hv440_0; replace hv440_0 := Option.some.inj (hv440_0.symm.trans hx440_0); injection hv440_0 with hva_ hvn_ hvc_; rw [hva_] at ge440_0; rw [hvc_] at ul440_0; have HL440_0 := am (show Kd.V k32 32 _ w.heap.size _ _ ((rd_T35 t427 x8_2).f0) from Kd.V_mk ul440_0 ge440_0); clear hva_ hvn_ hvc_ ge440_0 ul440_0; clear hcc440 hce440; have HR440_0 := am hi440_0; have HC440_0 := am hl440_0; clear hi440_0 hl440_0; replace p440 := eq_true p440; replace q440 := eq_true q440; have p441 : 0 ≤ (x9_3 : Int) := ofb; have q441 : x9_3 < (((rd_T35 t427 x8_2).f0).length : Int) := ofb; obtain ⟨ad441, e441, hx441_0, hx441_1, hx441_2, hx441_3, hx441_4⟩ := at_T32 (by repeat (first | (with_reducible exact HR440_0.out) | (with_reducible refine Kd.C_alloc ?_ _) | (with_reducible refine Kd.C_drewN ?_ _) | (with_reducible refine Kd.C_drew ?_) | exact HR440_0.out)) x9_3 p441 q441; cases e441; replace p441 := eq_true p441; replace q441 := eq_true q441) | (refine bx 10 #[.int .i64 0, .int .i64 0, .int .i64 0, .int .i64 0, .int .i64 0] 32 rfl ?_; intro gb442 hg w51 hbox hb; replace HO_3 := am (Kd.V_below (Kd.V_elderB (by (with_reducible repeat (first | apply Kd.V_alloc | apply Kd.V_drewN | apply Kd.V_drew)); exact HO_3.out) gb442 (Nat.le_of_eq hg.symm)) hb); replace HO_7 := am (Kd.R_below (pr HO_7.out) hb); replace HL440_0 := am (Kd.V_below (Kd.V_elderB (by (with_reducible repeat (first | apply Kd.V_alloc | apply Kd.V_drewN | apply Kd.V_drew)); exact HL440_0.out) gb442 (Nat.le_of_eq hg.symm)) hb); replace HR440_0 := am (Kd.C_below (by repeat (first | (with_reducible exact HR440_0.out) | (with_reducible refine Kd.C_alloc ?_ _) | (with_reducible refine Kd.C_drewN ?_ _) | (with_reducible refine Kd.C_drew ?_) | exact HR440_0.out)) hb); have BK442 := am (hbox); have GW442 := am ((by rw [hg]; exact (below_size (ph HB.out)) : w.heap.size ≤ gb442)); have GE442 := GW442; replace HB := am (below_step (ph HB.out) hb); clear hb hbox hg; obtain ⟨hcz52_0, hcz52_1, hcz52_2, hcz52_3, hcz52_4⟩ := b5 BK442.out; obtain ⟨hfz52_0, hfz52_1, hfz52_2, hfz52_3, hfz52_4⟩ := f5 BK442.out))
       have n0_ : Aside0 (Kd.V k35 35 (((((w51.setCell ⟨gb442, 0, none⟩ (.int .i64 ((rd_T32 ((rd_T35 t427 x8_2).f0) x9_3).f0))).setCell ⟨gb442, 1, none⟩ (.int .i64 ((rd_T32 ((rd_T35 t427 x8_2).f0) x9_3).f1.f0))).setCell ⟨gb442, 2, none⟩ (.int .i64 ((rd_T32 ((rd_T35 t427 x8_2).f0) x9_3).f1.f1))).setCell ⟨gb442, 3, none⟩ (.int .i64 ((rd_T32 ((rd_T35 t427 x8_2).f0) x9_3).f1.f2))).setCell ⟨gb442, 4, none⟩ (.int .i64 ((rd_T32 ((rd_T35 t427 x8_2).f0) x9_3).f1.f3))) w.heap.size (fun k_ => some k_ ≠ (v437 : Value).ownBlock ∧ k_ ≠ gb442) (.slice (some ad440) t427.length co7) t427) := ⟨by (with_reducible repeat (first | apply Kd.V_alloc | apply Kd.V_drewN | apply Kd.V_drew)); exact Kd.V_mono (Kd.V_far (p := ⟨gb442, 4, none⟩) (Kd.V_far (p := ⟨gb442, 3, none⟩) (Kd.V_far (p := ⟨gb442, 2, none⟩) (Kd.V_far (p := ⟨gb442, 1, none⟩) (Kd.V_far (p := ⟨gb442, 0, none⟩) (Kd.V_mono HO_3.out (fun k_ hk => (⟨hk, hk.2⟩ : _ ∧ k_ ≠ gb442))) (fun _ hk => hk.2) (.int .i64 ((rd_T32 ((rd_T35 t427 x8_2).f0) x9_3).f0))) (fun _ hk => hk.2) (.int .i64 ((rd_T32 ((rd_T35 t427 x8_2).f0) x9_3).f1.f0))) (fun _ hk => hk.2) (.int .i64 ((rd_T32 ((rd_T35 t427 x8_2).f0) x9_3).f1.f1))) (fun _ hk => hk.2) (.int .i64 ((rd_T32 ((rd_T35 t427 x8_2).f0) x9_3).f1.f2))) (fun _ hk => hk.2) (.int .i64 ((rd_T32 ((rd_T35 t427 x8_2).f0) x9_3).f1.f3))) (fun _ hk => ⟨hk.1.1, hk.1.2⟩)⟩
       have n1_ : Aside0 (Kd.R (Kd.int .i64) 3 (((((w51.setCell ⟨gb442, 0, none⟩ (.int .i64 ((rd_T32 ((rd_T35 t427 x8_2).f0) x9_3).f0))).setCell ⟨gb442, 1, none⟩ (.int .i64 ((rd_T32 ((rd_T35 t427 x8_2).f0) x9_3).f1.f0))).setCell ⟨gb442, 2, none⟩ (.int .i64 ((rd_T32 ((rd_T35 t427 x8_2).f0) x9_3).f1.f1))).setCell ⟨gb442, 3, none⟩ (.int .i64 ((rd_T32 ((rd_T35 t427 x8_2).f0) x9_3).f1.f2))).setCell ⟨gb442, 4, none⟩ (.int .i64 ((rd_T32 ((rd_T35 t427 x8_2).f0) x9_3).f1.f3))) w.heap.size (fun _ => True) v437 x7_3) := ⟨by (with_reducible repeat (first | apply Kd.R_alloc | apply Kd.R_drewN | apply Kd.R_drew)); exact Kd.R_mono (Kd.R_far (p := ⟨gb442, 4, none⟩) (Kd.R_far (p := ⟨gb442, 3, none⟩) (Kd.R_far (p := ⟨gb442, 2, none⟩) (Kd.R_far (p := ⟨gb442, 1, none⟩) (Kd.R_far (p := ⟨gb442, 0, none⟩) (Kd.R_types HO_7.out BK442.out (by decide)) (fun _ hk => hk.2) (.int .i64 ((rd_T32 ((rd_T35 t427 x8_2).f0) x9_3).f0))) (fun _ hk => hk.2) (.int .i64 ((rd_T32 ((rd_T35 t427 x8_2).f0) x9_3).f1.f0))) (fun _ hk => hk.2) (.int .i64 ((rd_T32 ((rd_T35 t427 x8_2).f0) x9_3).f1.f1))) (fun _ hk => hk.2) (.int .i64 ((rd_T32 ((rd_T35 t427 x8_2).f0) x9_3).f1.f2))) (fun _ hk => hk.2) (.int .i64 ((rd_T32 ((rd_T35 t427 x8_2).f0) x9_3).f1.f3))) (fun _ hk => trivial)⟩
       have n2_ : Aside0 (Kd.V k32 32 (((((w51.setCell ⟨gb442, 0, none⟩ (.int .i64 ((rd_T32 ((rd_T35 t427 x8_2).f0) x9_3).f0))).setCell ⟨gb442, 1, none⟩ (.int .i64 ((rd_T32 ((rd_T35 t427 x8_2).f0) x9_3).f1.f0))).setCell ⟨gb442, 2, none⟩ (.int .i64 ((rd_T32 ((rd_T35 t427 x8_2).f0) x9_3).f1.f1))).setCell ⟨gb442, 3, none⟩ (.int .i64 ((rd_T32 ((rd_T35 t427 x8_2).f0) x9_3).f1.f2))).setCell ⟨gb442, 4, none⟩ (.int .i64 ((rd_T32 ((rd_T35 t427 x8_2).f0) x9_3).f1.f3))) w.heap.size (fun k_ => some k_ ≠ (v437 : Value).ownBlock ∧ k_ ≠ gb442) (.slice (some ad441) ((rd_T35 t427 x8_2).f0).length c440_0) ((rd_T35 t427 x8_2).f0)) := ⟨by (with_reducible repeat (first | apply Kd.V_alloc | apply Kd.V_drewN | apply Kd.V_drew)); exact Kd.V_mono (Kd.V_far (p := ⟨gb442, 4, none⟩) (Kd.V_far (p := ⟨gb442, 3, none⟩) (Kd.V_far (p := ⟨gb442, 2, none⟩) (Kd.V_far (p := ⟨gb442, 1, none⟩) (Kd.V_far (p := ⟨gb442, 0, none⟩) (Kd.V_mono HL440_0.out (fun k_ hk => (⟨hk, hk.2⟩ : _ ∧ k_ ≠ gb442))) (fun _ hk => hk.2) (.int .i64 ((rd_T32 ((rd_T35 t427 x8_2).f0) x9_3).f0))) (fun _ hk => hk.2) (.int .i64 ((rd_T32 ((rd_T35 t427 x8_2).f0) x9_3).f1.f0))) (fun _ hk => hk.2) (.int .i64 ((rd_T32 ((rd_T35 t427 x8_2).f0) x9_3).f1.f1))) (fun _ hk => hk.2) (.int .i64 ((rd_T32 ((rd_T35 t427 x8_2).f0) x9_3).f1.f2))) (fun _ hk => hk.2) (.int .i64 ((rd_T32 ((rd_T35 t427 x8_2).f0) x9_3).f1.f3))) (fun _ hk => ⟨hk.1.1, hk.1.2⟩)⟩
       have n3_ : Aside0 ((((((w51.setCell ⟨gb442, 0, none⟩ (.int .i64 ((rd_T32 ((rd_T35 t427 x8_2).f0) x9_3).f0))).setCell ⟨gb442, 1, none⟩ (.int .i64 ((rd_T32 ((rd_T35 t427 x8_2).f0) x9_3).f1.f0))).setCell ⟨gb442, 2, none⟩ (.int .i64 ((rd_T32 ((rd_T35 t427 x8_2).f0) x9_3).f1.f1))).setCell ⟨gb442, 3, none⟩ (.int .i64 ((rd_T32 ((rd_T35 t427 x8_2).f0) x9_3).f1.f2))).setCell ⟨gb442, 4, none⟩ (.int .i64 ((rd_T32 ((rd_T35 t427 x8_2).f0) x9_3).f1.f3))).heap[gb442]? = some (.cells #[.int .i64 ((rd_T32 ((rd_T35 t427 x8_2).f0) x9_3).f0), .int .i64 ((rd_T32 ((rd_T35 t427 x8_2).f0) x9_3).f1.f0), .int .i64 ((rd_T32 ((rd_T35 t427 x8_2).f0) x9_3).f1.f1), .int .i64 ((rd_T32 ((rd_T35 t427 x8_2).f0) x9_3).f1.f2), .int .i64 ((rd_T32 ((rd_T35 t427 x8_2).f0) x9_3).f1.f3)] 32 (0, 0))) := ⟨by (with_reducible repeat (first | refine blk_drewN ?_ _ | refine blk_drew ?_ | refine blk_alloc ?_ _)); refine blk_put (cs := #[.int .i64 ((rd_T32 ((rd_T35 t427 x8_2).f0) x9_3).f0), .int .i64 ((rd_T32 ((rd_T35 t427 x8_2).f0) x9_3).f1.f0), .int .i64 ((rd_T32 ((rd_T35 t427 x8_2).f0) x9_3).f1.f1), .int .i64 ((rd_T32 ((rd_T35 t427 x8_2).f0) x9_3).f1.f2), .int .i64 0]) ?_ 4 _ rfl; (with_reducible repeat (first | refine blk_drewN ?_ _ | refine blk_drew ?_ | refine blk_alloc ?_ _)); refine blk_put (cs := #[.int .i64 ((rd_T32 ((rd_T35 t427 x8_2).f0) x9_3).f0), .int .i64 ((rd_T32 ((rd_T35 t427 x8_2).f0) x9_3).f1.f0), .int .i64 ((rd_T32 ((rd_T35 t427 x8_2).f0) x9_3).f1.f1), .int .i64 0, .int .i64 0]) ?_ 3 _ rfl; (with_reducible repeat (first | refine blk_drewN ?_ _ | refine blk_drew ?_ | refine blk_alloc ?_ _)); refine blk_put (cs := #[.int .i64 ((rd_T32 ((rd_T35 t427 x8_2).f0) x9_3).f0), .int .i64 ((rd_T32 ((rd_T35 t427 x8_2).f0) x9_3).f1.f0), .int .i64 0, .int .i64 0, .int .i64 0]) ?_ 2 _ rfl; (with_reducible repeat (first | refine blk_drewN ?_ _ | refine blk_drew ?_ | refine blk_alloc ?_ _)); refine blk_put (cs := #[.int .i64 ((rd_T32 ((rd_T35 t427 x8_2).f0) x9_3).f0), .int .i64 0, .int .i64 0, .int .i64 0, .int .i64 0]) ?_ 1 _ rfl; (with_reducible repeat (first | refine blk_drewN ?_ _ | refine blk_drew ?_ | refine blk_alloc ?_ _)); refine blk_put (cs := #[.int .i64 0, .int .i64 0, .int .i64 0, .int .i64 0, .int .i64 0]) ?_ 0 _ rfl; (with_reducible repeat (first | refine blk_drewN ?_ _ | refine blk_drew ?_ | refine blk_alloc ?_ _)); exact BK442.out⟩
       have n4_ : Aside0 (Below w.heap.size w (((((w51.setCell ⟨gb442, 0, none⟩ (.int .i64 ((rd_T32 ((rd_T35 t427 x8_2).f0) x9_3).f0))).setCell ⟨gb442, 1, none⟩ (.int .i64 ((rd_T32 ((rd_T35 t427 x8_2).f0) x9_3).f1.f0))).setCell ⟨gb442, 2, none⟩ (.int .i64 ((rd_T32 ((rd_T35 t427 x8_2).f0) x9_3).f1.f1))).setCell ⟨gb442, 3, none⟩ (.int .i64 ((rd_T32 ((rd_T35 t427 x8_2).f0) x9_3).f1.f2))).setCell ⟨gb442, 4, none⟩ (.int .i64 ((rd_T32 ((rd_T35 t427 x8_2).f0) x9_3).f1.f3)))) := ⟨bg1 HB.out GE442.out⟩
       (try clear HO_3)
       (try clear HO_7)
       (try clear HL440_0)
       (try clear BK442)
       (try clear HB)
       generalize (((((w51.setCell ⟨gb442, 0, none⟩ (.int .i64 ((rd_T32 ((rd_T35 t427 x8_2).f0) x9_3).f0))).setCell ⟨gb442, 1, none⟩ (.int .i64 ((rd_T32 ((rd_T35 t427 x8_2).f0) x9_3).f1.f0))).setCell ⟨gb442, 2, none⟩ (.int .i64 ((rd_T32 ((rd_T35 t427 x8_2).f0) x9_3).f1.f1))).setCell ⟨gb442, 3, none⟩ (.int .i64 ((rd_T32 ((rd_T35 t427 x8_2).f0) x9_3).f1.f2))).setCell ⟨gb442, 4, none⟩ (.int .i64 ((rd_T32 ((rd_T35 t427 x8_2).f0) x9_3).f1.f3))) = w53 at n0_ n1_ n2_ n3_ n4_ ⊢
       have HO_3 := n0_
       have HO_7 := n1_
       have HL440_0 := n2_
       have BK442 := n3_
       have HB := n4_
       clear n0_ n1_ n2_ n3_ n4_
       replace HO_3 := am (Kd.V_drew HO_3.out)
       replace HO_7 := am (Kd.R_drew HO_7.out)
       replace HL440_0 := am (Kd.V_drew HL440_0.out)
       replace BK442 := am (blk_drew BK442.out)
       replace HB := am (below_drew1 HB.out)
       obtain ⟨Ao55, co55, eo55⟩ := Kd.R_slice HO_7.out
       (first | subst eo55 | (injection eo55 with f1_ f2_ f3_; have f4_ := f1_.symm; have f5_ := f3_.symm; clear f1_ f2_ f3_; subst f4_; subst f5_))
       have p443 : 0 ≤ (((rd_T32 ((rd_T35 t427 x8_2).f0) x9_3).f1.f2) : Int) := ofb
       have q443 : ((rd_T32 ((rd_T35 t427 x8_2).f0) x9_3).f1.f2) < (x7_3.length : Int) := ofb
       obtain ⟨ad443, e443, hx443_0⟩ := Kd.at_int (Kd.R_reads' HO_7.out).2.2 ((rd_T32 ((rd_T35 t427 x8_2).f0) x9_3).f1.f2) p443 q443
       cases e443
       replace p443 := eq_true p443
       replace q443 := eq_true q443
       have p31 : 0 ≤ (((rd_T32 ((rd_T35 t427 x8_2).f0) x9_3).f1.f2) : Int) := ofb
       have q31 : (((rd_T32 ((rd_T35 t427 x8_2).f0) x9_3).f1.f2) : Int) < ((x7_3.length : Int) : Int) := ofb
       obtain ⟨go31, co31, eo31, gb31, gl31, cl31, HG31⟩ := Kd.R_form HO_7.out (by omega)
       (first | cases eo31 | (injection eo31 with ea_ en_ ec_; (first | subst ea_ | (injection ea_ with ea_; subst ea_)); subst ec_; clear en_))
       have GB31 := am gb31
       have GG31 := am HG31
       clear gb31 gl31 HG31
       (first | simp only [add_plain] at hx443_0 | skip)
       obtain ⟨hx31_0, hf31_0⟩ := Kd.R_celln 0 HO_7.out (((rd_T32 ((rd_T35 t427 x8_2).f0) x9_3).f1.f2) : Int) p31 q31
       replace p31 := eq_true p31
       replace q31 := eq_true q31
       have HP56 := Kd.R_putn HO_7.out (((rd_T32 ((rd_T35 t427 x8_2).f0) x9_3).f1.f2) : Int) (wrap64 ((rd x7_3 ((rd_T32 ((rd_T35 t427 x8_2).f0) x9_3).f1.f2)) + 1))
       rw [← Ny444.out] at HP56
       have HQ56 := am HP56
       clear HP56
       refine start_ (n := 13) (S := fun w' => w'.cell? ⟨gb442, 0, none⟩ = some (.int .i64 ((rd_T32 ((rd_T35 t427 x8_2).f0) x9_3).f0)) ∧ w'.cell? ⟨gb442, 1, none⟩ = some (.int .i64 ((rd_T32 ((rd_T35 t427 x8_2).f0) x9_3).f1.f0)) ∧ w'.cell? ⟨gb442, 2, none⟩ = some (.int .i64 ((rd_T32 ((rd_T35 t427 x8_2).f0) x9_3).f1.f1)) ∧ w'.cell? ⟨gb442, 3, none⟩ = some (.int .i64 ((rd_T32 ((rd_T35 t427 x8_2).f0) x9_3).f1.f2)) ∧ w'.cell? ⟨gb442, 4, none⟩ = some (.int .i64 ((rd_T32 ((rd_T35 t427 x8_2).f0) x9_3).f1.f3)) ∧ w'.cell? ⟨go31, (((rd_T32 ((rd_T35 t427 x8_2).f0) x9_3).f1.f2)).toNat, none⟩ = some (.int .i64 (rd x7_3 ((rd_T32 ((rd_T35 t427 x8_2).f0) x9_3).f1.f2)))) (ds := [12]) #[false, false, false, false, false, false, false, false, false, false, false, false, false] (by kernel_rfl) rfl rfl ⟨(blk_cell BK442.out 0).trans rfl, (blk_cell BK442.out 1).trans rfl, (blk_cell BK442.out 2).trans rfl, (blk_cell BK442.out 3).trans rfl, (blk_cell BK442.out 4).trans rfl, hx443_0⟩ (fun hHeld => ?_); refine with_tabW laws_FnLive.tab16 laws_FnLive.bits16 (fun HT_ HW_ => ?_)
       generalize w53.drew = w54 at HO_3 HO_7 HL440_0 BK442 HB GG31 HQ56 hf31_0 hx31_0 hx443_0 hHeld ⊢
       refine pj_ 0 67 #[true, false, false, false, false, false, false, false, false, false, false, false, false] rfl rfl (any_of HT_.out (by kernel_rfl)) (fun _ _ _ h => h) ?_
       refine pj_ 1 68 #[true, true, false, false, false, false, false, false, false, false, false, false, false] rfl rfl (any_of HT_.out (by kernel_rfl)) (fun _ _ _ h => h) ?_
       refine pj_ 2 69 #[true, true, true, false, false, false, false, false, false, false, false, false, false] rfl rfl (any_of HT_.out (by kernel_rfl)) (fun _ _ _ h => h) ?_
       refine pj_ 4 71 #[true, true, true, false, true, false, false, false, false, false, false, false, false] rfl rfl (any_of HT_.out (by kernel_rfl)) (fun _ _ _ h => h) ?_
       refine pj_ 5 72 #[true, true, true, false, true, true, false, false, false, false, false, false, false] rfl rfl (any_of HT_.out (by kernel_rfl)) (fun _ _ _ h => h) ?_
       refine pj_ 6 73 #[true, true, true, false, true, true, true, false, false, false, false, false, false] rfl rfl (any_of HT_.out (by kernel_rfl)) (fun _ _ _ h => h) ?_
       refine pm_ 3 70 #[true, true, true, true, true, true, true, false, false, false, false, false, false] rfl rfl (take_ofW HT_.out HW_.out (by kernel_rfl)) (fun _ _ _ h => h) hHeld ?_
       refine pm_ 7 74 #[true, true, true, true, true, true, true, true, false, false, false, false, false] rfl rfl (take_ofW HT_.out HW_.out (by kernel_rfl)) (fun _ _ _ h => h) hHeld ?_
       refine pj_ 8 75 #[true, true, true, true, true, true, true, true, true, false, false, false, false] rfl rfl (any_of HT_.out (by kernel_rfl)) (fun _ _ _ h => h) ?_
       refine pm_ 9 76 #[true, true, true, true, true, true, true, true, true, true, false, false, false] rfl rfl (take_ofW HT_.out HW_.out (by kernel_rfl)) (fun _ _ _ h => h) hHeld ?_
       refine pj_ 10 77 #[true, true, true, true, true, true, true, true, true, true, true, false, false] rfl rfl (any_of HT_.out (by kernel_rfl)) (fun _ _ _ h => h) ?_
       refine pj_ 11 78 #[true, true, true, true, true, true, true, true, true, true, true, true, false] rfl rfl (any_of HT_.out (by kernel_rfl)) (fun _ _ _ h => h) ?_
       refine last_ (i := 12) (N := none) #[true, true, true, true, true, true, true, true, true, true, true, true, true] rfl rfl (one_of HT_.out (by kernel_rfl)) (by decide) (fun K hK => ?_)
       refine skip_ (w1 := ?_) (by rfl) rfl ?_ ?_
       rotate_left
       · go_simp
         rfl
       refine hK.out _ _ ?_
       clear hK K
       refine done_ (done_of HT_.out (by kernel_rfl)) ?_
       have n0_ : Aside0 (Kd.V k35 35 (w54.setCell ⟨go31, (((rd_T32 ((rd_T35 t427 x8_2).f0) x9_3).f1.f2) : Int).toNat, none⟩ (.int .i64 (wrap64 ((rd x7_3 ((rd_T32 ((rd_T35 t427 x8_2).f0) x9_3).f1.f2)) + 1)))) w.heap.size (fun k_ => some k_ ≠ (.slice (some ⟨go31, 0, none⟩) x7_3.length co55 : Value).ownBlock ∧ k_ ≠ gb442) (.slice (some ad440) t427.length co7) t427) := ⟨by (with_reducible repeat (first | apply Kd.V_alloc | apply Kd.V_drewN | apply Kd.V_drew)); exact Kd.V_mono (Kd.V_far (p := ⟨go31, (((rd_T32 ((rd_T35 t427 x8_2).f0) x9_3).f1.f2) : Int).toNat, none⟩) (Kd.V_mono HO_3.out (fun k_ hk => (⟨hk, fun e_ => hk.1 (by rw [e_]; rfl)⟩ : _ ∧ k_ ≠ go31))) (fun _ hk => hk.2) (.int .i64 (wrap64 ((rd x7_3 ((rd_T32 ((rd_T35 t427 x8_2).f0) x9_3).f1.f2)) + 1)))) (fun _ hk => ⟨hk.1.1, hk.1.2⟩)⟩
       have n1_ : Aside0 (Kd.R (Kd.int .i64) 3 (w54.setCell ⟨go31, (((rd_T32 ((rd_T35 t427 x8_2).f0) x9_3).f1.f2) : Int).toNat, none⟩ (.int .i64 (wrap64 ((rd x7_3 ((rd_T32 ((rd_T35 t427 x8_2).f0) x9_3).f1.f2)) + 1)))) w.heap.size (fun _ => True) (.slice (some ⟨go31, 0, none⟩) x7_3.length co55) y444) := ⟨pr HQ56.out⟩
       have n2_ : Aside0 (Kd.V k32 32 (w54.setCell ⟨go31, (((rd_T32 ((rd_T35 t427 x8_2).f0) x9_3).f1.f2) : Int).toNat, none⟩ (.int .i64 (wrap64 ((rd x7_3 ((rd_T32 ((rd_T35 t427 x8_2).f0) x9_3).f1.f2)) + 1)))) w.heap.size (fun k_ => some k_ ≠ (.slice (some ⟨go31, 0, none⟩) x7_3.length co55 : Value).ownBlock ∧ k_ ≠ gb442) (.slice (some ad441) ((rd_T35 t427 x8_2).f0).length c440_0) ((rd_T35 t427 x8_2).f0)) := ⟨by (with_reducible repeat (first | apply Kd.V_alloc | apply Kd.V_drewN | apply Kd.V_drew)); exact Kd.V_mono (Kd.V_far (p := ⟨go31, (((rd_T32 ((rd_T35 t427 x8_2).f0) x9_3).f1.f2) : Int).toNat, none⟩) (Kd.V_mono HL440_0.out (fun k_ hk => (⟨hk, fun e_ => hk.1 (by rw [e_]; rfl)⟩ : _ ∧ k_ ≠ go31))) (fun _ hk => hk.2) (.int .i64 (wrap64 ((rd x7_3 ((rd_T32 ((rd_T35 t427 x8_2).f0) x9_3).f1.f2)) + 1)))) (fun _ hk => ⟨hk.1.1, hk.1.2⟩)⟩
       have n3_ : Aside0 ((w54.setCell ⟨go31, (((rd_T32 ((rd_T35 t427 x8_2).f0) x9_3).f1.f2) : Int).toNat, none⟩ (.int .i64 (wrap64 ((rd x7_3 ((rd_T32 ((rd_T35 t427 x8_2).f0) x9_3).f1.f2)) + 1)))).heap[gb442]? = some (.cells #[.int .i64 ((rd_T32 ((rd_T35 t427 x8_2).f0) x9_3).f0), .int .i64 ((rd_T32 ((rd_T35 t427 x8_2).f0) x9_3).f1.f0), .int .i64 ((rd_T32 ((rd_T35 t427 x8_2).f0) x9_3).f1.f1), .int .i64 ((rd_T32 ((rd_T35 t427 x8_2).f0) x9_3).f1.f2), .int .i64 ((rd_T32 ((rd_T35 t427 x8_2).f0) x9_3).f1.f3)] 32 (0, 0))) := ⟨by (with_reducible repeat (first | refine blk_drewN ?_ _ | refine blk_drew ?_ | refine blk_alloc ?_ _)); refine blk_far ?_ (by have h_ := Kd.R_ne HO_7.out BK442.out (by decide); intro e_; exact h_ (by rw [e_]; rfl)) _; (with_reducible repeat (first | refine blk_drewN ?_ _ | refine blk_drew ?_ | refine blk_alloc ?_ _)); exact BK442.out⟩
       have n4_ : Aside0 (Below w.heap.size w (w54.setCell ⟨go31, (((rd_T32 ((rd_T35 t427 x8_2).f0) x9_3).f1.f2) : Int).toNat, none⟩ (.int .i64 (wrap64 ((rd x7_3 ((rd_T32 ((rd_T35 t427 x8_2).f0) x9_3).f1.f2)) + 1))))) := ⟨by repeat (first | (with_reducible first | exact HB.out | apply below_alloc | apply pw_below_drewN | apply below_drew1 | refine below_set ?_ GB31.out | refine below_set ?_ GE442.out) | exact HB.out)⟩
       (try clear HO_3)
       (try clear HO_7)
       (try clear HL440_0)
       (try clear BK442)
       (try clear HB)
       generalize (w54.setCell ⟨go31, (((rd_T32 ((rd_T35 t427 x8_2).f0) x9_3).f1.f2) : Int).toNat, none⟩ (.int .i64 (wrap64 ((rd x7_3 ((rd_T32 ((rd_T35 t427 x8_2).f0) x9_3).f1.f2)) + 1)))) = w57 at n0_ n1_ n2_ n3_ n4_ ⊢
       have HO_3 := n0_
       have HO_7 := n1_
       have HL440_0 := n2_
       have BK442 := n3_
       have HB := n4_
       clear n0_ n1_ n2_ n3_ n4_
       have hcz58_0 : w57.cell? ⟨gb442, 0, none⟩ = some (.int .i64 ((rd_T32 ((rd_T35 t427 x8_2).f0) x9_3).f0)) := (blk_cell BK442.out 0).trans rfl
       have hcz58_1 : w57.cell? ⟨gb442, 1, none⟩ = some (.int .i64 ((rd_T32 ((rd_T35 t427 x8_2).f0) x9_3).f1.f0)) := (blk_cell BK442.out 1).trans rfl
       have hcz58_2 : w57.cell? ⟨gb442, 2, none⟩ = some (.int .i64 ((rd_T32 ((rd_T35 t427 x8_2).f0) x9_3).f1.f1)) := (blk_cell BK442.out 2).trans rfl
       have hcz58_3 : w57.cell? ⟨gb442, 3, none⟩ = some (.int .i64 ((rd_T32 ((rd_T35 t427 x8_2).f0) x9_3).f1.f2)) := (blk_cell BK442.out 3).trans rfl
       have hcz58_4 : w57.cell? ⟨gb442, 4, none⟩ = some (.int .i64 ((rd_T32 ((rd_T35 t427 x8_2).f0) x9_3).f1.f3)) := (blk_cell BK442.out 4).trans rfl
       obtain ⟨hfz58_0, hfz58_1, hfz58_2, hfz58_3, hfz58_4⟩ := f5 BK442.out
       try go_wp2_with (first | (refine gl 84 Try.func8 #[.slice (some ad440) t427.length co7, .int .i64 ((rd_T32 ((rd_T35 t427 x8_2).f0) x9_3).f1.f2)] rfl ?_; (with_reducible refine (impl_FindLast.calls _ _ t427 ((rd_T32 ((rd_T35 t427 x8_2).f0) x9_3).f1.f2) t445 t446 t447 t448 true _ ?side1 ?side2 A32.out).mono ?_); (case side1 => repeat (first | exact (Kd.V_reads' HO_3.out).2.2 | (with_reducible refine Kd.C_alloc ?_ _) | (with_reducible refine Kd.C_drewN ?_ _) | (with_reducible refine Kd.C_drew ?_))); (case side2 => exact (Kd.V_reads' HO_3.out).2.1); rintro e w59 ⟨rfl, hb⟩; refine ⟨_, rfl, ?_⟩; replace HO_3 := am (Kd.V_below (by (with_reducible repeat (first | apply Kd.V_alloc | apply Kd.V_drewN | apply Kd.V_drew)); exact HO_3.out) hb); replace HO_7 := am (Kd.R_below (pr HO_7.out) hb); replace HL440_0 := am (Kd.V_below (by (with_reducible repeat (first | apply Kd.V_alloc | apply Kd.V_drewN | apply Kd.V_drew)); exact HL440_0.out) hb); replace BK442 := am (blk_below (pb BK442.out) hb); replace HB := am (below_step (bg1 HB.out GE442.out) hb); (try clear hb); (try clear hb2); (try clear hk); (try clear hi)) | (refine bx 11 #[.int .i64 0, .int .i64 0, .int .i64 0, .int .i64 0] 30 rfl ?_; intro gb450 hg w60 hbox hb; replace HO_3 := am (Kd.V_below (Kd.V_elderB (by (with_reducible repeat (first | apply Kd.V_alloc | apply Kd.V_drewN | apply Kd.V_drew)); exact HO_3.out) gb450 (Nat.le_of_eq hg.symm)) hb); replace HO_7 := am (Kd.R_below (pr HO_7.out) hb); replace HL440_0 := am (Kd.V_below (Kd.V_elderB (by (with_reducible repeat (first | apply Kd.V_alloc | apply Kd.V_drewN | apply Kd.V_drew)); exact HL440_0.out) gb450 (Nat.le_of_eq hg.symm)) hb); have BK450 := am (hbox); have GW450 := am ((by rw [hg]; exact (below_size (bg1 HB.out GE442.out)) : w.heap.size ≤ gb450)); have GE450 := GW450; replace HB := am (below_step (bg1 HB.out GE442.out) hb); have NB442_450 := am ((by rw [hg]; exact Nat.ne_of_lt (blk_lt (pb BK442.out)) : gb442 ≠ gb450)); have NB450_442 := am (Ne.symm NB442_450.out); replace BK442 := am (blk_below (pb BK442.out) hb); clear hb hbox hg; have hnb61 := NB450_442.out; have hnc61 := NB442_450.out; obtain ⟨hcz62_0, hcz62_1, hcz62_2, hcz62_3⟩ := b4 BK450.out; obtain ⟨hfz62_0, hfz62_1, hfz62_2, hfz62_3⟩ := f4 BK450.out; have hcz63_0 : w60.cell? ⟨gb442, 0, none⟩ = some (.int .i64 ((rd_T32 ((rd_T35 t427 x8_2).f0) x9_3).f0)) := (blk_cell BK442.out 0).trans rfl; have hcz63_1 : w60.cell? ⟨gb442, 1, none⟩ = some (.int .i64 ((rd_T32 ((rd_T35 t427 x8_2).f0) x9_3).f1.f0)) := (blk_cell BK442.out 1).trans rfl; have hcz63_2 : w60.cell? ⟨gb442, 2, none⟩ = some (.int .i64 ((rd_T32 ((rd_T35 t427 x8_2).f0) x9_3).f1.f1)) := (blk_cell BK442.out 2).trans rfl; have hcz63_3 : w60.cell? ⟨gb442, 3, none⟩ = some (.int .i64 ((rd_T32 ((rd_T35 t427 x8_2).f0) x9_3).f1.f2)) := (blk_cell BK442.out 3).trans rfl; have hcz63_4 : w60.cell? ⟨gb442, 4, none⟩ = some (.int .i64 ((rd_T32 ((rd_T35 t427 x8_2).f0) x9_3).f1.f3)) := (blk_cell BK442.out 4).trans rfl; obtain ⟨hfz63_0, hfz63_1, hfz63_2, hfz63_3, hfz63_4⟩ := f5 BK442.out))
       go_roundg k3
       case measure => have := HJ4.out; have := HK2.out; have := HK3.out; omega
       case rel => exact ⟨(y444), (wrap64 (x9_3 + 1)), rf, H', ⟨by have := HJ4.out; have := HK2.out; have := HK3.out; omega⟩, ⟨by (with_reducible repeat (first | apply Kd.V_alloc | apply Kd.V_drewN | apply Kd.V_drew)); exact Kd.V_mono (Kd.V_far (p := ⟨gb450, 3, none⟩) (Kd.V_far (p := ⟨gb450, 2, none⟩) (Kd.V_far (p := ⟨gb450, 1, none⟩) (Kd.V_far (p := ⟨gb450, 0, none⟩) (Kd.V_mono HO_3.out (fun k_ hk => (⟨hk, hk.2⟩ : _ ∧ k_ ≠ gb450))) (fun _ hk => hk.2) (.int .i64 t445)) (fun _ hk => hk.2) (.int .i64 t446)) (fun _ hk => hk.2) (.int .i64 t447)) (fun _ hk => hk.2) (.int .i64 t448)) (fun _ hk => hk.1.1.1)⟩, ⟨by (with_reducible repeat (first | apply Kd.R_alloc | apply Kd.R_drewN | apply Kd.R_drew)); exact Kd.R_mono (Kd.R_far (p := ⟨gb450, 3, none⟩) (Kd.R_far (p := ⟨gb450, 2, none⟩) (Kd.R_far (p := ⟨gb450, 1, none⟩) (Kd.R_far (p := ⟨gb450, 0, none⟩) (Kd.R_types HO_7.out BK450.out (by decide)) (fun _ hk => hk.2) (.int .i64 t445)) (fun _ hk => hk.2) (.int .i64 t446)) (fun _ hk => hk.2) (.int .i64 t447)) (fun _ hk => hk.2) (.int .i64 t448)) (fun _ hk => trivial)⟩, ⟨bg2 HB.out GE442.out GE450.out⟩⟩
def laws_FnLive.Pure : Prop := ∀ (l0 : List Int), l0.length ≤ maxLen → l0.length * 1 ≤ 140737488351232 → (∀ x ∈ l0, (Lit.int .u8 x).wf = true) → ∃ k, laws_FnLive.f k l0 = some true
theorem laws_FnLive.walk (P : laws_FnLive.Pure) (a0 : Option Addr) (len0 cap0 : Nat) (z0 : List Int) (w : World) (w0 : (a0 = none ∧ len0 = 0 ∧ cap0 = 0 ∧ z0 = []) ∨ ∃ x, a0 = some x ∧ len0 ≤ cap0 ∧ cap0 ≤ maxLen ∧ z0.length = cap0 ∧ (∀ i, i < z0.length → w.cell? (x.add i) = some (.int .u8 (z0.getD i 0))) ∧ ∀ n ∈ z0, (Lit.int .u8 n).wf = true) (y0 : len0 * 1 ≤ 140737488351232) :
 Calls Try.prog 3 #[.slice a0 len0 cap0] w fun e w' => e = .returned (.bool true) ∧ Below w.heap.size w w' := by
 obtain ⟨l0, rfl, hr0, hm0, hw0, hc0⟩ := ReadsInt.ofRowC w0
 obtain ⟨k, h⟩ := P l0 hm0 y0 hw0
 refine (laws_FnLive.calls k _ _ l0 true w (Kd.C_of_reads (d := (0 : Int)) (h1 := fun _ => rfl) hr0) hc0 h).mono ?_
 rintro e w' ⟨rfl, hd⟩
 exact ⟨rfl, hd⟩
end Go.Proofs.Ytcanhdofmbekeaa.Rp
