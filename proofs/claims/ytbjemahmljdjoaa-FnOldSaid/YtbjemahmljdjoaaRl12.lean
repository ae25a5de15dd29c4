-- printed by wip/pp/pp.py
import Derived.Test.YtbjemahmljdjoaaRl0
import Derived.Test.YtbjemahmljdjoaaRl9
import Derived.Test.YtbjemahmljdjoaaRl10
import Derived.Test.YtbjemahmljdjoaaRl11
namespace Go.Proofs.Ytbjemahmljdjoaa.Rl
open Go.RowKit Go.Proofs.YtbjemahmljdjoaaW.PrintWords Go.Proofs.YtbjemahmljdjoaaW.PrintLast Go.Proofs.YtbjemahmljdjoaaW.PrintMore
attribute [local go_sem] max2_int min2_int max_two min_two max_three min_three max_four min_four
set_option linter.unusedVariables false
set_option linter.unusedSimpArgs false
mutual
def laws_FnOld.j0 : Nat → List (S34) → Int → Bool → Option (Bool)
 | 0, _, _, _ => none
 | k + 1, x3, x4, x24 => if x24 = true then ((spec_FindOld.f k x3).bind fun t437 => (some (x4 == t437))) else (if 4 ≤ 35184372088832 then (laws_FnOld.l0 k x3 x4 (List.replicate 4 0) 0) else (none))
def laws_FnOld.l0 : Nat → List (S34) → Int → List Int → Int → Option (Bool)
 | 0, _, _, _, _ => none
 | k + 1, x3, x4, x5, x6 => if x6 < (x3.length : Int) then (laws_FnOld.l1 k x3 x4 x5 x6 0) else (laws_FnOld.l2 k x3 x4 x5 0)
def laws_FnOld.l1 : Nat → List (S34) → Int → List Int → Int → Int → Option (Bool)
 | 0, _, _, _, _, _ => none
 | k + 1, x3, x4, x5, x6, x7 => if x7 < 4 then (if 0 ≤ x6 then (if x6 < (x5.length : Int) then (if x6 < (x3.length : Int) then (if 0 ≤ x7 then (if x7 < (((rd_T34 x3 x6).f0).length : Int) then (laws_FnOld.l1 k x3 x4 (x5.set (x6 : Int).toNat (mx (rd x5 x6) ((rd_T31 ((rd_T34 x3 x6).f0) x7).f1.f1))) x6 (wrap64 (x7 + 1))) else (none)) else (none)) else (none)) else (none)) else (none)) else (laws_FnOld.l0 k x3 x4 x5 (wrap64 (x6 + 1)))
def laws_FnOld.l2 : Nat → List (S34) → Int → List Int → Int → Option (Bool)
 | 0, _, _, _, _ => none
 | k + 1, x3, x4, x5, x8 => if x8 < (x3.length : Int) then (if 0 ≤ x8 then (if x8 < (x5.length : Int) then (if 0 ≤ x4 then (if x4 < (x5.length : Int) then (if (rd x5 x8) < (rd x5 x4) then (some false) else (if x8 < x4 then (if (rd x5 x8) = (rd x5 x4) then (some false) else (laws_FnOld.l2 k x3 x4 x5 (wrap64 (x8 + 1)))) else (laws_FnOld.l2 k x3 x4 x5 (wrap64 (x8 + 1))))) else (none)) else (none)) else (none)) else (none)) else (some true)
end
def laws_FnOld.f (k : Nat) (l0 : List Int) : Option (Bool) := if (l0.length : Int) > 1048576 then (some true) else ((spec_DrawFindOld.f k l0).bind fun t431 => ((impl_FindOld.f t431).bind fun t434 => ((spec_FindOld.f k t431).bind fun t435 => (if t434 = t435 then ((spec_FlashOk.f t431).bind fun t436 => (laws_FnOld.j0 k t431 t434 (!t436))) else (laws_FnOld.j0 k t431 t434 true)))))
theorem laws_FnOld.mono_l : ∀ k, (∀ y0 y1 y2, LeO (laws_FnOld.j0 k y0 y1 y2) (laws_FnOld.j0 (k + 1) y0 y1 y2)) ∧ (∀ y0 y1 y2 y3, LeO (laws_FnOld.l0 k y0 y1 y2 y3) (laws_FnOld.l0 (k + 1) y0 y1 y2 y3)) ∧ (∀ y0 y1 y2 y3 y4, LeO (laws_FnOld.l1 k y0 y1 y2 y3 y4) (laws_FnOld.l1 (k + 1) y0 y1 y2 y3 y4)) ∧ (∀ y0 y1 y2 y3, LeO (laws_FnOld.l2 k y0 y1 y2 y3) (laws_FnOld.l2 (k + 1) y0 y1 y2 y3))
 | 0 => ⟨fun _ _ _ r h => by simp [laws_FnOld.j0] at h, fun _ _ _ _ r h => by simp [laws_FnOld.l0] at h, fun _ _ _ _ _ r h => by simp [laws_FnOld.l1] at h, fun _ _ _ _ r h => by simp [laws_FnOld.l2] at h⟩
 | k + 1 => by
  obtain ⟨ih0, ih1, ih2, ih3⟩ := laws_FnOld.mono_l k
  refine ⟨?_, ?_, ?_, ?_⟩
  · intro y0 y1 y2
    unfold laws_FnOld.j0
    repeat' first
    | (with_reducible exact ih0 _ _ _)
    | (with_reducible exact ih1 _ _ _ _)
    | (with_reducible exact ih2 _ _ _ _ _)
    | (with_reducible exact ih3 _ _ _ _)
    | (with_reducible exact spec_DrawFindOld.mono _ _)
    | (with_reducible exact spec_FindOld.mono _ _)
    | (with_reducible exact LeO.refl _)
    | (with_reducible exact LeO.none _)
    | (with_reducible refine LeO.ite ?_ ?_)
    | (with_reducible refine LeO.bind ?_ (fun _ => ?_))
    | exact ih0 _ _ _
    | exact ih1 _ _ _ _
    | exact ih2 _ _ _ _ _
    | exact ih3 _ _ _ _
    | exact spec_DrawFindOld.mono _ _
    | exact spec_FindOld.mono _ _
    | exact LeO.none _
    | refine LeO.ite ?_ ?_
    | refine LeO.bind ?_ (fun _ => ?_)
  · intro y0 y1 y2 y3
    unfold laws_FnOld.l0
    repeat' first
    | (with_reducible exact ih0 _ _ _)
    | (with_reducible exact ih1 _ _ _ _)
    | (with_reducible exact ih2 _ _ _ _ _)
    | (with_reducible exact ih3 _ _ _ _)
    | (with_reducible exact spec_DrawFindOld.mono _ _)
    | (with_reducible exact spec_FindOld.mono _ _)
    | (with_reducible exact LeO.refl _)
    | (with_reducible exact LeO.none _)
    | (with_reducible refine LeO.ite ?_ ?_)
    | (with_reducible refine LeO.bind ?_ (fun _ => ?_))
    | exact ih0 _ _ _
    | exact ih1 _ _ _ _
    | exact ih2 _ _ _ _ _
    | exact ih3 _ _ _ _
    | exact spec_DrawFindOld.mono _ _
    | exact spec_FindOld.mono _ _
    | exact LeO.none _
    | refine LeO.ite ?_ ?_
    | refine LeO.bind ?_ (fun _ => ?_)
  · intro y0 y1 y2 y3 y4
    unfold laws_FnOld.l1
    repeat' first
    | (with_reducible exact ih0 _ _ _)
    | (with_reducible exact ih1 _ _ _ _)
    | (with_reducible exact ih2 _ _ _ _ _)
    | (with_reducible exact ih3 _ _ _ _)
    | (with_reducible exact spec_DrawFindOld.mono _ _)
    | (with_reducible exact spec_FindOld.mono _ _)
    | (with_reducible exact LeO.refl _)
    | (with_reducible exact LeO.none _)
    | (with_reducible refine LeO.ite ?_ ?_)
    | (with_reducible refine LeO.bind ?_ (fun _ => ?_))
    | exact ih0 _ _ _
    | exact ih1 _ _ _ _
    | exact ih2 _ _ _ _ _
    | exact ih3 _ _ _ _
    | exact spec_DrawFindOld.mono _ _
    | exact spec_FindOld.mono _ _
    | exact LeO.none _
    | refine LeO.ite ?_ ?_
    | refine LeO.bind ?_ (fun _ => ?_)
  · intro y0 y1 y2 y3
    unfold laws_FnOld.l2
    repeat' first
    | (with_reducible exact ih0 _ _ _)
    | (with_reducible exact ih1 _ _ _ _)
    | (with_reducible exact ih2 _ _ _ _ _)
    | (with_reducible exact ih3 _ _ _ _)
    | (with_reducible exact spec_DrawFindOld.mono _ _)
    | (with_reducible exact spec_FindOld.mono _ _)
    | (with_reducible exact LeO.refl _)
    | (with_reducible exact LeO.none _)
    | (with_reducible refine LeO.ite ?_ ?_)
    | (with_reducible refine LeO.bind ?_ (fun _ => ?_))
    | exact ih0 _ _ _
    | exact ih1 _ _ _ _
    | exact ih2 _ _ _ _ _
    | exact ih3 _ _ _ _
    | exact spec_DrawFindOld.mono _ _
    | exact spec_FindOld.mono _ _
    | exact LeO.none _
    | refine LeO.ite ?_ ?_
    | refine LeO.bind ?_ (fun _ => ?_)
theorem laws_FnOld.mono : ∀ a0 k, LeO (laws_FnOld.f k a0) (laws_FnOld.f (k + 1) a0) := by
 intro a0 k
 obtain ⟨ih0, ih1, ih2, ih3⟩ := laws_FnOld.mono_l k
 unfold laws_FnOld.f
 repeat' first
  | (with_reducible exact ih0 _ _ _)
  | (with_reducible exact ih1 _ _ _ _)
  | (with_reducible exact ih2 _ _ _ _ _)
  | (with_reducible exact ih3 _ _ _ _)
  | (with_reducible exact spec_DrawFindOld.mono _ _)
  | (with_reducible exact spec_FindOld.mono _ _)
  | (with_reducible exact LeO.refl _)
  | (with_reducible exact LeO.none _)
  | (with_reducible refine LeO.ite ?_ ?_)
  | (with_reducible refine LeO.bind ?_ (fun _ => ?_))
  | exact ih0 _ _ _
  | exact ih1 _ _ _ _
  | exact ih2 _ _ _ _ _
  | exact ih3 _ _ _ _
  | exact spec_DrawFindOld.mono _ _
  | exact spec_FindOld.mono _ _
  | exact LeO.none _
  | refine LeO.ite ?_ ?_
  | refine LeO.bind ?_ (fun _ => ?_)
def laws_FnOld.T14 : Bool × List (List Nat × List Nat) := (true, [([], []), ([], []), ([], []), ([], []), ([2, 3], [2, 3]), ([4], [4]), ([], []), ([], []), ([6, 7], [6, 7]), ([8], [8]), ([9], [9]), ([], []), ([10, 11], [10, 11]), ([12], [12]), ([13], [13]), ([14], [14]), ([5, 15], [5, 15]), ([0, 1, 0, 1, 2, 3, 4, 5, 6, 7, 8, 9, 10, 11, 12, 13, 14, 15, 16], [0, 1]), ([17, 16, 0, 1, 2, 3, 4, 5, 6, 7, 8, 9, 10, 11, 12, 13, 14, 15, 16], [16, 17])])
def laws_FnOld.B14 : List Nat := [0, 0, 0, 0, 12, 28, 0, 0, 192, 448, 960, 0, 4032, 8128, 16320, 32704, 65532, 131071, 262143]
theorem laws_FnOld.tab14 : rtab .any (opsOf Try.f3 14) = laws_FnOld.T14 := by kernel_rfl
theorem laws_FnOld.bits14 : waitsOk laws_FnOld.T14.2 laws_FnOld.B14 = true := by kernel_rfl
def laws_FnOld.T18 : Bool × List (List Nat × List Nat) := (true, [([], []), ([], []), ([0, 1], [0, 1]), ([2], [2]), ([], []), ([], []), ([4, 5], [4, 5]), ([6], [6]), ([3, 7], [3, 7]), ([8], [8]), ([9], [9]), ([9], [9]), ([10, 11, 9], [9, 10, 11]), ([12, 9, 9], [9, 12]), ([13], [13]), ([13], [13]), ([14, 15, 13], [13, 14, 15]), ([16, 13], [13, 16]), ([13], [13]), ([13], [13]), ([18, 19, 13], [13, 18, 19]), ([20, 13], [13, 20]), ([17, 21, 13], [13, 17, 21]), ([13, 22, 9], [9, 13, 22]), ([9, 23], [9, 23])])
def laws_FnOld.B18 : List Nat := [0, 0, 3, 7, 0, 0, 48, 112, 255, 511, 1023, 1023, 4095, 8191, 16383, 16383, 65535, 131071, 16383, 16383, 802815, 1851391, 4194303, 8388607, 16777215]
theorem laws_FnOld.tab18 : rtab .any (opsOf Try.f3 18) = laws_FnOld.T18 := by kernel_rfl
theorem laws_FnOld.bits18 : waitsOk laws_FnOld.T18.2 laws_FnOld.B18 = true := by kernel_rfl
set_option maxHeartbeats 8000000 in
set_option maxRecDepth 100000 in
theorem laws_FnOld.calls (k : Nat) (A0 : Option Addr) (c0 : Nat) (l0 : List Int) (r : Bool) (w : World) (hr0 : Kd.C (Kd.int .u8) w A0 l0.length l0) (hc0 : l0.length ≤ c0) (h : laws_FnOld.f k l0 = some r) :
 Calls Try.prog 3 #[.slice A0 l0.length c0] w fun e w' => e = .returned (.bool r) ∧ Below w.heap.size w w' := by
 have HR0 := am hr0
 have HC0 := am hc0
 clear hr0 hc0
 have HB := am (Below.refl w.heap.size w)
 have H : (if (l0.length : Int) > 1048576 then (some true) else ((spec_DrawFindOld.f k l0).bind fun t431 => ((impl_FindOld.f t431).bind fun t434 => ((spec_FindOld.f k t431).bind fun t435 => (if t434 = t435 then ((spec_FlashOk.f t431).bind fun t436 => (laws_FnOld.j0 k t431 t434 (!t436))) else (laws_FnOld.j0 k t431 t434 true)))))) = some r := h
 clear h
 by_cases c2 : (l0.length : Int) > 1048576
 · rw [if_pos c2] at H
   have c2b0 := decide_eq_true c2
   have c2b1 : decide (1048576 < l0.length) = true := decide_eq_true (by omega)
   clear c2
   obtain rfl := Option.some.inj H
   go_enter Try.func3, Try.ntmps3
   go_wp2
   go_ret
   exact (rq (ph HB.out))
 rw [if_neg c2] at H
 have c2b0 := decide_eq_false c2
 have c2b1 : decide (1048576 < l0.length) = false := decide_eq_false (by omega)
 clear c2
 replace H := Option.bind_eq_some_iff.mp H
 obtain ⟨t431, A30, H⟩ := H
 replace H : ((impl_FindOld.f t431).bind fun t434 => ((spec_FindOld.f k t431).bind fun t435 => (if t434 = t435 then ((spec_FlashOk.f t431).bind fun t436 => (laws_FnOld.j0 k t431 t434 (!t436))) else (laws_FnOld.j0 k t431 t434 true)))) = some r := H
 have A3 := am A30
 clear A30
 replace H := Option.bind_eq_some_iff.mp H
 obtain ⟨t434, A40, H⟩ := H
 replace H : ((spec_FindOld.f k t431).bind fun t435 => (if t434 = t435 then ((spec_FlashOk.f t431).bind fun t436 => (laws_FnOld.j0 k t431 t434 (!t436))) else (laws_FnOld.j0 k t431 t434 true))) = some r := H
 have A4 := am A40
 clear A40
 have HC5 := am H
 clear H
 go_enter Try.func3, Try.ntmps3
 go_upto_region 5 with (first | (refine gl 13 Try.func4 #[.slice A0 l0.length c0] rfl ?_; (with_reducible refine (spec_DrawFindOld.calls k _ _ l0 t431 _ ?side1 ?side2 A3.out).mono ?_); (case side1 => repeat (first | exact HR0.out | (with_reducible refine Kd.C_alloc ?_ _) | (with_reducible refine Kd.C_drewN ?_ _) | (with_reducible refine Kd.C_drew ?_))); (case side2 => exact HC0.out); rintro e w6 ⟨v432, rfl, ho0, hb⟩; refine ⟨_, rfl, ?_⟩; have HO433 := am (Kd.V_lower (Kd.V_mono (ok' := fun k_ => True) ho0 (fun k_ hk_ => trivial)) (below_size (ph HB.out))); replace HB := am (below_step (ph HB.out) hb); (try clear hb); (try clear hb2); (try clear hk); (try clear hi); (try clear ho0); obtain ⟨Ao7, co7, eo7⟩ := Kd.V_slice HO433.out; subst eo7) | (refine gl 15 Try.func5 #[.slice Ao7 t431.length co7] rfl ?_; (with_reducible refine (impl_FindOld.calls _ _ t431 t434 _ ?side1 ?side2 A4.out).mono ?_); (case side1 => repeat (first | exact (Kd.V_reads' HO433.out).2.2 | (with_reducible refine Kd.C_alloc ?_ _) | (with_reducible refine Kd.C_drewN ?_ _) | (with_reducible refine Kd.C_drew ?_))); (case side2 => exact (Kd.V_reads' HO433.out).2.1); rintro e w8 ⟨rfl, hb⟩; refine ⟨_, rfl, ?_⟩; replace HO433 := am (Kd.V_below (by (with_reducible repeat (first | apply Kd.V_alloc | apply Kd.V_drewN | apply Kd.V_drew)); exact HO433.out) hb); replace HB := am (below_step (ph HB.out) hb); (try clear hb); (try clear hb2); (try clear hk); (try clear hi)))
 (try simp only [Act.put, List.setIfInBounds_toArray, List.set_cons_zero, List.set_cons_succ])
 go_cut [24] (fun v24 wc => ∃ (kq : Nat) (x24_4 : Bool), v24 = .bool x24_4 ∧ Aside0 (laws_FnOld.j0 kq t431 t434 x24_4 = some r) ∧ Aside0 (kq ≤ k) ∧ Aside0 (Kd.V k34 34 wc w.heap.size (fun _ => True) (.slice Ao7 t431.length co7) t431) ∧ Aside0 (Below w.heap.size w wc))
 case first =>
  have H := HC5.out
  clear HC5
  replace H := Option.bind_eq_some_iff.mp H
  obtain ⟨t435, A90, H⟩ := H
  replace H : (if t434 = t435 then ((spec_FlashOk.f t431).bind fun t436 => (laws_FnOld.j0 k t431 t434 (!t436))) else (laws_FnOld.j0 k t431 t434 true)) = some r := H
  have A9 := am A90
  clear A90
  by_cases c10 : t434 = t435
  rotate_left
  · rw [if_neg c10] at H
    have c10b0 : (t434 == t435) = false := beq_eq_false_iff_ne.mpr c10
    have c10b1 : (t434 != t435) = true := bne_iff_ne.mpr c10
    (first | rw [c10b0] | (simp only [i64_w, i32_w]; rw [c10b0]) | skip)
    have H' := am H
    clear H
    go_wp2_with (first | (refine gl 18 Try.func6 #[.slice Ao7 t431.length co7] rfl ?_; (with_reducible refine (spec_FindOld.calls k _ _ t431 t435 _ ?side1 ?side2 A9.out).mono ?_); (case side1 => repeat (first | exact (Kd.V_reads' HO433.out).2.2 | (with_reducible refine Kd.C_alloc ?_ _) | (with_reducible refine Kd.C_drewN ?_ _) | (with_reducible refine Kd.C_drew ?_))); (case side2 => exact (Kd.V_reads' HO433.out).2.1); rintro e w14 ⟨rfl, hb⟩; refine ⟨_, rfl, ?_⟩; replace HO433 := am (Kd.V_below (by (with_reducible repeat (first | apply Kd.V_alloc | apply Kd.V_drewN | apply Kd.V_drew)); exact HO433.out) hb); replace HB := am (below_step (ph HB.out) hb); (try clear hb); (try clear hb2); (try clear hk); (try clear hi)))
    go_meet
    case rel => exact ⟨_, (true), rf, H', ⟨by first | omega | exact Nat.le_refl _⟩, ⟨by (with_reducible repeat (first | apply Kd.V_alloc | apply Kd.V_drewN | apply Kd.V_drew)); exact HO433.out⟩, ⟨ph HB.out⟩⟩
  rw [if_pos c10] at H
  have c10b0 : (t434 == t435) = true := beq_iff_eq.mpr c10
  have c10b1 : (t434 != t435) = false := bne_eq_false_iff_eq.mpr c10
  clear c10
  (first | rw [c10b0] | (simp only [i64_w, i32_w]; rw [c10b0]) | skip)
  replace H := Option.bind_eq_some_iff.mp H
  obtain ⟨t436, A110, H⟩ := H
  replace H : (laws_FnOld.j0 k t431 t434 (!t436)) = some r := H
  have A11 := am A110
  clear A110
  have H' := am H
  clear H
  go_wp2_with (first | (refine gl 18 Try.func6 #[.slice Ao7 t431.length co7] rfl ?_; (with_reducible refine (spec_FindOld.calls k _ _ t431 t435 _ ?side1 ?side2 A9.out).mono ?_); (case side1 => repeat (first | exact (Kd.V_reads' HO433.out).2.2 | (with_reducible refine Kd.C_alloc ?_ _) | (with_reducible refine Kd.C_drewN ?_ _) | (with_reducible refine Kd.C_drew ?_))); (case side2 => exact (Kd.V_reads' HO433.out).2.1); rintro e w12 ⟨rfl, hb⟩; refine ⟨_, rfl, ?_⟩; replace HO433 := am (Kd.V_below (by (with_reducible repeat (first | apply Kd.V_alloc | apply Kd.V_drewN | apply Kd.V_drew)); exact HO433.out) hb); replace HB := am (below_step (ph HB.out) hb); (try clear hb); (try clear hb2); (try clear hk); (try clear hi)) | (go_at_call 7; (with_reducible refine (spec_FlashOk.calls _ _ t431 t436 _ ?side1 ?side2 A11.out).mono ?_); (case side1 => repeat (first | exact (Kd.V_reads' HO433.out).2.2 | (with_reducible refine Kd.C_alloc ?_ _) | (with_reducible refine Kd.C_drewN ?_ _) | (with_reducible refine Kd.C_drew ?_))); (case side2 => exact (Kd.V_reads' HO433.out).2.1); rintro e w13 ⟨rfl, hb⟩; replace HO433 := am (Kd.V_below (by (with_reducible repeat (first | apply Kd.V_alloc | apply Kd.V_drewN | apply Kd.V_drew)); exact HO433.out) hb); replace HB := am (below_step (ph HB.out) hb); (try clear hb); (try clear hb2); (try clear hk); (try clear hi)))
  go_meet
  case rel => exact ⟨_, (!t436), rf, H', ⟨by first | omega | exact Nat.le_refl _⟩, ⟨by (with_reducible repeat (first | apply Kd.V_alloc | apply Kd.V_drewN | apply Kd.V_drew)); exact HO433.out⟩, ⟨ph HB.out⟩⟩
 case rest =>
  clear HC5
  obtain ⟨kq, x24_4, rfl, HA, HJ4, HO_3, HB⟩ := hcut
  cases kq with
  | zero => exact absurd HA.out (by simp [laws_FnOld.j0])
  | succ kj4 =>
   have H := HA.out
   clear HA
   simp only [laws_FnOld.j0] at H
   by_cases c15 : x24_4 = true
   · subst c15
     have H1 : ((spec_FindOld.f kj4 t431).bind fun t437 => (some (t434 == t437))) = some r := by rw [if_pos rfl] at H; exact H
     clear H
     have H := H1
     clear H1
     replace H := Option.bind_eq_some_iff.mp H
     obtain ⟨t437, A160, H⟩ := H
     replace H : (some (t434 == t437)) = some r := H
     have A16 := am A160
     clear A160
     obtain rfl := Option.some.inj H
     go_wp2_with (first | (refine gl 27 Try.func6 #[.slice Ao7 t431.length co7] rfl ?_; (with_reducible refine (spec_FindOld.calls kj4 _ _ t431 t437 _ ?side1 ?side2 A16.out).mono ?_); (case side1 => repeat (first | exact (Kd.V_reads' HO_3.out).2.2 | (with_reducible refine Kd.C_alloc ?_ _) | (with_reducible refine Kd.C_drewN ?_ _) | (with_reducible refine Kd.C_drew ?_))); (case side2 => exact (Kd.V_reads' HO_3.out).2.1); rintro e w17 ⟨rfl, hb⟩; refine ⟨_, rfl, ?_⟩; replace HO_3 := am (Kd.V_below (by (with_reducible repeat (first | apply Kd.V_alloc | apply Kd.V_drewN | apply Kd.V_drew)); exact HO_3.out) hb); replace HB := am (below_step (ph HB.out) hb); (try clear hb); (try clear hb2); (try clear hk); (try clear hi)))
     go_ret
     exact (rq (ph HB.out))
   replace c15 := Bool.eq_false_iff.mpr c15
   subst c15
   have H1 : (if 4 ≤ 35184372088832 then (laws_FnOld.l0 kj4 t431 t434 (List.replicate 4 0) 0) else (none)) = some r := by rw [if_neg (show ¬ (false = true) by decide)] at H; exact H
   clear H
   have H := H1
   clear H1
   by_cases c18 : 4 ≤ 35184372088832
   rotate_left
   · rw [if_neg c18] at H
     exact absurd H (by simp)
   rw [if_pos c18] at H
   have c18b0 := eq_true c18
   have c18b1 := decide_eq_true c18
   clear c18
   obtain ⟨y438, hy438⟩ : ∃ y_ : List Int, y_ = (List.replicate 4 0) := ⟨_, rfl⟩
   replace H : (laws_FnOld.l0 kj4 t431 t434 y438 0) = some r := by first | (rw [hy438]; with_reducible exact H) | (have H2_ := (Option.bind_some _ _).symm.trans H; rw [hy438]; with_reducible exact H2_) | (have H2_ := (Option.bind_some _ _).symm.trans H; with_reducible exact H2_) | with_reducible exact H | (rw [hy438]; exact H) | exact H
   have Ny438 := am hy438
   clear hy438
   have H' := am H
   clear H
   go_wp2_with (first | ((with_reducible refine gate_dst (N := 29) rfl ?_); refine Kd.R_make (Kd.int .i64) _ 3 rfl (N := 29) rfl 27 _ _ rfl 4 rfl rfl Try.underlying27 (.int .i64 0) 8 info3 rfl (by decide) (by omega) 0 (ok := fun _ => True) (okp := fun _ => True) rfl (fun _ hk => hk) trivial (by omega) (by omega) (Below.refl _ _) (Nat.le_refl _) ?_; intro v439 w19 ho20 hb hg_ hnew_; clear hg_ hnew_; (first | rw [← Ny438.out] at ho20 | (simp only [Int.reduceToNat] at ho20; rw [← Ny438.out] at ho20)); replace HO_3 := am (Kd.V_elder' (by (with_reducible repeat (first | apply Kd.V_alloc | apply Kd.V_drewN | apply Kd.V_drew)); exact HO_3.out) (Kd.R_base ho20) hb); have HO440 := am (Kd.R_lower ho20 (below_size (ph HB.out))); replace HB := am (below_step (ph HB.out) hb); clear hb ho20))
   go_loopg [6] kj4 (fun kq v6 w' => ∃ (x5_2 : List Int) (x6_2 : Int), v6 = .int .i64 x6_2 ∧ Aside0 (laws_FnOld.l0 kq t431 t434 x5_2 x6_2 = some r) ∧ Aside0 (kq ≤ kj4) ∧ Aside0 (Kd.V k34 34 w' w.heap.size (fun k_ => some k_ ≠ (v439 : Value).ownBlock) (.slice Ao7 t431.length co7) t431) ∧ Aside0 (Kd.R (Kd.int .i64) 3 w' w.heap.size (fun _ => True) v439 x5_2) ∧ Aside0 (Below w.heap.size w w'))
   case atStart => exact ⟨(y438), (0), rf, H', ⟨Nat.le_refl _⟩, ⟨by (with_reducible repeat (first | apply Kd.V_alloc | apply Kd.V_drewN | apply Kd.V_drew)); exact Kd.V_mono HO_3.out (fun _ hk => hk.2)⟩, ⟨pr HO440.out⟩, ⟨ph HB.out⟩⟩
   case round =>
    clear H'
    obtain ⟨x5_2, x6_2, rfl, HA, HK2, HO_3, HO_5, HB⟩ := hrel
    cases gk with
    | zero => exact absurd HA.out (by simp [laws_FnOld.l0])
    | succ k2 =>
     have H := HA.out
     clear HA
     simp only [laws_FnOld.l0] at H
     by_cases c21 : x6_2 < (t431.length : Int)
     · rw [if_pos c21] at H
       have c21b0 := decide_eq_true c21
       clear c21
       have H' := am H
       clear H
       go_wp2
       go_loopg [7] k2 (fun kq v7 w' => ∃ (x5_3 : List Int) (x7_3 : Int), v7 = .int .i64 x7_3 ∧ Aside0 (laws_FnOld.l1 kq t431 t434 x5_3 x6_2 x7_3 = some r) ∧ Aside0 (kq ≤ k2) ∧ Aside0 (Kd.V k34 34 w' w.heap.size (fun k_ => some k_ ≠ (v439 : Value).ownBlock) (.slice Ao7 t431.length co7) t431) ∧ Aside0 (Kd.R (Kd.int .i64) 3 w' w.heap.size (fun _ => True) v439 x5_3) ∧ Aside0 (Below w.heap.size w w'))
       case atStart => exact ⟨(x5_2), (0), rf, H', ⟨Nat.le_refl _⟩, ⟨by (with_reducible repeat (first | apply Kd.V_alloc | apply Kd.V_drewN | apply Kd.V_drew)); exact HO_3.out⟩, ⟨pr HO_5.out⟩, ⟨ph HB.out⟩⟩
       case round =>
        clear H'
        obtain ⟨x5_3, x7_3, rfl, HA, HK3, HO_3, HO_5, HB⟩ := hrel
        cases gk with
        | zero => exact absurd HA.out (by simp [laws_FnOld.l1])
        | succ k3 =>
         have H := HA.out
         clear HA
         simp only [laws_FnOld.l1] at H
         by_cases c22 : x7_3 < 4
         rotate_left
         · rw [if_neg c22] at H
           have c22b0 := decide_eq_false c22
           clear c22
           have H' := am H
           clear H
           go_wp2
           go_roundg k3
           case measure => have := HJ4.out; have := HK2.out; have := HK3.out; omega
           case rel => exact ⟨(x5_3), (wrap64 (x6_2 + 1)), rf, H', ⟨by have := HJ4.out; have := HK2.out; have := HK3.out; omega⟩, ⟨by (with_reducible repeat (first | apply Kd.V_alloc | apply Kd.V_drewN | apply Kd.V_drew)); exact HO_3.out⟩, ⟨pr HO_5.out⟩, ⟨ph HB.out⟩⟩
         rw [if_pos c22] at H
         have c22b0 := decide_eq_true c22
         clear c22
         by_cases c23 : 0 ≤ x6_2
         rotate_left
         · rw [if_neg c23] at H
           exact absurd H (by simp)
         rw [if_pos c23] at H
         have c23b0 := decide_eq_true c23
         clear c23
         by_cases c24 : x6_2 < (x5_3.length : Int)
         rotate_left
         · rw [if_neg c24] at H
           exact absurd H (by simp)
         rw [if_pos c24] at H
         have c24b0 := decide_eq_true c24
         clear c24
         by_cases c25 : x6_2 < (t431.length : Int)
         rotate_left
         · rw [if_neg c25] at H
           exact absurd H (by simp)
         rw [if_pos c25] at H
         have c25b0 := decide_eq_true c25
         clear c25
         by_cases c26 : 0 ≤ x7_3
         rotate_left
         · rw [if_neg c26] at H
           exact absurd H (by simp)
         rw [if_pos c26] at H
         have c26b0 := decide_eq_true c26
         clear c26
         by_cases c27 : x7_3 < (((rd_T34 t431 x6_2).f0).length : Int)
         rotate_left
         · rw [if_neg c27] at H
           exact absurd H (by simp)
         rw [if_pos c27] at H
         have c27b0 := decide_eq_true c27
         clear c27
         obtain ⟨ji28, hji28⟩ : ∃ j_ : Int, (mx (rd x5_3 x6_2) ((rd_T31 ((rd_T34 t431 x6_2).f0) x7_3).f1.f1)) = j_ := ⟨_, rfl⟩
         replace H : (laws_FnOld.l1 k3 t431 t434 (x5_3.set (x6_2 : Int).toNat (ji28)) x6_2 (wrap64 (x7_3 + 1))) = some r := by first | (rw [hji28] at H; exact H) | (simp only [hji28] at H ⊢; exact H)
         have hji28_ : (if (rd x5_3 x6_2) < ((rd_T31 ((rd_T34 t431 x6_2).f0) x7_3).f1.f1) then ((rd_T31 ((rd_T34 t431 x6_2).f0) x7_3).f1.f1) else (rd x5_3 x6_2)) = ji28 := hji28
         obtain ⟨y444, hy444⟩ : ∃ y_ : List Int, y_ = (x5_3.set (x6_2 : Int).toNat (ji28)) := ⟨_, rfl⟩
         replace H : (laws_FnOld.l1 k3 t431 t434 y444 x6_2 (wrap64 (x7_3 + 1))) = some r := by first | (rw [hy444]; with_reducible exact H) | (have H2_ := (Option.bind_some _ _).symm.trans H; rw [hy444]; with_reducible exact H2_) | (have H2_ := (Option.bind_some _ _).symm.trans H; with_reducible exact H2_) | with_reducible exact H | (rw [hy444]; exact H) | exact H
         have Ny444 := am hy444
         clear hy444
         have H' := am H
         clear H
         try go_wp2
         replace HO_3 := am (Kd.V_drew HO_3.out)
         replace HO_5 := am (Kd.R_drew HO_5.out)
         replace HB := am (below_drew1 HB.out)
         obtain ⟨Ao31, co31, eo31⟩ := Kd.R_slice HO_5.out
         (first | subst eo31 | (injection eo31 with f1_ f2_ f3_; have f4_ := f1_.symm; have f5_ := f3_.symm; clear f1_ f2_ f3_; subst f4_; subst f5_))
         have p441 : 0 ≤ (x6_2 : Int) := ofb
         have q441 : x6_2 < (x5_3.length : Int) := ofb
         obtain ⟨ad441, e441, hx441_0⟩ := Kd.at_int (Kd.R_reads' HO_5.out).2.2 x6_2 p441 q441
         cases e441
         replace p441 := eq_true p441
         replace q441 := eq_true q441
         have p442 : 0 ≤ (x6_2 : Int) := ofb
         have q442 : x6_2 < (t431.length : Int) := ofb
         obtain ⟨ad442, A442_0, c442_0, e442, hx442_0, hx442_1, hl442_0, hi442_0⟩ := at_T34 (Kd.V_reads' HO_3.out).2.2 x6_2 p442 q442
         cases e442
         obtain ⟨ce442, hce442, hMe442, hcc442⟩ := Kd.V_get HO_3.out z34 x6_2 p442 (by first | exact q442 | exact ofb | (have e_ := (Kd.V_reads' HO_3.out).1; omega))
         obtain ⟨ua442_0, uc442_0, rfl, ul442_0, ge442_0⟩ := k34_openF hMe442
         have hv442_0 := hcc442 0 _ rfl
         rw [Nat.add_zero] at hv442_0
         replace hv442_0 := Option.some.inj (hv442_0.symm.trans hx442_0)
         injection hv442_0 with hva_ hvn_ hvc_
         rw [hva_] at ge442_0
         rw [hvc_] at ul442_0
         have HL442_0 := am (show Kd.V k31 31 _ w.heap.size _ _ ((rd_T34 t431 x6_2).f0) from Kd.V_mk ul442_0 ge442_0)
         clear hva_ hvn_ hvc_ ge442_0 ul442_0
         clear hcc442 hce442
         have HR442_0 := am hi442_0
         have HC442_0 := am hl442_0
         clear hi442_0 hl442_0
         replace p442 := eq_true p442
         replace q442 := eq_true q442
         have p443 : 0 ≤ (x7_3 : Int) := ofb
         have q443 : x7_3 < (((rd_T34 t431 x6_2).f0).length : Int) := ofb
         obtain ⟨ad443, e443, hx443_0, hx443_1, hx443_2, hx443_3, hx443_4⟩ := at_T31 (by repeat (first | (with_reducible exact HR442_0.out) | (with_reducible refine Kd.C_alloc ?_ _) | (with_reducible refine Kd.C_drewN ?_ _) | (with_reducible refine Kd.C_drew ?_) | exact HR442_0.out)) x7_3 p443 q443
         cases e443
         replace p443 := eq_true p443
         replace q443 := eq_true q443
         have p29 : 0 ≤ (x6_2 : Int) := ofb
         have q29 : (x6_2 : Int) < ((x5_3.length : Int) : Int) := ofb
         obtain ⟨go29, co29, eo29, gb29, gl29, cl29, HG29⟩ := Kd.R_form HO_5.out (by omega)
         (first | cases eo29 | (injection eo29 with ea_ en_ ec_; (first | subst ea_ | (injection ea_ with ea_; subst ea_)); subst ec_; clear en_))
         have GB29 := am gb29
         have GG29 := am HG29
         clear gb29 gl29 HG29
         (first | simp only [add_plain] at hx441_0 | skip)
         obtain ⟨hx29_0, hf29_0⟩ := Kd.R_celln 0 HO_5.out (x6_2 : Int) p29 q29
         replace p29 := eq_true p29
         replace q29 := eq_true q29
         have HP32 := Kd.R_putn HO_5.out (x6_2 : Int) ji28
         rw [← Ny444.out] at HP32
         have HQ32 := am HP32
         clear HP32
         refine start_ (n := 19) (S := fun w' => w'.cell? ⟨go29, (x6_2).toNat, none⟩ = some (.int .i64 (rd x5_3 x6_2)) ∧ w'.cell? (ad442.add ((x6_2).toNat * 2)) = some (.slice (some ad443) ((rd_T34 t431 x6_2).f0).length c442_0) ∧ w'.cell? ⟨(ad442.add ((x6_2).toNat * 2)).block, (ad442.add ((x6_2).toNat * 2)).off + 1, none⟩ = some (.int .i64 ((rd_T34 t431 x6_2).f1)) ∧ w'.cell? (ad443.add ((x7_3).toNat * 5)) = some (.int .i64 ((rd_T31 ((rd_T34 t431 x6_2).f0) x7_3).f0)) ∧ w'.cell? ⟨(ad443.add ((x7_3).toNat * 5)).block, (ad443.add ((x7_3).toNat * 5)).off + 1, none⟩ = some (.int .i64 ((rd_T31 ((rd_T34 t431 x6_2).f0) x7_3).f1.f0)) ∧ w'.cell? ⟨(ad443.add ((x7_3).toNat * 5)).block, (ad443.add ((x7_3).toNat * 5)).off + 2, none⟩ = some (.int .i64 ((rd_T31 ((rd_T34 t431 x6_2).f0) x7_3).f1.f1)) ∧ w'.cell? ⟨(ad443.add ((x7_3).toNat * 5)).block, (ad443.add ((x7_3).toNat * 5)).off + 3, none⟩ = some (.int .i64 ((rd_T31 ((rd_T34 t431 x6_2).f0) x7_3).f1.f2)) ∧ w'.cell? ⟨(ad443.add ((x7_3).toNat * 5)).block, (ad443.add ((x7_3).toNat * 5)).off + 4, none⟩ = some (.int .i64 ((rd_T31 ((rd_T34 t431 x6_2).f0) x7_3).f1.f3))) (ds := [18]) #[false, false, false, false, false, false, false, false, false, false, false, false, false, false, false, false, false, false, false] (by kernel_rfl) rfl rfl ⟨hx441_0, hx442_0, hx442_1, hx443_0, hx443_1, hx443_2, hx443_3, hx443_4⟩ (fun hHeld => ?_); refine with_tabW laws_FnOld.tab14 laws_FnOld.bits14 (fun HT_ HW_ => ?_)
         generalize wr.drew = w30 at HO_3 HO_5 HB GG29 HL442_0 HQ32 HR442_0 hf29_0 hx29_0 hx441_0 hx442_0 hx442_1 hx443_0 hx443_1 hx443_2 hx443_3 hx443_4 hHeld ⊢
         refine pj_ 0 40 #[true, false, false, false, false, false, false, false, false, false, false, false, false, false, false, false, false, false, false] rfl rfl (any_of HT_.out (by kernel_rfl)) (fun _ _ _ h => h) ?_
         refine pj_ 1 41 #[true, true, false, false, false, false, false, false, false, false, false, false, false, false, false, false, false, false, false] rfl rfl (any_of HT_.out (by kernel_rfl)) (fun _ _ _ h => h) ?_
         refine pj_ 2 42 #[true, true, true, false, false, false, false, false, false, false, false, false, false, false, false, false, false, false, false] rfl rfl (any_of HT_.out (by kernel_rfl)) (fun _ _ _ h => h) ?_
         refine pj_ 3 43 #[true, true, true, true, false, false, false, false, false, false, false, false, false, false, false, false, false, false, false] rfl rfl (any_of HT_.out (by kernel_rfl)) (fun _ _ _ h => h) ?_
         refine pj_ 4 44 #[true, true, true, true, true, false, false, false, false, false, false, false, false, false, false, false, false, false, false] rfl rfl (any_of HT_.out (by kernel_rfl)) (fun _ _ _ h => h) ?_
         refine pj_ 6 46 #[true, true, true, true, true, false, true, false, false, false, false, false, false, false, false, false, false, false, false] rfl rfl (any_of HT_.out (by kernel_rfl)) (fun _ _ _ h => h) ?_
         refine pj_ 7 47 #[true, true, true, true, true, false, true, true, false, false, false, false, false, false, false, false, false, false, false] rfl rfl (any_of HT_.out (by kernel_rfl)) (fun _ _ _ h => h) ?_
         refine pj_ 8 48 #[true, true, true, true, true, false, true, true, true, false, false, false, false, false, false, false, false, false, false] rfl rfl (any_of HT_.out (by kernel_rfl)) (fun _ _ _ h => h) ?_
         refine pj_ 9 49 #[true, true, true, true, true, false, true, true, true, true, false, false, false, false, false, false, false, false, false] rfl rfl (any_of HT_.out (by kernel_rfl)) (fun _ _ _ h => h) ?_
         refine pj_ 11 51 #[true, true, true, true, true, false, true, true, true, true, false, true, false, false, false, false, false, false, false] rfl rfl (any_of HT_.out (by kernel_rfl)) (fun _ _ _ h => h) ?_
         refine pm_ 5 45 #[true, true, true, true, true, true, true, true, true, true, false, true, false, false, false, false, false, false, false] rfl rfl (take_ofW HT_.out HW_.out (by kernel_rfl)) (fun _ _ _ h => h) hHeld ?_
         refine pm_ 10 50 #[true, true, true, true, true, true, true, true, true, true, true, true, false, false, false, false, false, false, false] rfl rfl (take_ofW HT_.out HW_.out (by kernel_rfl)) (fun _ _ _ h => h) hHeld ?_
         refine pj_ 12 52 #[true, true, true, true, true, true, true, true, true, true, true, true, true, false, false, false, false, false, false] rfl rfl (any_of HT_.out (by kernel_rfl)) (fun _ _ _ h => h) ?_
         refine pj_ 13 53 #[true, true, true, true, true, true, true, true, true, true, true, true, true, true, false, false, false, false, false] rfl rfl (any_of HT_.out (by kernel_rfl)) (fun _ _ _ h => h) ?_
         refine pj_ 14 54 #[true, true, true, true, true, true, true, true, true, true, true, true, true, true, true, false, false, false, false] rfl rfl (any_of HT_.out (by kernel_rfl)) (fun _ _ _ h => h) ?_
         refine pm_ 15 55 #[true, true, true, true, true, true, true, true, true, true, true, true, true, true, true, true, false, false, false] rfl rfl (take_ofW HT_.out HW_.out (by kernel_rfl)) (fun _ _ _ h => h) hHeld ?_
         refine pj_ 16 56 #[true, true, true, true, true, true, true, true, true, true, true, true, true, true, true, true, true, false, false] rfl rfl (any_of HT_.out (by kernel_rfl)) (fun _ _ _ h => h) ?_
         refine pj_ 17 57 #[true, true, true, true, true, true, true, true, true, true, true, true, true, true, true, true, true, true, false] rfl rfl (any_of HT_.out (by kernel_rfl)) (fun _ _ _ h => h) ?_
         refine last_ (i := 18) (N := none) #[true, true, true, true, true, true, true, true, true, true, true, true, true, true, true, true, true, true, true] rfl rfl (one_of HT_.out (by kernel_rfl)) (by decide) (fun K hK => ?_)
         refine skip_ (w1 := ?_) (by rfl) rfl ?_ ?_
         rotate_left
         · go_simp
           rfl
         refine hK.out _ _ ?_
         clear hK K
         refine done_ (done_of HT_.out (by kernel_rfl)) ?_
         try go_wp2
         go_roundg k3
         case measure => have := HJ4.out; have := HK2.out; have := HK3.out; omega
         case rel => exact ⟨(y444), (wrap64 (x7_3 + 1)), rf, H', ⟨by have := HJ4.out; have := HK2.out; have := HK3.out; omega⟩, ⟨by (with_reducible repeat (first | apply Kd.V_alloc | apply Kd.V_drewN | apply Kd.V_drew)); exact Kd.V_mono (Kd.V_far (p := ⟨go29, (x6_2 : Int).toNat, none⟩) (Kd.V_mono HO_3.out (fun k_ hk => (⟨hk, fun e_ => hk (by rw [e_]; rfl)⟩ : _ ∧ k_ ≠ go29))) (fun _ hk => hk.2) (.int .i64 ji28)) (fun _ hk => hk.1)⟩, ⟨pr HQ32.out⟩, ⟨by repeat (first | (with_reducible first | exact HB.out | apply below_alloc | apply pw_below_drewN | apply below_drew1 | refine below_set ?_ GB29.out) | exact HB.out)⟩⟩
     rw [if_neg c21] at H
     have c21b0 := decide_eq_false c21
     clear c21
     have H' := am H
     clear H
     go_wp2
     go_loopg [8] k2 (fun kq v8 w' => ∃ (x8_3 : Int), v8 = .int .i64 x8_3 ∧ Aside0 (laws_FnOld.l2 kq t431 t434 x5_2 x8_3 = some r) ∧ Aside0 (kq ≤ k2) ∧ Aside0 (Kd.V k34 34 w' w.heap.size (fun k_ => some k_ ≠ (v439 : Value).ownBlock) (.slice Ao7 t431.length co7) t431) ∧ Aside0 (Kd.R (Kd.int .i64) 3 w' w.heap.size (fun _ => True) v439 x5_2) ∧ Aside0 (Below w.heap.size w w'))
     case atStart => exact ⟨(0), rf, H', ⟨Nat.le_refl _⟩, ⟨by (with_reducible repeat (first | apply Kd.V_alloc | apply Kd.V_drewN | apply Kd.V_drew)); exact HO_3.out⟩, ⟨pr HO_5.out⟩, ⟨ph HB.out⟩⟩
     case round =>
      clear H'
      obtain ⟨x8_3, rfl, HA, HK3, HO_3, HO_5, HB⟩ := hrel
      cases gk with
      | zero => exact absurd HA.out (by simp [laws_FnOld.l2])
      | succ k3 =>
       have H := HA.out
       clear HA
       simp only [laws_FnOld.l2] at H
       by_cases c33 : x8_3 < (t431.length : Int)
       rotate_left
       · rw [if_neg c33] at H
         have c33b0 := decide_eq_false c33
         clear c33
         obtain rfl := Option.some.inj H
         go_wp2
         go_ret
         exact (rq (ph HB.out))
       rw [if_pos c33] at H
       have c33b0 := decide_eq_true c33
       clear c33
       by_cases c34 : 0 ≤ x8_3
       rotate_left
       · rw [if_neg c34] at H
         exact absurd H (by simp)
       rw [if_pos c34] at H
       have c34b0 := decide_eq_true c34
       clear c34
       by_cases c35 : x8_3 < (x5_2.length : Int)
       rotate_left
       · rw [if_neg c35] at H
         exact absurd H (by simp)
       rw [if_pos c35] at H
       have c35b0 := decide_eq_true c35
       clear c35
       by_cases c36 : 0 ≤ t434
       rotate_left
       · rw [if_neg c36] at H
         exact absurd H (by simp)
       rw [if_pos c36] at H
       have c36b0 := decide_eq_true c36
       clear c36
       by_cases c37 : t434 < (x5_2.length : Int)
       rotate_left
       · rw [if_neg c37] at H
         exact absurd H (by simp)
       rw [if_pos c37] at H
       have c37b0 := decide_eq_true c37
       clear c37
       by_cases c38 : (rd x5_2 x8_3) < (rd x5_2 t434)
       · rw [if_pos c38] at H
         have c38b0 := decide_eq_true c38
         clear c38
         obtain rfl := Option.some.inj H
         try go_wp2
         replace HO_3 := am (Kd.V_drew HO_3.out)
         replace HO_5 := am (Kd.R_drew HO_5.out)
         replace HB := am (below_drew1 HB.out)
         obtain ⟨Ao40, co40, eo40⟩ := Kd.R_slice HO_5.out
         (first | subst eo40 | (injection eo40 with f1_ f2_ f3_; have f4_ := f1_.symm; have f5_ := f3_.symm; clear f1_ f2_ f3_; subst f4_; subst f5_))
         have p445 : 0 ≤ (x8_3 : Int) := ofb
         have q445 : x8_3 < (x5_2.length : Int) := ofb
         obtain ⟨ad445, e445, hx445_0⟩ := Kd.at_int (Kd.R_reads' HO_5.out).2.2 x8_3 p445 q445
         cases e445
         replace p445 := eq_true p445
         replace q445 := eq_true q445
         have p446 : 0 ≤ (t434 : Int) := ofb
         have q446 : t434 < (x5_2.length : Int) := ofb
         obtain ⟨ad446, e446, hx446_0⟩ := Kd.at_int (Kd.R_reads' HO_5.out).2.2 t434 p446 q446
         obtain rfl : ad445 = ad446 := (by injection e446)
         replace p446 := eq_true p446
         replace q446 := eq_true q446
         refine start_ (n := 25) (S := fun w' => w'.cell? (ad445.add (x8_3).toNat) = some (.int .i64 (rd x5_2 x8_3)) ∧ w'.cell? (ad445.add (t434).toNat) = some (.int .i64 (rd x5_2 t434))) (ds := []) #[false, false, false, false, false, false, false, false, false, false, false, false, false, false, false, false, false, false, false, false, false, false, false, false, false] (by kernel_rfl) rfl rfl ⟨hx445_0, hx446_0⟩ (fun hHeld => ?_); refine with_tabW laws_FnOld.tab18 laws_FnOld.bits18 (fun HT_ HW_ => ?_)
         generalize wr.drew = w39 at HO_3 HO_5 HB hx445_0 hx446_0 hHeld ⊢
         refine pj_ 0 64 #[true, false, false, false, false, false, false, false, false, false, false, false, false, false, false, false, false, false, false, false, false, false, false, false, false] rfl rfl (any_of HT_.out (by kernel_rfl)) (fun _ _ _ h => h) ?_
         refine pj_ 1 65 #[true, true, false, false, false, false, false, false, false, false, false, false, false, false, false, false, false, false, false, false, false, false, false, false, false] rfl rfl (any_of HT_.out (by kernel_rfl)) (fun _ _ _ h => h) ?_
         refine pj_ 2 66 #[true, true, true, false, false, false, false, false, false, false, false, false, false, false, false, false, false, false, false, false, false, false, false, false, false] rfl rfl (any_of HT_.out (by kernel_rfl)) (fun _ _ _ h => h) ?_
         refine pj_ 4 68 #[true, true, true, false, true, false, false, false, false, false, false, false, false, false, false, false, false, false, false, false, false, false, false, false, false] rfl rfl (any_of HT_.out (by kernel_rfl)) (fun _ _ _ h => h) ?_
         refine pj_ 5 69 #[true, true, true, false, true, true, false, false, false, false, false, false, false, false, false, false, false, false, false, false, false, false, false, false, false] rfl rfl (any_of HT_.out (by kernel_rfl)) (fun _ _ _ h => h) ?_
         refine pj_ 6 70 #[true, true, true, false, true, true, true, false, false, false, false, false, false, false, false, false, false, false, false, false, false, false, false, false, false] rfl rfl (any_of HT_.out (by kernel_rfl)) (fun _ _ _ h => h) ?_
         refine pm_ 3 67 #[true, true, true, true, true, true, true, false, false, false, false, false, false, false, false, false, false, false, false, false, false, false, false, false, false] rfl rfl (take_ofW HT_.out HW_.out (by kernel_rfl)) (fun _ _ _ h => h) hHeld ?_
         refine pm_ 7 71 #[true, true, true, true, true, true, true, true, false, false, false, false, false, false, false, false, false, false, false, false, false, false, false, false, false] rfl rfl (take_ofW HT_.out HW_.out (by kernel_rfl)) (fun _ _ _ h => h) hHeld ?_
         refine pj_ 8 72 #[true, true, true, true, true, true, true, true, true, false, false, false, false, false, false, false, false, false, false, false, false, false, false, false, false] rfl rfl (any_of HT_.out (by kernel_rfl)) (fun _ _ _ h => h) ?_
         refine pj_ 9 73 #[true, true, true, true, true, true, true, true, true, true, false, false, false, false, false, false, false, false, false, false, false, false, false, false, false] rfl rfl (any_of HT_.out (by kernel_rfl)) (fun _ _ _ h => h) ?_
         refine pure_ (i := 10) (N := some 74) (v := undef) (a' := ?_) #[true, true, true, true, true, true, true, true, true, true, true, false, false, false, false, false, false, false, false, false, false, false, false, false, false] rfl rfl (any_of HT_.out (by kernel_rfl)) (fun _ _ _ h => h) (Or.inr ⟨by rfl, rfl⟩) ?_ ?_
         rotate_left
         · simp only [Act.put, List.setIfInBounds_toArray, List.set_cons_zero, List.set_cons_succ, i64_w, i32_w]
           rfl
         refine pure_ (i := 11) (N := some 75) (v := undef) (a' := ?_) #[true, true, true, true, true, true, true, true, true, true, true, true, false, false, false, false, false, false, false, false, false, false, false, false, false] rfl rfl (any_of HT_.out (by kernel_rfl)) (fun _ _ _ h => h) (Or.inr ⟨by rfl, rfl⟩) ?_ ?_
         rotate_left
         · simp only [Act.put, List.setIfInBounds_toArray, List.set_cons_zero, List.set_cons_succ, i64_w, i32_w]
           rfl
         refine pure_ (i := 12) (N := some 76) (v := undef) (a' := ?_) #[true, true, true, true, true, true, true, true, true, true, true, true, true, false, false, false, false, false, false, false, false, false, false, false, false] rfl rfl (any_of HT_.out (by kernel_rfl)) (fun _ _ _ h => h) (Or.inr ⟨by rfl, rfl⟩) ?_ ?_
         rotate_left
         · simp only [Act.put, List.setIfInBounds_toArray, List.set_cons_zero, List.set_cons_succ, i64_w, i32_w]
           rfl
         refine pure_ (i := 13) (N := some 77) (v := undef) (a' := ?_) #[true, true, true, true, true, true, true, true, true, true, true, true, true, true, false, false, false, false, false, false, false, false, false, false, false] rfl rfl (any_of HT_.out (by kernel_rfl)) (fun _ _ _ h => h) (Or.inr ⟨by rfl, rfl⟩) ?_ ?_
         rotate_left
         · simp only [Act.put, List.setIfInBounds_toArray, List.set_cons_zero, List.set_cons_succ, i64_w, i32_w]
           rfl
         refine pure_ (i := 14) (N := some 78) (v := undef) (a' := ?_) #[true, true, true, true, true, true, true, true, true, true, true, true, true, true, true, false, false, false, false, false, false, false, false, false, false] rfl rfl (any_of HT_.out (by kernel_rfl)) (fun _ _ _ h => h) (Or.inr ⟨by rfl, rfl⟩) ?_ ?_
         rotate_left
         · simp only [Act.put, List.setIfInBounds_toArray, List.set_cons_zero, List.set_cons_succ, i64_w, i32_w]
           rfl
         refine pure_ (i := 15) (N := some 79) (v := undef) (a' := ?_) #[true, true, true, true, true, true, true, true, true, true, true, true, true, true, true, true, false, false, false, false, false, false, false, false, false] rfl rfl (any_of HT_.out (by kernel_rfl)) (fun _ _ _ h => h) (Or.inr ⟨by rfl, rfl⟩) ?_ ?_
         rotate_left
         · simp only [Act.put, List.setIfInBounds_toArray, List.set_cons_zero, List.set_cons_succ, i64_w, i32_w]
           rfl
         refine pure_ (i := 16) (N := some 80) (v := undef) (a' := ?_) #[true, true, true, true, true, true, true, true, true, true, true, true, true, true, true, true, true, false, false, false, false, false, false, false, false] rfl rfl (any_of HT_.out (by kernel_rfl)) (fun _ _ _ h => h) (Or.inr ⟨by rfl, rfl⟩) ?_ ?_
         rotate_left
         · simp only [Act.put, List.setIfInBounds_toArray, List.set_cons_zero, List.set_cons_succ, i64_w, i32_w]
           rfl
         refine pure_ (i := 17) (N := some 81) (v := undef) (a' := ?_) #[true, true, true, true, true, true, true, true, true, true, true, true, true, true, true, true, true, true, false, false, false, false, false, false, false] rfl rfl (any_of HT_.out (by kernel_rfl)) (fun _ _ _ h => h) (Or.inr ⟨by rfl, rfl⟩) ?_ ?_
         rotate_left
         · simp only [Act.put, List.setIfInBounds_toArray, List.set_cons_zero, List.set_cons_succ, i64_w, i32_w]
           rfl
         refine pure_ (i := 18) (N := some 82) (v := undef) (a' := ?_) #[true, true, true, true, true, true, true, true, true, true, true, true, true, true, true, true, true, true, true, false, false, false, false, false, false] rfl rfl (any_of HT_.out (by kernel_rfl)) (fun _ _ _ h => h) (Or.inr ⟨by rfl, rfl⟩) ?_ ?_
         rotate_left
         · simp only [Act.put, List.setIfInBounds_toArray, List.set_cons_zero, List.set_cons_succ, i64_w, i32_w]
           rfl
         refine pure_ (i := 19) (N := some 83) (v := undef) (a' := ?_) #[true, true, true, true, true, true, true, true, true, true, true, true, true, true, true, true, true, true, true, true, false, false, false, false, false] rfl rfl (any_of HT_.out (by kernel_rfl)) (fun _ _ _ h => h) (Or.inr ⟨by rfl, rfl⟩) ?_ ?_
         rotate_left
         · simp only [Act.put, List.setIfInBounds_toArray, List.set_cons_zero, List.set_cons_succ, i64_w, i32_w]
           rfl
         refine pure_ (i := 20) (N := some 84) (v := undef) (a' := ?_) #[true, true, true, true, true, true, true, true, true, true, true, true, true, true, true, true, true, true, true, true, true, false, false, false, false] rfl rfl (any_of HT_.out (by kernel_rfl)) (fun _ _ _ h => h) (Or.inr ⟨by rfl, rfl⟩) ?_ ?_
         rotate_left
         · simp only [Act.put, List.setIfInBounds_toArray, List.set_cons_zero, List.set_cons_succ, i64_w, i32_w]
           rfl
         refine pure_ (i := 21) (N := some 85) (v := undef) (a' := ?_) #[true, true, true, true, true, true, true, true, true, true, true, true, true, true, true, true, true, true, true, true, true, true, false, false, false] rfl rfl (any_of HT_.out (by kernel_rfl)) (fun _ _ _ h => h) (Or.inr ⟨by rfl, rfl⟩) ?_ ?_
         rotate_left
         · simp only [Act.put, List.setIfInBounds_toArray, List.set_cons_zero, List.set_cons_succ, i64_w, i32_w]
           rfl
         refine pure_ (i := 22) (N := some 86) (v := undef) (a' := ?_) #[true, true, true, true, true, true, true, true, true, true, true, true, true, true, true, true, true, true, true, true, true, true, true, false, false] rfl rfl (any_of HT_.out (by kernel_rfl)) (fun _ _ _ h => h) (Or.inr ⟨by rfl, rfl⟩) ?_ ?_
         rotate_left
         · simp only [Act.put, List.setIfInBounds_toArray, List.set_cons_zero, List.set_cons_succ, i64_w, i32_w]
           rfl
         refine pure_ (i := 23) (N := some 87) (v := undef) (a' := ?_) #[true, true, true, true, true, true, true, true, true, true, true, true, true, true, true, true, true, true, true, true, true, true, true, true, false] rfl rfl (any_of HT_.out (by kernel_rfl)) (fun _ _ _ h => h) (Or.inr ⟨by rfl, rfl⟩) ?_ ?_
         rotate_left
         · simp only [Act.put, List.setIfInBounds_toArray, List.set_cons_zero, List.set_cons_succ, i64_w, i32_w]
           rfl
         refine pj_ 24 88 #[true, true, true, true, true, true, true, true, true, true, true, true, true, true, true, true, true, true, true, true, true, true, true, true, true] rfl rfl (any_of HT_.out (by kernel_rfl)) (fun _ _ _ h => h) ?_
         refine done_ (done_of HT_.out (by kernel_rfl)) ?_
         try go_wp2
         go_ret
         exact (rq (ph HB.out))
       rw [if_neg c38] at H
       have c38b0 := decide_eq_false c38
       clear c38
       by_cases c41 : x8_3 < t434
       rotate_left
       · rw [if_neg c41] at H
         have c41b0 := decide_eq_false c41
         clear c41
         have H' := am H
         clear H
         try go_wp2
         replace HO_3 := am (Kd.V_drew HO_3.out)
         replace HO_5 := am (Kd.R_drew HO_5.out)
         replace HB := am (below_drew1 HB.out)
         obtain ⟨Ao48, co48, eo48⟩ := Kd.R_slice HO_5.out
         (first | subst eo48 | (injection eo48 with f1_ f2_ f3_; have f4_ := f1_.symm; have f5_ := f3_.symm; clear f1_ f2_ f3_; subst f4_; subst f5_))
         have p445 : 0 ≤ (x8_3 : Int) := ofb
         have q445 : x8_3 < (x5_2.length : Int) := ofb
         obtain ⟨ad445, e445, hx445_0⟩ := Kd.at_int (Kd.R_reads' HO_5.out).2.2 x8_3 p445 q445
         cases e445
         replace p445 := eq_true p445
         replace q445 := eq_true q445
         have p446 : 0 ≤ (t434 : Int) := ofb
         have q446 : t434 < (x5_2.length : Int) := ofb
         obtain ⟨ad446, e446, hx446_0⟩ := Kd.at_int (Kd.R_reads' HO_5.out).2.2 t434 p446 q446
         obtain rfl : ad445 = ad446 := (by injection e446)
         replace p446 := eq_true p446
         replace q446 := eq_true q446
         refine start_ (n := 25) (S := fun w' => w'.cell? (ad445.add (x8_3).toNat) = some (.int .i64 (rd x5_2 x8_3)) ∧ w'.cell? (ad445.add (t434).toNat) = some (.int .i64 (rd x5_2 t434))) (ds := []) #[false, false, false, false, false, false, false, false, false, false, false, false, false, false, false, false, false, false, false, false, false, false, false, false, false] (by kernel_rfl) rfl rfl ⟨hx445_0, hx446_0⟩ (fun hHeld => ?_); refine with_tabW laws_FnOld.tab18 laws_FnOld.bits18 (fun HT_ HW_ => ?_)
         generalize wr.drew = w47 at HO_3 HO_5 HB hx445_0 hx446_0 hHeld ⊢
         refine pj_ 0 64 #[true, false, false, false, false, false, false, false, false, false, false, false, false, false, false, false, false, false, false, false, false, false, false, false, false] rfl rfl (any_of HT_.out (by kernel_rfl)) (fun _ _ _ h => h) ?_
         refine pj_ 1 65 #[true, true, false, false, false, false, false, false, false, false, false, false, false, false, false, false, false, false, false, false, false, false, false, false, false] rfl rfl (any_of HT_.out (by kernel_rfl)) (fun _ _ _ h => h) ?_
         refine pj_ 2 66 #[true, true, true, false, false, false, false, false, false, false, false, false, false, false, false, false, false, false, false, false, false, false, false, false, false] rfl rfl (any_of HT_.out (by kernel_rfl)) (fun _ _ _ h => h) ?_
         refine pj_ 4 68 #[true, true, true, false, true, false, false, false, false, false, false, false, false, false, false, false, false, false, false, false, false, false, false, false, false] rfl rfl (any_of HT_.out (by kernel_rfl)) (fun _ _ _ h => h) ?_
         refine pj_ 5 69 #[true, true, true, false, true, true, false, false, false, false, false, false, false, false, false, false, false, false, false, false, false, false, false, false, false] rfl rfl (any_of HT_.out (by kernel_rfl)) (fun _ _ _ h => h) ?_
         refine pj_ 6 70 #[true, true, true, false, true, true, true, false, false, false, false, false, false, false, false, false, false, false, false, false, false, false, false, false, false] rfl rfl (any_of HT_.out (by kernel_rfl)) (fun _ _ _ h => h) ?_
         refine pm_ 3 67 #[true, true, true, true, true, true, true, false, false, false, false, false, false, false, false, false, false, false, false, false, false, false, false, false, false] rfl rfl (take_ofW HT_.out HW_.out (by kernel_rfl)) (fun _ _ _ h => h) hHeld ?_
         refine pm_ 7 71 #[true, true, true, true, true, true, true, true, false, false, false, false, false, false, false, false, false, false, false, false, false, false, false, false, false] rfl rfl (take_ofW HT_.out HW_.out (by kernel_rfl)) (fun _ _ _ h => h) hHeld ?_
         refine pj_ 8 72 #[true, true, true, true, true, true, true, true, true, false, false, false, false, false, false, false, false, false, false, false, false, false, false, false, false] rfl rfl (any_of HT_.out (by kernel_rfl)) (fun _ _ _ h => h) ?_
         refine pj_ 9 73 #[true, true, true, true, true, true, true, true, true, true, false, false, false, false, false, false, false, false, false, false, false, false, false, false, false] rfl rfl (any_of HT_.out (by kernel_rfl)) (fun _ _ _ h => h) ?_
         refine pj_ 10 74 #[true, true, true, true, true, true, true, true, true, true, true, false, false, false, false, false, false, false, false, false, false, false, false, false, false] rfl rfl (any_of HT_.out (by kernel_rfl)) (fun _ _ _ h => h) ?_
         refine pj_ 11 75 #[true, true, true, true, true, true, true, true, true, true, true, true, false, false, false, false, false, false, false, false, false, false, false, false, false] rfl rfl (any_of HT_.out (by kernel_rfl)) (fun _ _ _ h => h) ?_
         refine pj_ 12 76 #[true, true, true, true, true, true, true, true, true, true, true, true, true, false, false, false, false, false, false, false, false, false, false, false, false] rfl rfl (any_of HT_.out (by kernel_rfl)) (fun _ _ _ h => h) ?_
         refine pj_ 13 77 #[true, true, true, true, true, true, true, true, true, true, true, true, true, true, false, false, false, false, false, false, false, false, false, false, false] rfl rfl (any_of HT_.out (by kernel_rfl)) (fun _ _ _ h => h) ?_
         refine pure_ (i := 14) (N := some 78) (v := undef) (a' := ?_) #[true, true, true, true, true, true, true, true, true, true, true, true, true, true, true, false, false, false, false, false, false, false, false, false, false] rfl rfl (any_of HT_.out (by kernel_rfl)) (fun _ _ _ h => h) (Or.inr ⟨by rfl, rfl⟩) ?_ ?_
         rotate_left
         · simp only [Act.put, List.setIfInBounds_toArray, List.set_cons_zero, List.set_cons_succ, i64_w, i32_w]
           rfl
         refine pure_ (i := 15) (N := some 79) (v := undef) (a' := ?_) #[true, true, true, true, true, true, true, true, true, true, true, true, true, true, true, true, false, false, false, false, false, false, false, false, false] rfl rfl (any_of HT_.out (by kernel_rfl)) (fun _ _ _ h => h) (Or.inr ⟨by rfl, rfl⟩) ?_ ?_
         rotate_left
         · simp only [Act.put, List.setIfInBounds_toArray, List.set_cons_zero, List.set_cons_succ, i64_w, i32_w]
           rfl
         refine pure_ (i := 16) (N := some 80) (v := undef) (a' := ?_) #[true, true, true, true, true, true, true, true, true, true, true, true, true, true, true, true, true, false, false, false, false, false, false, false, false] rfl rfl (any_of HT_.out (by kernel_rfl)) (fun _ _ _ h => h) (Or.inr ⟨by rfl, rfl⟩) ?_ ?_
         rotate_left
         · simp only [Act.put, List.setIfInBounds_toArray, List.set_cons_zero, List.set_cons_succ, i64_w, i32_w]
           rfl
         refine pure_ (i := 17) (N := some 81) (v := undef) (a' := ?_) #[true, true, true, true, true, true, true, true, true, true, true, true, true, true, true, true, true, true, false, false, false, false, false, false, false] rfl rfl (any_of HT_.out (by kernel_rfl)) (fun _ _ _ h => h) (Or.inr ⟨by rfl, rfl⟩) ?_ ?_
         rotate_left
         · simp only [Act.put, List.setIfInBounds_toArray, List.set_cons_zero, List.set_cons_succ, i64_w, i32_w]
           rfl
         refine pure_ (i := 18) (N := some 82) (v := undef) (a' := ?_) #[true, true, true, true, true, true, true, true, true, true, true, true, true, true, true, true, true, true, true, false, false, false, false, false, false] rfl rfl (any_of HT_.out (by kernel_rfl)) (fun _ _ _ h => h) (Or.inr ⟨by rfl, rfl⟩) ?_ ?_
         rotate_left
         · simp only [Act.put, List.setIfInBounds_toArray, List.set_cons_zero, List.set_cons_succ, i64_w, i32_w]
           rfl
         refine pure_ (i := 19) (N := some 83) (v := undef) (a' := ?_) #[true, true, true, true, true, true, true, true, true, true, true, true, true, true, true, true, true, true, true, true, false, false, false, false, false] rfl rfl (any_of HT_.out (by kernel_rfl)) (fun _ _ _ h => h) (Or.inr ⟨by rfl, rfl⟩) ?_ ?_
         rotate_left
         · simp only [Act.put, List.setIfInBounds_toArray, List.set_cons_zero, List.set_cons_succ, i64_w, i32_w]
           rfl
         refine pure_ (i := 20) (N := some 84) (v := undef) (a' := ?_) #[true, true, true, true, true, true, true, true, true, true, true, true, true, true, true, true, true, true, true, true, true, false, false, false, false] rfl rfl (any_of HT_.out (by kernel_rfl)) (fun _ _ _ h => h) (Or.inr ⟨by rfl, rfl⟩) ?_ ?_
         rotate_left
         · simp only [Act.put, List.setIfInBounds_toArray, List.set_cons_zero, List.set_cons_succ, i64_w, i32_w]
           rfl
         refine pure_ (i := 21) (N := some 85) (v := undef) (a' := ?_) #[true, true, true, true, true, true, true, true, true, true, true, true, true, true, true, true, true, true, true, true, true, true, false, false, false] rfl rfl (any_of HT_.out (by kernel_rfl)) (fun _ _ _ h => h) (Or.inr ⟨by rfl, rfl⟩) ?_ ?_
         rotate_left
         · simp only [Act.put, List.setIfInBounds_toArray, List.set_cons_zero, List.set_cons_succ, i64_w, i32_w]
           rfl
         refine pure_ (i := 22) (N := some 86) (v := undef) (a' := ?_) #[true, true, true, true, true, true, true, true, true, true, true, true, true, true, true, true, true, true, true, true, true, true, true, false, false] rfl rfl (any_of HT_.out (by kernel_rfl)) (fun _ _ _ h => h) (Or.inr ⟨by rfl, rfl⟩) ?_ ?_
         rotate_left
         · simp only [Act.put, List.setIfInBounds_toArray, List.set_cons_zero, List.set_cons_succ, i64_w, i32_w]
           rfl
         refine pj_ 23 87 #[true, true, true, true, true, true, true, true, true, true, true, true, true, true, true, true, true, true, true, true, true, true, true, true, false] rfl rfl (any_of HT_.out (by kernel_rfl)) (fun _ _ _ h => h) ?_
         refine pj_ 24 88 #[true, true, true, true, true, true, true, true, true, true, true, true, true, true, true, true, true, true, true, true, true, true, true, true, true] rfl rfl (any_of HT_.out (by kernel_rfl)) (fun _ _ _ h => h) ?_
         refine done_ (done_of HT_.out (by kernel_rfl)) ?_
         try go_wp2
         go_roundg k3
         case measure => have := HJ4.out; have := HK2.out; have := HK3.out; omega
         case rel => exact ⟨(wrap64 (x8_3 + 1)), rf, H', ⟨by have := HJ4.out; have := HK2.out; have := HK3.out; omega⟩, ⟨by (with_reducible repeat (first | apply Kd.V_alloc | apply Kd.V_drewN | apply Kd.V_drew)); exact HO_3.out⟩, ⟨pr HO_5.out⟩, ⟨ph HB.out⟩⟩
       rw [if_pos c41] at H
       have c41b0 := decide_eq_true c41
       clear c41
       by_cases c42 : (rd x5_2 x8_3) = (rd x5_2 t434)
       · rw [if_pos c42] at H
         have c42b0 : ((rd x5_2 x8_3) == (rd x5_2 t434)) = true := beq_iff_eq.mpr c42
         have c42b1 : ((rd x5_2 x8_3) != (rd x5_2 t434)) = false := bne_eq_false_iff_eq.mpr c42
         clear c42
         obtain rfl := Option.some.inj H
         try go_wp2
         replace HO_3 := am (Kd.V_drew HO_3.out)
         replace HO_5 := am (Kd.R_drew HO_5.out)
         replace HB := am (below_drew1 HB.out)
         obtain ⟨Ao44, co44, eo44⟩ := Kd.R_slice HO_5.out
         (first | subst eo44 | (injection eo44 with f1_ f2_ f3_; have f4_ := f1_.symm; have f5_ := f3_.symm; clear f1_ f2_ f3_; subst f4_; subst f5_))
         have p445 : 0 ≤ (x8_3 : Int) := ofb
         have q445 : x8_3 < (x5_2.length : Int) := ofb
         obtain ⟨ad445, e445, hx445_0⟩ := Kd.at_int (Kd.R_reads' HO_5.out).2.2 x8_3 p445 q445
         cases e445
         replace p445 := eq_true p445
         replace q445 := eq_true q445
         have p446 : 0 ≤ (t434 : Int) := ofb
         have q446 : t434 < (x5_2.length : Int) := ofb
         obtain ⟨ad446, e446, hx446_0⟩ := Kd.at_int (Kd.R_reads' HO_5.out).2.2 t434 p446 q446
         obtain rfl : ad445 = ad446 := (by injection e446)
         replace p446 := eq_true p446
         replace q446 := eq_true q446
         have p447 : 0 ≤ (x8_3 : Int) := ofb
         have q447 : x8_3 < (x5_2.length : Int) := ofb
         obtain ⟨ad447, e447, hx447_0⟩ := Kd.at_int (Kd.R_reads' HO_5.out).2.2 x8_3 p447 q447
         obtain rfl : ad445 = ad447 := (by injection e447)
         replace p447 := eq_true p447
         replace q447 := eq_true q447
         have p448 : 0 ≤ (t434 : Int) := ofb
         have q448 : t434 < (x5_2.length : Int) := ofb
         obtain ⟨ad448, e448, hx448_0⟩ := Kd.at_int (Kd.R_reads' HO_5.out).2.2 t434 p448 q448
         obtain rfl : ad445 = ad448 := (by injection e448)
         replace p448 := eq_true p448
         replace q448 := eq_true q448
         refine start_ (n := 25) (S := fun w' => w'.cell? (ad445.add (x8_3).toNat) = some (.int .i64 (rd x5_2 x8_3)) ∧ w'.cell? (ad445.add (t434).toNat) = some (.int .i64 (rd x5_2 t434)) ∧ w'.cell? (ad445.add (x8_3).toNat) = some (.int .i64 (rd x5_2 x8_3)) ∧ w'.cell? (ad445.add (t434).toNat) = some (.int .i64 (rd x5_2 t434))) (ds := []) #[false, false, false, false, false, false, false, false, false, false, false, false, false, false, false, false, false, false, false, false, false, false, false, false, false] (by kernel_rfl) rfl rfl ⟨hx445_0, hx446_0, hx447_0, hx448_0⟩ (fun hHeld => ?_); refine with_tabW laws_FnOld.tab18 laws_FnOld.bits18 (fun HT_ HW_ => ?_)
         generalize wr.drew = w43 at HO_3 HO_5 HB hx445_0 hx446_0 hx447_0 hx448_0 hHeld ⊢
         refine pj_ 0 64 #[true, false, false, false, false, false, false, false, false, false, false, false, false, false, false, false, false, false, false, false, false, false, false, false, false] rfl rfl (any_of HT_.out (by kernel_rfl)) (fun _ _ _ h => h) ?_
         refine pj_ 1 65 #[true, true, false, false, false, false, false, false, false, false, false, false, false, false, false, false, false, false, false, false, false, false, false, false, false] rfl rfl (any_of HT_.out (by kernel_rfl)) (fun _ _ _ h => h) ?_
         refine pj_ 2 66 #[true, true, true, false, false, false, false, false, false, false, false, false, false, false, false, false, false, false, false, false, false, false, false, false, false] rfl rfl (any_of HT_.out (by kernel_rfl)) (fun _ _ _ h => h) ?_
         refine pj_ 4 68 #[true, true, true, false, true, false, false, false, false, false, false, false, false, false, false, false, false, false, false, false, false, false, false, false, false] rfl rfl (any_of HT_.out (by kernel_rfl)) (fun _ _ _ h => h) ?_
         refine pj_ 5 69 #[true, true, true, false, true, true, false, false, false, false, false, false, false, false, false, false, false, false, false, false, false, false, false, false, false] rfl rfl (any_of HT_.out (by kernel_rfl)) (fun _ _ _ h => h) ?_
         refine pj_ 6 70 #[true, true, true, false, true, true, true, false, false, false, false, false, false, false, false, false, false, false, false, false, false, false, false, false, false] rfl rfl (any_of HT_.out (by kernel_rfl)) (fun _ _ _ h => h) ?_
         refine pm_ 3 67 #[true, true, true, true, true, true, true, false, false, false, false, false, false, false, false, false, false, false, false, false, false, false, false, false, false] rfl rfl (take_ofW HT_.out HW_.out (by kernel_rfl)) (fun _ _ _ h => h) hHeld ?_
         refine pm_ 7 71 #[true, true, true, true, true, true, true, true, false, false, false, false, false, false, false, false, false, false, false, false, false, false, false, false, false] rfl rfl (take_ofW HT_.out HW_.out (by kernel_rfl)) (fun _ _ _ h => h) hHeld ?_
         refine pj_ 8 72 #[true, true, true, true, true, true, true, true, true, false, false, false, false, false, false, false, false, false, false, false, false, false, false, false, false] rfl rfl (any_of HT_.out (by kernel_rfl)) (fun _ _ _ h => h) ?_
         refine pj_ 9 73 #[true, true, true, true, true, true, true, true, true, true, false, false, false, false, false, false, false, false, false, false, false, false, false, false, false] rfl rfl (any_of HT_.out (by kernel_rfl)) (fun _ _ _ h => h) ?_
         refine pj_ 10 74 #[true, true, true, true, true, true, true, true, true, true, true, false, false, false, false, false, false, false, false, false, false, false, false, false, false] rfl rfl (any_of HT_.out (by kernel_rfl)) (fun _ _ _ h => h) ?_
         refine pj_ 11 75 #[true, true, true, true, true, true, true, true, true, true, true, true, false, false, false, false, false, false, false, false, false, false, false, false, false] rfl rfl (any_of HT_.out (by kernel_rfl)) (fun _ _ _ h => h) ?_
         refine pj_ 12 76 #[true, true, true, true, true, true, true, true, true, true, true, true, true, false, false, false, false, false, false, false, false, false, false, false, false] rfl rfl (any_of HT_.out (by kernel_rfl)) (fun _ _ _ h => h) ?_
         refine pj_ 13 77 #[true, true, true, true, true, true, true, true, true, true, true, true, true, true, false, false, false, false, false, false, false, false, false, false, false] rfl rfl (any_of HT_.out (by kernel_rfl)) (fun _ _ _ h => h) ?_
         refine pj_ 14 78 #[true, true, true, true, true, true, true, true, true, true, true, true, true, true, true, false, false, false, false, false, false, false, false, false, false] rfl rfl (any_of HT_.out (by kernel_rfl)) (fun _ _ _ h => h) ?_
         refine pj_ 15 79 #[true, true, true, true, true, true, true, true, true, true, true, true, true, true, true, true, false, false, false, false, false, false, false, false, false] rfl rfl (any_of HT_.out (by kernel_rfl)) (fun _ _ _ h => h) ?_
         refine pj_ 16 80 #[true, true, true, true, true, true, true, true, true, true, true, true, true, true, true, true, true, false, false, false, false, false, false, false, false] rfl rfl (any_of HT_.out (by kernel_rfl)) (fun _ _ _ h => h) ?_
         refine pj_ 18 82 #[true, true, true, true, true, true, true, true, true, true, true, true, true, true, true, true, true, false, true, false, false, false, false, false, false] rfl rfl (any_of HT_.out (by kernel_rfl)) (fun _ _ _ h => h) ?_
         refine pj_ 19 83 #[true, true, true, true, true, true, true, true, true, true, true, true, true, true, true, true, true, false, true, true, false, false, false, false, false] rfl rfl (any_of HT_.out (by kernel_rfl)) (fun _ _ _ h => h) ?_
         refine pj_ 20 84 #[true, true, true, true, true, true, true, true, true, true, true, true, true, true, true, true, true, false, true, true, true, false, false, false, false] rfl rfl (any_of HT_.out (by kernel_rfl)) (fun _ _ _ h => h) ?_
         refine pm_ 17 81 #[true, true, true, true, true, true, true, true, true, true, true, true, true, true, true, true, true, true, true, true, true, false, false, false, false] rfl rfl (take_ofW HT_.out HW_.out (by kernel_rfl)) (fun _ _ _ h => h) hHeld ?_
         refine pm_ 21 85 #[true, true, true, true, true, true, true, true, true, true, true, true, true, true, true, true, true, true, true, true, true, true, false, false, false] rfl rfl (take_ofW HT_.out HW_.out (by kernel_rfl)) (fun _ _ _ h => h) hHeld ?_
         refine pj_ 22 86 #[true, true, true, true, true, true, true, true, true, true, true, true, true, true, true, true, true, true, true, true, true, true, true, false, false] rfl rfl (any_of HT_.out (by kernel_rfl)) (fun _ _ _ h => h) ?_
         refine pj_ 23 87 #[true, true, true, true, true, true, true, true, true, true, true, true, true, true, true, true, true, true, true, true, true, true, true, true, false] rfl rfl (any_of HT_.out (by kernel_rfl)) (fun _ _ _ h => h) ?_
         refine pj_ 24 88 #[true, true, true, true, true, true, true, true, true, true, true, true, true, true, true, true, true, true, true, true, true, true, true, true, true] rfl rfl (any_of HT_.out (by kernel_rfl)) (fun _ _ _ h => h) ?_
         refine done_ (done_of HT_.out (by kernel_rfl)) ?_
         try go_wp2
         go_ret
         exact (rq (ph HB.out))
       rw [if_neg c42] at H
       have c42b0 : ((rd x5_2 x8_3) == (rd x5_2 t434)) = false := beq_eq_false_iff_ne.mpr c42
       have c42b1 : ((rd x5_2 x8_3) != (rd x5_2 t434)) = true := bne_iff_ne.mpr c42
       have H' := am H
       clear H
       try go_wp2
       replace HO_3 := am (Kd.V_drew HO_3.out)
       replace HO_5 := am (Kd.R_drew HO_5.out)
       replace HB := am (below_drew1 HB.out)
       obtain ⟨Ao46, co46, eo46⟩ := Kd.R_slice HO_5.out
       (first | subst eo46 | (injection eo46 with f1_ f2_ f3_; have f4_ := f1_.symm; have f5_ := f3_.symm; clear f1_ f2_ f3_; subst f4_; subst f5_))
       have p445 : 0 ≤ (x8_3 : Int) := ofb
       have q445 : x8_3 < (x5_2.length : Int) := ofb
       obtain ⟨ad445, e445, hx445_0⟩ := Kd.at_int (Kd.R_reads' HO_5.out).2.2 x8_3 p445 q445
       cases e445
       replace p445 := eq_true p445
       replace q445 := eq_true q445
       have p446 : 0 ≤ (t434 : Int) := ofb
       have q446 : t434 < (x5_2.length : Int) := ofb
       obtain ⟨ad446, e446, hx446_0⟩ := Kd.at_int (Kd.R_reads' HO_5.out).2.2 t434 p446 q446
       obtain rfl : ad445 = ad446 := (by injection e446)
       replace p446 := eq_true p446
       replace q446 := eq_true q446
       have p447 : 0 ≤ (x8_3 : Int) := ofb
       have q447 : x8_3 < (x5_2.length : Int) := ofb
       obtain ⟨ad447, e447, hx447_0⟩ := Kd.at_int (Kd.R_reads' HO_5.out).2.2 x8_3 p447 q447
       obtain rfl : ad445 = ad447 := (by injection e447)
       replace p447 := eq_true p447
       replace q447 := eq_true q447
       have p448 : 0 ≤ (t434 : Int) := ofb
       have q448 : t434 < (x5_2.length : Int) := ofb
       obtain ⟨ad448, e448, hx448_0⟩ := Kd.at_int (Kd.R_reads' HO_5.out).2.2 t434 p448 q448
       obtain rfl : ad445 = ad448 := (by injection e448)
       replace p448 := eq_true p448
       replace q448 := eq_true q448
       refine start_ (n := 25) (S := fun w' => w'.cell? (ad445.add (x8_3).toNat) = some (.int .i64 (rd x5_2 x8_3)) ∧ w'.cell? (ad445.add (t434).toNat) = some (.int .i64 (rd x5_2 t434)) ∧ w'.cell? (ad445.add (x8_3).toNat) = some (.int .i64 (rd x5_2 x8_3)) ∧ w'.cell? (ad445.add (t434).toNat) = some (.int .i64 (rd x5_2 t434))) (ds := []) #[false, false, false, false, false, false, false, false, false, false, false, false, false, false, false, false, false, false, false, false, false, false, false, false, false] (by kernel_rfl) rfl rfl ⟨hx445_0, hx446_0, hx447_0, hx448_0⟩ (fun hHeld => ?_); refine with_tabW laws_FnOld.tab18 laws_FnOld.bits18 (fun HT_ HW_ => ?_)
       generalize wr.drew = w45 at HO_3 HO_5 HB hx445_0 hx446_0 hx447_0 hx448_0 hHeld ⊢
       refine pj_ 0 64 #[true, false, false, false, false, false, false, false, false, false, false, false, false, false, false, false, false, false, false, false, false, false, false, false, false] rfl rfl (any_of HT_.out (by kernel_rfl)) (fun _ _ _ h => h) ?_
       refine pj_ 1 65 #[true, true, false, false, false, false, false, false, false, false, false, false, false, false, false, false, false, false, false, false, false, false, false, false, false] rfl rfl (any_of HT_.out (by kernel_rfl)) (fun _ _ _ h => h) ?_
       refine pj_ 2 66 #[true, true, true, false, false, false, false, false, false, false, false, false, false, false, false, false, false, false, false, false, false, false, false, false, false] rfl rfl (any_of HT_.out (by kernel_rfl)) (fun _ _ _ h => h) ?_
       refine pj_ 4 68 #[true, true, true, false, true, false, false, false, false, false, false, false, false, false, false, false, false, false, false, false, false, false, false, false, false] rfl rfl (any_of HT_.out (by kernel_rfl)) (fun _ _ _ h => h) ?_
       refine pj_ 5 69 #[true, true, true, false, true, true, false, false, false, false, false, false, false, false, false, false, false, false, false, false, false, false, false, false, false] rfl rfl (any_of HT_.out (by kernel_rfl)) (fun _ _ _ h => h) ?_
       refine pj_ 6 70 #[true, true, true, false, true, true, true, false, false, false, false, false, false, false, false, false, false, false, false, false, false, false, false, false, false] rfl rfl (any_of HT_.out (by kernel_rfl)) (fun _ _ _ h => h) ?_
       refine pm_ 3 67 #[true, true, true, true, true, true, true, false, false, false, false, false, false, false, false, false, false, false, false, false, false, false, false, false, false] rfl rfl (take_ofW HT_.out HW_.out (by kernel_rfl)) (fun _ _ _ h => h) hHeld ?_
       refine pm_ 7 71 #[true, true, true, true, true, true, true, true, false, false, false, false, false, false, false, false, false, false, false, false, false, false, false, false, false] rfl rfl (take_ofW HT_.out HW_.out (by kernel_rfl)) (fun _ _ _ h => h) hHeld ?_
       refine pj_ 8 72 #[true, true, true, true, true, true, true, true, true, false, false, false, false, false, false, false, false, false, false, false, false, false, false, false, false] rfl rfl (any_of HT_.out (by kernel_rfl)) (fun _ _ _ h => h) ?_
       refine pj_ 9 73 #[true, true, true, true, true, true, true, true, true, true, false, false, false, false, false, false, false, false, false, false, false, false, false, false, false] rfl rfl (any_of HT_.out (by kernel_rfl)) (fun _ _ _ h => h) ?_
       refine pj_ 10 74 #[true, true, true, true, true, true, true, true, true, true, true, false, false, false, false, false, false, false, false, false, false, false, false, false, false] rfl rfl (any_of HT_.out (by kernel_rfl)) (fun _ _ _ h => h) ?_
       refine pj_ 11 75 #[true, true, true, true, true, true, true, true, true, true, true, true, false, false, false, false, false, false, false, false, false, false, false, false, false] rfl rfl (any_of HT_.out (by kernel_rfl)) (fun _ _ _ h => h) ?_
       refine pj_ 12 76 #[true, true, true, true, true, true, true, true, true, true, true, true, true, false, false, false, false, false, false, false, false, false, false, false, false] rfl rfl (any_of HT_.out (by kernel_rfl)) (fun _ _ _ h => h) ?_
       refine pj_ 13 77 #[true, true, true, true, true, true, true, true, true, true, true, true, true, true, false, false, false, false, false, false, false, false, false, false, false] rfl rfl (any_of HT_.out (by kernel_rfl)) (fun _ _ _ h => h) ?_
       refine pj_ 14 78 #[true, true, true, true, true, true, true, true, true, true, true, true, true, true, true, false, false, false, false, false, false, false, false, false, false] rfl rfl (any_of HT_.out (by kernel_rfl)) (fun _ _ _ h => h) ?_
       refine pj_ 15 79 #[true, true, true, true, true, true, true, true, true, true, true, true, true, true, true, true, false, false, false, false, false, false, false, false, false] rfl rfl (any_of HT_.out (by kernel_rfl)) (fun _ _ _ h => h) ?_
       refine pj_ 16 80 #[true, true, true, true, true, true, true, true, true, true, true, true, true, true, true, true, true, false, false, false, false, false, false, false, false] rfl rfl (any_of HT_.out (by kernel_rfl)) (fun _ _ _ h => h) ?_
       refine pj_ 18 82 #[true, true, true, true, true, true, true, true, true, true, true, true, true, true, true, true, true, false, true, false, false, false, false, false, false] rfl rfl (any_of HT_.out (by kernel_rfl)) (fun _ _ _ h => h) ?_
       refine pj_ 19 83 #[true, true, true, true, true, true, true, true, true, true, true, true, true, true, true, true, true, false, true, true, false, false, false, false, false] rfl rfl (any_of HT_.out (by kernel_rfl)) (fun _ _ _ h => h) ?_
       refine pj_ 20 84 #[true, true, true, true, true, true, true, true, true, true, true, true, true, true, true, true, true, false, true, true, true, false, false, false, false] rfl rfl (any_of HT_.out (by kernel_rfl)) (fun _ _ _ h => h) ?_
       refine pm_ 17 81 #[true, true, true, true, true, true, true, true, true, true, true, true, true, true, true, true, true, true, true, true, true, false, false, false, false] rfl rfl (take_ofW HT_.out HW_.out (by kernel_rfl)) (fun _ _ _ h => h) hHeld ?_
       refine pm_ 21 85 #[true, true, true, true, true, true, true, true, true, true, true, true, true, true, true, true, true, true, true, true, true, true, false, false, false] rfl rfl (take_ofW HT_.out HW_.out (by kernel_rfl)) (fun _ _ _ h => h) hHeld ?_
       refine pj_ 22 86 #[true, true, true, true, true, true, true, true, true, true, true, true, true, true, true, true, true, true, true, true, true, true, true, false, false] rfl rfl (any_of HT_.out (by kernel_rfl)) (fun _ _ _ h => h) ?_
       refine pj_ 23 87 #[true, true, true, true, true, true, true, true, true, true, true, true, true, true, true, true, true, true, true, true, true, true, true, true, false] rfl rfl (any_of HT_.out (by kernel_rfl)) (fun _ _ _ h => h) ?_
       refine pj_ 24 88 #[true, true, true, true, true, true, true, true, true, true, true, true, true, true, true, true, true, true, true, true, true, true, true, true, true] rfl rfl (any_of HT_.out (by kernel_rfl)) (fun _ _ _ h => h) ?_
       refine done_ (done_of HT_.out (by kernel_rfl)) ?_
       try go_wp2
       go_roundg k3
       case measure => have := HJ4.out; have := HK2.out; have := HK3.out; omega
       case rel => exact ⟨(wrap64 (x8_3 + 1)), rf, H', ⟨by have := HJ4.out; have := HK2.out; have := HK3.out; omega⟩, ⟨by (with_reducible repeat (first | apply Kd.V_alloc | apply Kd.V_drewN | apply Kd.V_drew)); exact HO_3.out⟩, ⟨pr HO_5.out⟩, ⟨ph HB.out⟩⟩
def laws_FnOld.Pure : Prop := ∀ (l0 : List Int), l0.length ≤ maxLen → l0.length * 1 ≤ 140737488351232 → (∀ x ∈ l0, (Lit.int .u8 x).wf = true) → ∃ k, laws_FnOld.f k l0 = some true
theorem laws_FnOld.walk (P : laws_FnOld.Pure) (a0 : Option Addr) (len0 cap0 : Nat) (z0 : List Int) (w : World) (w0 : (a0 = none ∧ len0 = 0 ∧ cap0 = 0 ∧ z0 = []) ∨ ∃ x, a0 = some x ∧ len0 ≤ cap0 ∧ cap0 ≤ maxLen ∧ z0.length = cap0 ∧ (∀ i, i < z0.length → w.cell? (x.add i) = some (.int .u8 (z0.getD i 0))) ∧ ∀ n ∈ z0, (Lit.int .u8 n).wf = true) (y0 : len0 * 1 ≤ 140737488351232) :
 Calls Try.prog 3 #[.slice a0 len0 cap0] w fun e w' => e = .returned (.bool true) ∧ Below w.heap.size w w' := by
 obtain ⟨l0, rfl, hr0, hm0, hw0, hc0⟩ := ReadsInt.ofRowC w0
 obtain ⟨k, h⟩ := P l0 hm0 y0 hw0
 refine (laws_FnOld.calls k _ _ l0 true w (Kd.C_of_reads (d := (0 : Int)) (h1 := fun _ => rfl) hr0) hc0 h).mono ?_
 rintro e w' ⟨rfl, hd⟩
 exact ⟨rfl, hd⟩
end Go.Proofs.Ytbjemahmljdjoaa.Rl
