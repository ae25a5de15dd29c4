-- printed by wip/pp/pp.py
import Derived.Test.YtepaanhmbfchoaaRm0
import Derived.Test.YtepaanhmbfchoaaRm9
import Derived.Test.YtepaanhmbfchoaaRm10
import Derived.Test.YtepaanhmbfchoaaRm11
namespace Go.Proofs.Ytepaanhmbfchoaa.Rm
open Go.RowKit Go.Proofs.YtepaanhmbfchoaaW.PrintWords Go.Proofs.YtepaanhmbfchoaaW.PrintLast Go.Proofs.YtepaanhmbfchoaaW.PrintMore
attribute [local go_sem] max2_int min2_int max_two min_two max_three min_three max_four min_four
set_option linter.unusedVariables false
set_option linter.unusedSimpArgs false
attribute [local go_sem high] eqA27
mutual
def laws_FnLast.j0 : Nat → List (S35) → Int → Bool → Bool → Bool → Int → Int → Int → Int → Int → Int → Int → Int → Option (Bool)
 | 0, _, _, _, _, _, _, _, _, _, _, _, _, _ => none
 | k + 1, x3, x4, x6, x8, x53, x457000, x457001, x457002, x457003, x463000, x463001, x463002, x463003 => if x53 = true then (if (x8 == x6) = true then (some (x463000 == x457000 && (x463001 == x457001 && (x463002 == x457002 && (x463003 == x457003))))) else (some false)) else (laws_FnLast.l0 k x3 x4 x8 false 0 x463000 x463001 x463002 x463003)
def laws_FnLast.l0 : Nat → List (S35) → Int → Bool → Bool → Int → Int → Int → Int → Int → Option (Bool)
 | 0, _, _, _, _, _, _, _, _, _ => none
 | k + 1, x3, x4, x8, x9, x10, x463000, x463001, x463002, x463003 => if x10 < (x3.length : Int) then (laws_FnLast.l1 k x3 x4 x8 x9 x10 0 x463000 x463001 x463002 x463003) else (if (x8 == x9) = true then (if x8 = true then ((laws_lqHas.f k x3 x463000 x463001 x463002 x463003).bind fun t464 => (if t464 = true then (some (x463002 == x4)) else (some false))) else (some true)) else (some false))
def laws_FnLast.l1 : Nat → List (S35) → Int → Bool → Bool → Int → Int → Int → Int → Int → Int → Option (Bool)
 | 0, _, _, _, _, _, _, _, _, _, _ => none
 | k + 1, x3, x4, x8, x9, x10, x11, x463000, x463001, x463002, x463003 => if x11 < 4 then (if 0 ≤ x10 then (if x10 < (x3.length : Int) then (if 0 ≤ x11 then (if x11 < (((rd_T35 x3 x10).f0).length : Int) then (if ((rd_T32 ((rd_T35 x3 x10).f0) x11).f0) = 1 then (laws_FnLast.j3 k x3 x4 x8 x9 x10 x11 (((rd_T32 ((rd_T35 x3 x10).f0) x11).f1.f2) == x4) x463000 x463001 x463002 x463003 ((rd_T32 ((rd_T35 x3 x10).f0) x11).f0) ((rd_T32 ((rd_T35 x3 x10).f0) x11).f1.f0) ((rd_T32 ((rd_T35 x3 x10).f0) x11).f1.f1) ((rd_T32 ((rd_T35 x3 x10).f0) x11).f1.f2) ((rd_T32 ((rd_T35 x3 x10).f0) x11).f1.f3)) else (laws_FnLast.j3 k x3 x4 x8 x9 x10 x11 false x463000 x463001 x463002 x463003 ((rd_T32 ((rd_T35 x3 x10).f0) x11).f0) ((rd_T32 ((rd_T35 x3 x10).f0) x11).f1.f0) ((rd_T32 ((rd_T35 x3 x10).f0) x11).f1.f1) ((rd_T32 ((rd_T35 x3 x10).f0) x11).f1.f2) ((rd_T32 ((rd_T35 x3 x10).f0) x11).f1.f3))) else (none)) else (none)) else (none)) else (none)) else (laws_FnLast.l0 k x3 x4 x8 x9 (wrap64 (x10 + 1)) x463000 x463001 x463002 x463003)
def laws_FnLast.j3 : Nat → List (S35) → Int → Bool → Bool → Int → Int → Bool → Int → Int → Int → Int → Int → Int → Int → Int → Int → Option (Bool)
 | 0, _, _, _, _, _, _, _, _, _, _, _, _, _, _, _, _ => none
 | k + 1, x3, x4, x8, x9, x10, x11, x89, x463000, x463001, x463002, x463003, x468000, x468001, x468002, x468003, x468004 => if x89 = true then (if x468002 > x463001 then (some false) else (laws_FnLast.l1 k x3 x4 x8 true x10 (wrap64 (x11 + 1)) x463000 x463001 x463002 x463003)) else (laws_FnLast.l1 k x3 x4 x8 x9 x10 (wrap64 (x11 + 1)) x463000 x463001 x463002 x463003)
end
def laws_FnLast.f (k : Nat) (l0 : List Int) : Option (Bool) := if (l0.length : Int) > 1048576 then (some true) else ((spec_DrawFindLast.f k l0).bind fun bt447 => ((spec_FindLast.f k bt447.1 bt447.2).bind fun bt451 => ((impl_FindLast.f bt447.1 bt447.2).bind fun bt457 => (if (bt457.2.2.2.2 != bt451.2.2.2.2) = true then (laws_FnLast.j0 k bt447.1 bt447.2 bt451.2.2.2.2 bt457.2.2.2.2 true bt451.1 bt451.2.1 bt451.2.2.1 bt451.2.2.2.1 bt457.1 bt457.2.1 bt457.2.2.1 bt457.2.2.2.1) else (if (!(bt457.1 == bt451.1) || (!(bt457.2.1 == bt451.2.1) || (!(bt457.2.2.1 == bt451.2.2.1) || (!(bt457.2.2.2.1 == bt451.2.2.2.1))))) = true then (laws_FnLast.j0 k bt447.1 bt447.2 bt451.2.2.2.2 bt457.2.2.2.2 true bt451.1 bt451.2.1 bt451.2.2.1 bt451.2.2.2.1 bt457.1 bt457.2.1 bt457.2.2.1 bt457.2.2.2.1) else ((spec_FlashOk.f bt447.1).bind fun t463 => (if t463 = true then (if bt447.2 < 1 then (laws_FnLast.j0 k bt447.1 bt447.2 bt451.2.2.2.2 bt457.2.2.2.2 true bt451.1 bt451.2.1 bt451.2.2.1 bt451.2.2.2.1 bt457.1 bt457.2.1 bt457.2.2.1 bt457.2.2.2.1) else (laws_FnLast.j0 k bt447.1 bt447.2 bt451.2.2.2.2 bt457.2.2.2.2 (decide (bt447.2 > 6)) bt451.1 bt451.2.1 bt451.2.2.1 bt451.2.2.2.1 bt457.1 bt457.2.1 bt457.2.2.1 bt457.2.2.2.1)) else (laws_FnLast.j0 k bt447.1 bt447.2 bt451.2.2.2.2 bt457.2.2.2.2 true bt451.1 bt451.2.1 bt451.2.2.1 bt451.2.2.2.1 bt457.1 bt457.2.1 bt457.2.2.1 bt457.2.2.2.1))))))))
theorem laws_FnLast.mono_l : ∀ k, (∀ y0 y1 y2 y3 y4 y5 y6 y7 y8 y9 y10 y11 y12, LeO (laws_FnLast.j0 k y0 y1 y2 y3 y4 y5 y6 y7 y8 y9 y10 y11 y12) (laws_FnLast.j0 (k + 1) y0 y1 y2 y3 y4 y5 y6 y7 y8 y9 y10 y11 y12)) ∧ (∀ y0 y1 y2 y3 y4 y5 y6 y7 y8, LeO (laws_FnLast.l0 k y0 y1 y2 y3 y4 y5 y6 y7 y8) (laws_FnLast.l0 (k + 1) y0 y1 y2 y3 y4 y5 y6 y7 y8)) ∧ (∀ y0 y1 y2 y3 y4 y5 y6 y7 y8 y9, LeO (laws_FnLast.l1 k y0 y1 y2 y3 y4 y5 y6 y7 y8 y9) (laws_FnLast.l1 (k + 1) y0 y1 y2 y3 y4 y5 y6 y7 y8 y9)) ∧ (∀ y0 y1 y2 y3 y4 y5 y6 y7 y8 y9 y10 y11 y12 y13 y14 y15, LeO (laws_FnLast.j3 k y0 y1 y2 y3 y4 y5 y6 y7 y8 y9 y10 y11 y12 y13 y14 y15) (laws_FnLast.j3 (k + 1) y0 y1 y2 y3 y4 y5 y6 y7 y8 y9 y10 y11 y12 y13 y14 y15))
 | 0 => ⟨fun _ _ _ _ _ _ _ _ _ _ _ _ _ r h => by simp [laws_FnLast.j0] at h, fun _ _ _ _ _ _ _ _ _ r h => by simp [laws_FnLast.l0] at h, fun _ _ _ _ _ _ _ _ _ _ r h => by simp [laws_FnLast.l1] at h, fun _ _ _ _ _ _ _ _ _ _ _ _ _ _ _ _ r h => by simp [laws_FnLast.j3] at h⟩
 | k + 1 => by
  obtain ⟨ih0, ih1, ih2, ih3⟩ := laws_FnLast.mono_l k
  refine ⟨?_, ?_, ?_, ?_⟩
  · intro y0 y1 y2 y3 y4 y5 y6 y7 y8 y9 y10 y11 y12
    unfold laws_FnLast.j0
    repeat' first
    | (with_reducible exact ih0 _ _ _ _ _ _ _ _ _ _ _ _ _)
    | (with_reducible exact ih1 _ _ _ _ _ _ _ _ _)
    | (with_reducible exact ih2 _ _ _ _ _ _ _ _ _ _)
    | (with_reducible exact ih3 _ _ _ _ _ _ _ _ _ _ _ _ _ _ _ _)
    | (with_reducible exact laws_lqHas.mono _ _ _ _ _ _)
    | (with_reducible exact spec_DrawFindLast.mono _ _)
    | (with_reducible exact spec_FindLast.mono _ _ _)
    | (with_reducible exact LeO.refl _)
    | (with_reducible exact LeO.none _)
    | (with_reducible refine LeO.ite ?_ ?_)
    | (with_reducible refine LeO.bind ?_ (fun _ => ?_))
    | exact ih0 _ _ _ _ _ _ _ _ _ _ _ _ _
    | exact ih1 _ _ _ _ _ _ _ _ _
    | exact ih2 _ _ _ _ _ _ _ _ _ _
    | exact ih3 _ _ _ _ _ _ _ _ _ _ _ _ _ _ _ _
    | exact laws_lqHas.mono _ _ _ _ _ _
    | exact spec_DrawFindLast.mono _ _
    | exact spec_FindLast.mono _ _ _
    | exact LeO.none _
    | refine LeO.ite ?_ ?_
    | refine LeO.bind ?_ (fun _ => ?_)
  · intro y0 y1 y2 y3 y4 y5 y6 y7 y8
    unfold laws_FnLast.l0
    repeat' first
    | (with_reducible exact ih0 _ _ _ _ _ _ _ _ _ _ _ _ _)
    | (with_reducible exact ih1 _ _ _ _ _ _ _ _ _)
    | (with_reducible exact ih2 _ _ _ _ _ _ _ _ _ _)
    | (with_reducible exact ih3 _ _ _ _ _ _ _ _ _ _ _ _ _ _ _ _)
    | (with_reducible exact laws_lqHas.mono _ _ _ _ _ _)
    | (with_reducible exact spec_DrawFindLast.mono _ _)
    | (with_reducible exact spec_FindLast.mono _ _ _)
    | (with_reducible exact LeO.refl _)
    | (with_reducible exact LeO.none _)
    | (with_reducible refine LeO.ite ?_ ?_)
    | (with_reducible refine LeO.bind ?_ (fun _ => ?_))
    | exact ih0 _ _ _ _ _ _ _ _ _ _ _ _ _
    | exact ih1 _ _ _ _ _ _ _ _ _
    | exact ih2 _ _ _ _ _ _ _ _ _ _
    | exact ih3 _ _ _ _ _ _ _ _ _ _ _ _ _ _ _ _
    | exact laws_lqHas.mono _ _ _ _ _ _
    | exact spec_DrawFindLast.mono _ _
    | exact spec_FindLast.mono _ _ _
    | exact LeO.none _
    | refine LeO.ite ?_ ?_
    | refine LeO.bind ?_ (fun _ => ?_)
  · intro y0 y1 y2 y3 y4 y5 y6 y7 y8 y9
    unfold laws_FnLast.l1
    repeat' first
    | (with_reducible exact ih0 _ _ _ _ _ _ _ _ _ _ _ _ _)
    | (with_reducible exact ih1 _ _ _ _ _ _ _ _ _)
    | (with_reducible exact ih2 _ _ _ _ _ _ _ _ _ _)
    | (with_reducible exact ih3 _ _ _ _ _ _ _ _ _ _ _ _ _ _ _ _)
    | (with_reducible exact laws_lqHas.mono _ _ _ _ _ _)
    | (with_reducible exact spec_DrawFindLast.mono _ _)
    | (with_reducible exact spec_FindLast.mono _ _ _)
    | (with_reducible exact LeO.refl _)
    | (with_reducible exact LeO.none _)
    | (with_reducible refine LeO.ite ?_ ?_)
    | (with_reducible refine LeO.bind ?_ (fun _ => ?_))
    | exact ih0 _ _ _ _ _ _ _ _ _ _ _ _ _
    | exact ih1 _ _ _ _ _ _ _ _ _
    | exact ih2 _ _ _ _ _ _ _ _ _ _
    | exact ih3 _ _ _ _ _ _ _ _ _ _ _ _ _ _ _ _
    | exact laws_lqHas.mono _ _ _ _ _ _
    | exact spec_DrawFindLast.mono _ _
    | exact spec_FindLast.mono _ _ _
    | exact LeO.none _
    | refine LeO.ite ?_ ?_
    | refine LeO.bind ?_ (fun _ => ?_)
  · intro y0 y1 y2 y3 y4 y5 y6 y7 y8 y9 y10 y11 y12 y13 y14 y15
    unfold laws_FnLast.j3
    repeat' first
    | (with_reducible exact ih0 _ _ _ _ _ _ _ _ _ _ _ _ _)
    | (with_reducible exact ih1 _ _ _ _ _ _ _ _ _)
    | (with_reducible exact ih2 _ _ _ _ _ _ _ _ _ _)
    | (with_reducible exact ih3 _ _ _ _ _ _ _ _ _ _ _ _ _ _ _ _)
    | (with_reducible exact laws_lqHas.mono _ _ _ _ _ _)
    | (with_reducible exact spec_DrawFindLast.mono _ _)
    | (with_reducible exact spec_FindLast.mono _ _ _)
    | (with_reducible exact LeO.refl _)
    | (with_reducible exact LeO.none _)
    | (with_reducible refine LeO.ite ?_ ?_)
    | (with_reducible refine LeO.bind ?_ (fun _ => ?_))
    | exact ih0 _ _ _ _ _ _ _ _ _ _ _ _ _
    | exact ih1 _ _ _ _ _ _ _ _ _
    | exact ih2 _ _ _ _ _ _ _ _ _ _
    | exact ih3 _ _ _ _ _ _ _ _ _ _ _ _ _ _ _ _
    | exact laws_lqHas.mono _ _ _ _ _ _
    | exact spec_DrawFindLast.mono _ _
    | exact spec_FindLast.mono _ _ _
    | exact LeO.none _
    | refine LeO.ite ?_ ?_
    | refine LeO.bind ?_ (fun _ => ?_)
theorem laws_FnLast.mono : ∀ a0 k, LeO (laws_FnLast.f k a0) (laws_FnLast.f (k + 1) a0) := by
 intro a0 k
 obtain ⟨ih0, ih1, ih2, ih3⟩ := laws_FnLast.mono_l k
 unfold laws_FnLast.f
 repeat' first
  | (with_reducible exact ih0 _ _ _ _ _ _ _ _ _ _ _ _ _)
  | (with_reducible exact ih1 _ _ _ _ _ _ _ _ _)
  | (with_reducible exact ih2 _ _ _ _ _ _ _ _ _ _)
  | (with_reducible exact ih3 _ _ _ _ _ _ _ _ _ _ _ _ _ _ _ _)
  | (with_reducible exact laws_lqHas.mono _ _ _ _ _ _)
  | (with_reducible exact spec_DrawFindLast.mono _ _)
  | (with_reducible exact spec_FindLast.mono _ _ _)
  | (with_reducible exact LeO.refl _)
  | (with_reducible exact LeO.none _)
  | (with_reducible refine LeO.ite ?_ ?_)
  | (with_reducible refine LeO.bind ?_ (fun _ => ?_))
  | exact ih0 _ _ _ _ _ _ _ _ _ _ _ _ _
  | exact ih1 _ _ _ _ _ _ _ _ _
  | exact ih2 _ _ _ _ _ _ _ _ _ _
  | exact ih3 _ _ _ _ _ _ _ _ _ _ _ _ _ _ _ _
  | exact laws_lqHas.mono _ _ _ _ _ _
  | exact spec_DrawFindLast.mono _ _
  | exact spec_FindLast.mono _ _ _
  | exact LeO.none _
  | refine LeO.ite ?_ ?_
  | refine LeO.bind ?_ (fun _ => ?_)
set_option maxHeartbeats 8000000 in
set_option maxRecDepth 100000 in
theorem laws_FnLast.calls (k : Nat) (A0 : Option Addr) (c0 : Nat) (l0 : List Int) (r : Bool) (w : World) (hr0 : Kd.C (Kd.int .u8) w A0 l0.length l0) (hc0 : l0.length ≤ c0) (h : laws_FnLast.f k l0 = some r) :
 Calls Try.prog 3 #[.slice A0 l0.length c0] w fun e w' => e = .returned (.bool r) ∧ Below w.heap.size w w' := by
 have hu27 := Try.underlying27
 have hu32 := Try.underlying32
 have HR0 := am hr0
 have HC0 := am hc0
 clear hr0 hc0
 have HB := am (Below.refl w.heap.size w)
 have H : (if (l0.length : Int) > 1048576 then (some true) else ((spec_DrawFindLast.f k l0).bind fun bt447 => ((spec_FindLast.f k bt447.1 bt447.2).bind fun bt451 => ((impl_FindLast.f bt447.1 bt447.2).bind fun bt457 => (if (bt457.2.2.2.2 != bt451.2.2.2.2) = true then (laws_FnLast.j0 k bt447.1 bt447.2 bt451.2.2.2.2 bt457.2.2.2.2 true bt451.1 bt451.2.1 bt451.2.2.1 bt451.2.2.2.1 bt457.1 bt457.2.1 bt457.2.2.1 bt457.2.2.2.1) else (if (!(bt457.1 == bt451.1) || (!(bt457.2.1 == bt451.2.1) || (!(bt457.2.2.1 == bt451.2.2.1) || (!(bt457.2.2.2.1 == bt451.2.2.2.1))))) = true then (laws_FnLast.j0 k bt447.1 bt447.2 bt451.2.2.2.2 bt457.2.2.2.2 true bt451.1 bt451.2.1 bt451.2.2.1 bt451.2.2.2.1 bt457.1 bt457.2.1 bt457.2.2.1 bt457.2.2.2.1) else ((spec_FlashOk.f bt447.1).bind fun t463 => (if t463 = true then (if bt447.2 < 1 then (laws_FnLast.j0 k bt447.1 bt447.2 bt451.2.2.2.2 bt457.2.2.2.2 true bt451.1 bt451.2.1 bt451.2.2.1 bt451.2.2.2.1 bt457.1 bt457.2.1 bt457.2.2.1 bt457.2.2.2.1) else (laws_FnLast.j0 k bt447.1 bt447.2 bt451.2.2.2.2 bt457.2.2.2.2 (decide (bt447.2 > 6)) bt451.1 bt451.2.1 bt451.2.2.1 bt451.2.2.2.1 bt457.1 bt457.2.1 bt457.2.2.1 bt457.2.2.2.1)) else (laws_FnLast.j0 k bt447.1 bt447.2 bt451.2.2.2.2 bt457.2.2.2.2 true bt451.1 bt451.2.1 bt451.2.2.1 bt451.2.2.2.1 bt457.1 bt457.2.1 bt457.2.2.1 bt457.2.2.2.1))))))))) = some r := h
 clear h
 by_cases c2 : (l0.length : Int) > 1048576
 · rw [if_pos c2] at H
   have c2b0 := decide_eq_true c2
   have c2b1 : decide (1048576 < l0.length) = true := decide_eq_true (by omega)
   clear c2
   obtain rfl := Option.some.inj H
   go_enter Try.func3, Try.ntmps3
   go_wp2
   go_ret
   exact (rq (ph HB.out))
 rw [if_neg c2] at H
 have c2b0 := decide_eq_false c2
 have c2b1 : decide (1048576 < l0.length) = false := decide_eq_false (by omega)
 clear c2
 replace H := Option.bind_eq_some_iff.mp H
 obtain ⟨⟨t447, t450⟩, A30, H⟩ := H
 replace H : ((spec_FindLast.f k t447 t450).bind fun bt451 => ((impl_FindLast.f t447 t450).bind fun bt457 => (if (bt457.2.2.2.2 != bt451.2.2.2.2) = true then (laws_FnLast.j0 k t447 t450 bt451.2.2.2.2 bt457.2.2.2.2 true bt451.1 bt451.2.1 bt451.2.2.1 bt451.2.2.2.1 bt457.1 bt457.2.1 bt457.2.2.1 bt457.2.2.2.1) else (if (!(bt457.1 == bt451.1) || (!(bt457.2.1 == bt451.2.1) || (!(bt457.2.2.1 == bt451.2.2.1) || (!(bt457.2.2.2.1 == bt451.2.2.2.1))))) = true then (laws_FnLast.j0 k t447 t450 bt451.2.2.2.2 bt457.2.2.2.2 true bt451.1 bt451.2.1 bt451.2.2.1 bt451.2.2.2.1 bt457.1 bt457.2.1 bt457.2.2.1 bt457.2.2.2.1) else ((spec_FlashOk.f t447).bind fun t463 => (if t463 = true then (if t450 < 1 then (laws_FnLast.j0 k t447 t450 bt451.2.2.2.2 bt457.2.2.2.2 true bt451.1 bt451.2.1 bt451.2.2.1 bt451.2.2.2.1 bt457.1 bt457.2.1 bt457.2.2.1 bt457.2.2.2.1) else (laws_FnLast.j0 k t447 t450 bt451.2.2.2.2 bt457.2.2.2.2 (decide (t450 > 6)) bt451.1 bt451.2.1 bt451.2.2.1 bt451.2.2.2.1 bt457.1 bt457.2.1 bt457.2.2.1 bt457.2.2.2.1)) else (laws_FnLast.j0 k t447 t450 bt451.2.2.2.2 bt457.2.2.2.2 true bt451.1 bt451.2.1 bt451.2.2.1 bt451.2.2.2.1 bt457.1 bt457.2.1 bt457.2.2.1 bt457.2.2.2.1))))))) = some r := H
 have A3 := am A30
 clear A30
 replace H := Option.bind_eq_some_iff.mp H
 obtain ⟨⟨t451, t452, t453, t454, t455⟩, A40, H⟩ := H
 replace H : ((impl_FindLast.f t447 t450).bind fun bt457 => (if (bt457.2.2.2.2 != t455) = true then (laws_FnLast.j0 k t447 t450 t455 bt457.2.2.2.2 true t451 t452 t453 t454 bt457.1 bt457.2.1 bt457.2.2.1 bt457.2.2.2.1) else (if (!(bt457.1 == t451) || (!(bt457.2.1 == t452) || (!(bt457.2.2.1 == t453) || (!(bt457.2.2.2.1 == t454))))) = true then (laws_FnLast.j0 k t447 t450 t455 bt457.2.2.2.2 true t451 t452 t453 t454 bt457.1 bt457.2.1 bt457.2.2.1 bt457.2.2.2.1) else ((spec_FlashOk.f t447).bind fun t463 => (if t463 = true then (if t450 < 1 then (laws_FnLast.j0 k t447 t450 t455 bt457.2.2.2.2 true t451 t452 t453 t454 bt457.1 bt457.2.1 bt457.2.2.1 bt457.2.2.2.1) else (laws_FnLast.j0 k t447 t450 t455 bt457.2.2.2.2 (decide (t450 > 6)) t451 t452 t453 t454 bt457.1 bt457.2.1 bt457.2.2.1 bt457.2.2.2.1)) else (laws_FnLast.j0 k t447 t450 t455 bt457.2.2.2.2 true t451 t452 t453 t454 bt457.1 bt457.2.1 bt457.2.2.1 bt457.2.2.2.1)))))) = some r := H
 have A4 := am A40
 clear A40
 replace H := Option.bind_eq_some_iff.mp H
 obtain ⟨⟨t457, t458, t459, t460, t461⟩, A50, H⟩ := H
 replace H : (if (t461 != t455) = true then (laws_FnLast.j0 k t447 t450 t455 t461 true t451 t452 t453 t454 t457 t458 t459 t460) else (if (!(t457 == t451) || (!(t458 == t452) || (!(t459 == t453) || (!(t460 == t454))))) = true then (laws_FnLast.j0 k t447 t450 t455 t461 true t451 t452 t453 t454 t457 t458 t459 t460) else ((spec_FlashOk.f t447).bind fun t463 => (if t463 = true then (if t450 < 1 then (laws_FnLast.j0 k t447 t450 t455 t461 true t451 t452 t453 t454 t457 t458 t459 t460) else (laws_FnLast.j0 k t447 t450 t455 t461 (decide (t450 > 6)) t451 t452 t453 t454 t457 t458 t459 t460)) else (laws_FnLast.j0 k t447 t450 t455 t461 true t451 t452 t453 t454 t457 t458 t459 t460))))) = some r := H
 have A5 := am A50
 clear A50
 have HC6 := am H
 clear H
 go_enter Try.func3, Try.ntmps3
 go_upto_region 6 with (first | (refine gl 18 Try.func4 #[.slice A0 l0.length c0] rfl ?_; (with_reducible refine (spec_DrawFindLast.calls k _ _ l0 t447 t450 _ ?side1 ?side2 A3.out).mono ?_); (case side1 => repeat (first | exact HR0.out | (with_reducible refine Kd.C_alloc ?_ _) | (with_reducible refine Kd.C_drewN ?_ _) | (with_reducible refine Kd.C_drew ?_))); (case side2 => exact HC0.out); rintro e w7 ⟨v448, rfl, ho0, hb⟩; refine ⟨_, rfl, ?_⟩; have HO449 := am (Kd.V_lower (Kd.V_mono (ok' := fun k_ => True) ho0 (fun k_ hk_ => trivial)) (below_size (ph HB.out))); replace HB := am (below_step (ph HB.out) hb); (try clear hb); (try clear hb2); (try clear hk); (try clear hi); (try clear ho0); obtain ⟨Ao8, co8, eo8⟩ := Kd.V_slice HO449.out; subst eo8) | (refine gl 24 Try.func5 #[.slice Ao8 t447.length co8, .int .i64 t450] rfl ?_; (with_reducible refine (spec_FindLast.calls k _ _ t447 t450 t451 t452 t453 t454 t455 _ ?side1 ?side2 A4.out).mono ?_); (case side1 => repeat (first | exact (Kd.V_reads' HO449.out).2.2 | (with_reducible refine Kd.C_alloc ?_ _) | (with_reducible refine Kd.C_drewN ?_ _) | (with_reducible refine Kd.C_drew ?_))); (case side2 => exact (Kd.V_reads' HO449.out).2.1); rintro e w9 ⟨rfl, hb⟩; refine ⟨_, rfl, ?_⟩; replace HO449 := am (Kd.V_below (by (with_reducible repeat (first | apply Kd.V_alloc | apply Kd.V_drewN | apply Kd.V_drew)); exact HO449.out) hb); replace HB := am (below_step (ph HB.out) hb); (try clear hb); (try clear hb2); (try clear hk); (try clear hi)) | (refine bx 5 #[.int .i64 0, .int .i64 0, .int .i64 0, .int .i64 0] 27 rfl ?_; intro gb456 hg w10 hbox hb; replace HO449 := am (Kd.V_below (Kd.V_elderB (by (with_reducible repeat (first | apply Kd.V_alloc | apply Kd.V_drewN | apply Kd.V_drew)); exact HO449.out) gb456 (Nat.le_of_eq hg.symm)) hb); have BK456 := am (hbox); have GW456 := am ((by rw [hg]; exact (below_size (ph HB.out)) : w.heap.size ≤ gb456)); have GE456 := GW456; replace HB := am (below_step (ph HB.out) hb); clear hb hbox hg; obtain ⟨hcz11_0, hcz11_1, hcz11_2, hcz11_3⟩ := b4 BK456.out; obtain ⟨hfz11_0, hfz11_1, hfz11_2, hfz11_3⟩ := f4 BK456.out) | (refine gl 30 Try.func6 #[.slice Ao8 t447.length co8, .int .i64 t450] rfl ?_; (with_reducible refine (impl_FindLast.calls _ _ t447 t450 t457 t458 t459 t460 t461 _ ?side1 ?side2 A5.out).mono ?_); (case side1 => refine (Kd.V_reads' (e := 35) (base := w.heap.size) (ok := fun k_ => (True ∧ k_ ≠ gb456)) (n := t447.length) (c := co8) ?_).2.2; exact (by (with_reducible repeat (first | apply Kd.V_alloc | apply Kd.V_drewN | apply Kd.V_drew)); exact (Kd.V_mono (Kd.V_far (p := ⟨gb456, 3, none⟩) (Kd.V_far (p := ⟨gb456, 2, none⟩) (Kd.V_far (p := ⟨gb456, 1, none⟩) (Kd.V_far (p := ⟨gb456, 0, none⟩) (Kd.V_mono HO449.out (fun k_ hk => (⟨hk, hk.2⟩ : _ ∧ k_ ≠ gb456))) (fun _ hk => hk.2) (.int .i64 t451)) (fun _ hk => hk.2) (.int .i64 t452)) (fun _ hk => hk.2) (.int .i64 t453)) (fun _ hk => hk.2) (.int .i64 t454)) (fun _ h_ => h_.1)))); (case side2 => exact (Kd.V_reads' HO449.out).2.1); rintro e w12 ⟨rfl, hb⟩; refine ⟨_, rfl, ?_⟩; replace HO449 := am (Kd.V_below (by (with_reducible repeat (first | apply Kd.V_alloc | apply Kd.V_drewN | apply Kd.V_drew)); exact (Kd.V_mono (Kd.V_far (p := ⟨gb456, 3, none⟩) (Kd.V_far (p := ⟨gb456, 2, none⟩) (Kd.V_far (p := ⟨gb456, 1, none⟩) (Kd.V_far (p := ⟨gb456, 0, none⟩) (Kd.V_mono HO449.out (fun k_ hk => (⟨hk, hk.2⟩ : _ ∧ k_ ≠ gb456))) (fun _ hk => hk.2) (.int .i64 t451)) (fun _ hk => hk.2) (.int .i64 t452)) (fun _ hk => hk.2) (.int .i64 t453)) (fun _ hk => hk.2) (.int .i64 t454)) (fun _ h_ => h_.1))) hb); replace BK456 := am (blk_below (g := gb456) (o := .cells #[.int .i64 t451, .int .i64 t452, .int .i64 t453, .int .i64 t454] 27 (0, 0)) (by (with_reducible repeat (first | refine blk_drewN ?_ _ | refine blk_drew ?_ | refine blk_alloc ?_ _)); refine blk_put (cs := #[.int .i64 t451, .int .i64 t452, .int .i64 t453, .int .i64 0]) ?_ 3 _ rfl; (with_reducible repeat (first | refine blk_drewN ?_ _ | refine blk_drew ?_ | refine blk_alloc ?_ _)); refine blk_put (cs := #[.int .i64 t451, .int .i64 t452, .int .i64 0, .int .i64 0]) ?_ 2 _ rfl; (with_reducible repeat (first | refine blk_drewN ?_ _ | refine blk_drew ?_ | refine blk_alloc ?_ _)); refine blk_put (cs := #[.int .i64 t451, .int .i64 0, .int .i64 0, .int .i64 0]) ?_ 1 _ rfl; (with_reducible repeat (first | refine blk_drewN ?_ _ | refine blk_drew ?_ | refine blk_alloc ?_ _)); refine blk_put (cs := #[.int .i64 0, .int .i64 0, .int .i64 0, .int .i64 0]) ?_ 0 _ rfl; (with_reducible repeat (first | refine blk_drewN ?_ _ | refine blk_drew ?_ | refine blk_alloc ?_ _)); exact BK456.out) hb); replace HB := am (below_step (bg1 HB.out GE456.out) hb); (try clear hb); (try clear hb2); (try clear hk); (try clear hi)) | (refine bx 7 #[.int .i64 0, .int .i64 0, .int .i64 0, .int .i64 0] 27 rfl ?_; intro gb462 hg w13 hbox hb; replace HO449 := am (Kd.V_below (Kd.V_elderB (by (with_reducible repeat (first | apply Kd.V_alloc | apply Kd.V_drewN | apply Kd.V_drew)); exact HO449.out) gb462 (Nat.le_of_eq hg.symm)) hb); have BK462 := am (hbox); have GW462 := am ((by rw [hg]; exact (below_size (bg1 HB.out GE456.out)) : w.heap.size ≤ gb462)); have GE462 := GW462; replace HB := am (below_step (bg1 HB.out GE456.out) hb); have NB456_462 := am ((by rw [hg]; exact Nat.ne_of_lt (blk_lt (pb BK456.out)) : gb456 ≠ gb462)); have NB462_456 := am (Ne.symm NB456_462.out); replace BK456 := am (blk_below (pb BK456.out) hb); clear hb hbox hg; have hnb14 := NB462_456.out; have hnc14 := NB456_462.out; obtain ⟨hcz15_0, hcz15_1, hcz15_2, hcz15_3⟩ := b4 BK462.out; obtain ⟨hfz15_0, hfz15_1, hfz15_2, hfz15_3⟩ := f4 BK462.out))
 (try simp only [Act.put, List.setIfInBounds_toArray, List.set_cons_zero, List.set_cons_succ])
 go_cut [53] (fun v53 wc => ∃ (kq : Nat) (x53_5 : Bool), v53 = .bool x53_5 ∧ Aside0 (laws_FnLast.j0 kq t447 t450 t455 t461 x53_5 t451 t452 t453 t454 t457 t458 t459 t460 = some r) ∧ Aside0 (kq ≤ k) ∧ Aside0 (Kd.V k35 35 wc w.heap.size (fun k_ => k_ ≠ gb456 ∧ k_ ≠ gb462) (.slice Ao8 t447.length co8) t447) ∧ Aside0 (wc.heap[gb456]? = some (.cells #[.int .i64 t451, .int .i64 t452, .int .i64 t453, .int .i64 t454] 27 (0, 0))) ∧ Aside0 (wc.heap[gb462]? = some (.cells #[.int .i64 t457, .int .i64 t458, .int .i64 t459, .int .i64 t460] 27 (0, 0))) ∧ Aside0 (Below w.heap.size w wc))
 case first =>
  have H := HC6.out
  clear HC6
  by_cases c16 : (t461 != t455) = true
  · rw [if_pos c16] at H
    have c16b0 : (t461 != t455) = true := c16
    (try (have c16b1 : decide (t461 = t455) = false := by simpa using c16))
    (try (have c16b2 : (t461 == t455) = false := by simpa using c16))
    (try (have c16b3 : ¬ (t461 = t455) := by simpa using c16))
    clear c16
    (first | rw [c16b0] | (simp only [i64_w, i32_w]; rw [c16b0]) | skip)
    have H' := am H
    clear H
    go_wp2
    go_meet
    case rel => exact ⟨_, (true), rf, H', ⟨by first | omega | exact Nat.le_refl _⟩, ⟨by (with_reducible repeat (first | apply Kd.V_alloc | apply Kd.V_drewN | apply Kd.V_drew)); exact Kd.V_mono (Kd.V_far (p := ⟨gb462, 3, none⟩) (Kd.V_far (p := ⟨gb462, 2, none⟩) (Kd.V_far (p := ⟨gb462, 1, none⟩) (Kd.V_far (p := ⟨gb462, 0, none⟩) (Kd.V_mono HO449.out (fun k_ hk => (⟨hk, hk.2⟩ : _ ∧ k_ ≠ gb462))) (fun _ hk => hk.2) (.int .i64 t457)) (fun _ hk => hk.2) (.int .i64 t458)) (fun _ hk => hk.2) (.int .i64 t459)) (fun _ hk => hk.2) (.int .i64 t460)) (fun _ hk => ⟨hk.1.1.2, hk.1.2⟩)⟩, ⟨by (with_reducible repeat (first | refine blk_drewN ?_ _ | refine blk_drew ?_ | refine blk_alloc ?_ _)); refine blk_far ?_ NB456_462.out _; (with_reducible repeat (first | refine blk_drewN ?_ _ | refine blk_drew ?_ | refine blk_alloc ?_ _)); refine blk_far ?_ NB456_462.out _; (with_reducible repeat (first | refine blk_drewN ?_ _ | refine blk_drew ?_ | refine blk_alloc ?_ _)); refine blk_far ?_ NB456_462.out _; (with_reducible repeat (first | refine blk_drewN ?_ _ | refine blk_drew ?_ | refine blk_alloc ?_ _)); refine blk_far ?_ NB456_462.out _; (with_reducible repeat (first | refine blk_drewN ?_ _ | refine blk_drew ?_ | refine blk_alloc ?_ _)); exact BK456.out⟩, ⟨by (with_reducible repeat (first | refine blk_drewN ?_ _ | refine blk_drew ?_ | refine blk_alloc ?_ _)); refine blk_put (cs := #[.int .i64 t457, .int .i64 t458, .int .i64 t459, .int .i64 0]) ?_ 3 _ rfl; (with_reducible repeat (first | refine blk_drewN ?_ _ | refine blk_drew ?_ | refine blk_alloc ?_ _)); refine blk_put (cs := #[.int .i64 t457, .int .i64 t458, .int .i64 0, .int .i64 0]) ?_ 2 _ rfl; (with_reducible repeat (first | refine blk_drewN ?_ _ | refine blk_drew ?_ | refine blk_alloc ?_ _)); refine blk_put (cs := #[.int .i64 t457, .int .i64 0, .int .i64 0, .int .i64 0]) ?_ 1 _ rfl; (with_reducible repeat (first | refine blk_drewN ?_ _ | refine blk_drew ?_ | refine blk_alloc ?_ _)); refine blk_put (cs := #[.int .i64 0, .int .i64 0, .int .i64 0, .int .i64 0]) ?_ 0 _ rfl; (with_reducible repeat (first | refine blk_drewN ?_ _ | refine blk_drew ?_ | refine blk_alloc ?_ _)); exact BK462.out⟩, ⟨bg2 HB.out GE456.out GE462.out⟩⟩
  rw [if_neg c16] at H
  have c16b0 : (t461 != t455) = false := by simpa using c16
  (try (have c16b1 : decide (t461 = t455) = true := by simpa using c16))
  (try (have c16b2 : (t461 == t455) = true := by simpa using c16))
  clear c16
  (first | rw [c16b0] | (simp only [i64_w, i32_w]; rw [c16b0]) | skip)
  by_cases c17 : (!(t457 == t451) || (!(t458 == t452) || (!(t459 == t453) || (!(t460 == t454))))) = true
  · rw [if_pos c17] at H
    have c17b0 : (!(t457 == t451) || (!(t458 == t452) || (!(t459 == t453) || (!(t460 == t454))))) = true := c17
    clear c17
    have H' := am H
    clear H
    have hnb18 := NB462_456.out
    have hnc18 := NB456_462.out
    obtain ⟨hcz19_0, hcz19_1, hcz19_2, hcz19_3⟩ := b4 BK462.out
    obtain ⟨hfz19_0, hfz19_1, hfz19_2, hfz19_3⟩ := f4 BK462.out
    obtain ⟨hcz20_0, hcz20_1, hcz20_2, hcz20_3⟩ := b4 BK456.out
    obtain ⟨hfz20_0, hfz20_1, hfz20_2, hfz20_3⟩ := f4 BK456.out
    go_wp2
    go_meet
    case rel => exact ⟨_, (true), rf, H', ⟨by first | omega | exact Nat.le_refl _⟩, ⟨by (with_reducible repeat (first | apply Kd.V_alloc | apply Kd.V_drewN | apply Kd.V_drew)); exact Kd.V_mono (Kd.V_far (p := ⟨gb462, 3, none⟩) (Kd.V_far (p := ⟨gb462, 2, none⟩) (Kd.V_far (p := ⟨gb462, 1, none⟩) (Kd.V_far (p := ⟨gb462, 0, none⟩) (Kd.V_mono HO449.out (fun k_ hk => (⟨hk, hk.2⟩ : _ ∧ k_ ≠ gb462))) (fun _ hk => hk.2) (.int .i64 t457)) (fun _ hk => hk.2) (.int .i64 t458)) (fun _ hk => hk.2) (.int .i64 t459)) (fun _ hk => hk.2) (.int .i64 t460)) (fun _ hk => ⟨hk.1.1.2, hk.1.2⟩)⟩, ⟨by (with_reducible repeat (first | refine blk_drewN ?_ _ | refine blk_drew ?_ | refine blk_alloc ?_ _)); refine blk_far ?_ NB456_462.out _; (with_reducible repeat (first | refine blk_drewN ?_ _ | refine blk_drew ?_ | refine blk_alloc ?_ _)); refine blk_far ?_ NB456_462.out _; (with_reducible repeat (first | refine blk_drewN ?_ _ | refine blk_drew ?_ | refine blk_alloc ?_ _)); refine blk_far ?_ NB456_462.out _; (with_reducible repeat (first | refine blk_drewN ?_ _ | refine blk_drew ?_ | refine blk_alloc ?_ _)); refine blk_far ?_ NB456_462.out _; (with_reducible repeat (first | refine blk_drewN ?_ _ | refine blk_drew ?_ | refine blk_alloc ?_ _)); exact BK456.out⟩, ⟨by (with_reducible repeat (first | refine blk_drewN ?_ _ | refine blk_drew ?_ | refine blk_alloc ?_ _)); refine blk_put (cs := #[.int .i64 t457, .int .i64 t458, .int .i64 t459, .int .i64 0]) ?_ 3 _ rfl; (with_reducible repeat (first | refine blk_drewN ?_ _ | refine blk_drew ?_ | refine blk_alloc ?_ _)); refine blk_put (cs := #[.int .i64 t457, .int .i64 t458, .int .i64 0, .int .i64 0]) ?_ 2 _ rfl; (with_reducible repeat (first | refine blk_drewN ?_ _ | refine blk_drew ?_ | refine blk_alloc ?_ _)); refine blk_put (cs := #[.int .i64 t457, .int .i64 0, .int .i64 0, .int .i64 0]) ?_ 1 _ rfl; (with_reducible repeat (first | refine blk_drewN ?_ _ | refine blk_drew ?_ | refine blk_alloc ?_ _)); refine blk_put (cs := #[.int .i64 0, .int .i64 0, .int .i64 0, .int .i64 0]) ?_ 0 _ rfl; (with_reducible repeat (first | refine blk_drewN ?_ _ | refine blk_drew ?_ | refine blk_alloc ?_ _)); exact BK462.out⟩, ⟨bg2 HB.out GE456.out GE462.out⟩⟩
  rw [if_neg c17] at H
  have c17b0 : (!(t457 == t451) || (!(t458 == t452) || (!(t459 == t453) || (!(t460 == t454))))) = false := by simpa using c17
  clear c17
  replace H := Option.bind_eq_some_iff.mp H
  obtain ⟨t463, A210, H⟩ := H
  replace H : (if t463 = true then (if t450 < 1 then (laws_FnLast.j0 k t447 t450 t455 t461 true t451 t452 t453 t454 t457 t458 t459 t460) else (laws_FnLast.j0 k t447 t450 t455 t461 (decide (t450 > 6)) t451 t452 t453 t454 t457 t458 t459 t460)) else (laws_FnLast.j0 k t447 t450 t455 t461 true t451 t452 t453 t454 t457 t458 t459 t460)) = some r := H
  have A21 := am A210
  clear A210
  by_cases c22 : t463 = true
  rotate_left
  · replace c22 := Bool.eq_false_iff.mpr c22
    subst c22
    have H1 : (laws_FnLast.j0 k t447 t450 t455 t461 true t451 t452 t453 t454 t457 t458 t459 t460) = some r := by rw [if_neg (show ¬ (false = true) by decide)] at H; exact H
    clear H
    have H := H1
    clear H1
    have H' := am H
    clear H
    have hnb32 := NB462_456.out
    have hnc32 := NB456_462.out
    obtain ⟨hcz33_0, hcz33_1, hcz33_2, hcz33_3⟩ := b4 BK462.out
    obtain ⟨hfz33_0, hfz33_1, hfz33_2, hfz33_3⟩ := f4 BK462.out
    obtain ⟨hcz34_0, hcz34_1, hcz34_2, hcz34_3⟩ := b4 BK456.out
    obtain ⟨hfz34_0, hfz34_1, hfz34_2, hfz34_3⟩ := f4 BK456.out
    go_wp2_with (first | (go_at_call 7; (with_reducible refine (spec_FlashOk.calls _ _ t447 false _ ?side1 ?side2 A21.out).mono ?_); (case side1 => refine (Kd.V_reads' (e := 35) (base := w.heap.size) (ok := fun k_ => ((True ∧ k_ ≠ gb456) ∧ k_ ≠ gb462)) (n := t447.length) (c := co8) ?_).2.2; exact (by (with_reducible repeat (first | apply Kd.V_alloc | apply Kd.V_drewN | apply Kd.V_drew)); exact (Kd.V_mono (Kd.V_far (p := ⟨gb462, 3, none⟩) (Kd.V_far (p := ⟨gb462, 2, none⟩) (Kd.V_far (p := ⟨gb462, 1, none⟩) (Kd.V_far (p := ⟨gb462, 0, none⟩) (Kd.V_mono HO449.out (fun k_ hk => (⟨hk, hk.2⟩ : _ ∧ k_ ≠ gb462))) (fun _ hk => hk.2) (.int .i64 t457)) (fun _ hk => hk.2) (.int .i64 t458)) (fun _ hk => hk.2) (.int .i64 t459)) (fun _ hk => hk.2) (.int .i64 t460)) (fun _ h_ => h_.1)))); (case side2 => exact (Kd.V_reads' HO449.out).2.1); rintro e w35 ⟨rfl, hb⟩; replace HO449 := am (Kd.V_below (by (with_reducible repeat (first | apply Kd.V_alloc | apply Kd.V_drewN | apply Kd.V_drew)); exact (Kd.V_mono (Kd.V_far (p := ⟨gb462, 3, none⟩) (Kd.V_far (p := ⟨gb462, 2, none⟩) (Kd.V_far (p := ⟨gb462, 1, none⟩) (Kd.V_far (p := ⟨gb462, 0, none⟩) (Kd.V_mono HO449.out (fun k_ hk => (⟨hk, hk.2⟩ : _ ∧ k_ ≠ gb462))) (fun _ hk => hk.2) (.int .i64 t457)) (fun _ hk => hk.2) (.int .i64 t458)) (fun _ hk => hk.2) (.int .i64 t459)) (fun _ hk => hk.2) (.int .i64 t460)) (fun _ h_ => h_.1))) hb); replace BK456 := am (blk_below (g := gb456) (o := .cells #[.int .i64 t451, .int .i64 t452, .int .i64 t453, .int .i64 t454] 27 (0, 0)) (by (with_reducible repeat (first | refine blk_drewN ?_ _ | refine blk_drew ?_ | refine blk_alloc ?_ _)); refine blk_far ?_ NB456_462.out _; (with_reducible repeat (first | refine blk_drewN ?_ _ | refine blk_drew ?_ | refine blk_alloc ?_ _)); refine blk_far ?_ NB456_462.out _; (with_reducible repeat (first | refine blk_drewN ?_ _ | refine blk_drew ?_ | refine blk_alloc ?_ _)); refine blk_far ?_ NB456_462.out _; (with_reducible repeat (first | refine blk_drewN ?_ _ | refine blk_drew ?_ | refine blk_alloc ?_ _)); refine blk_far ?_ NB456_462.out _; (with_reducible repeat (first | refine blk_drewN ?_ _ | refine blk_drew ?_ | refine blk_alloc ?_ _)); exact BK456.out) hb); replace BK462 := am (blk_below (g := gb462) (o := .cells #[.int .i64 t457, .int .i64 t458, .int .i64 t459, .int .i64 t460] 27 (0, 0)) (by (with_reducible repeat (first | refine blk_drewN ?_ _ | refine blk_drew ?_ | refine blk_alloc ?_ _)); refine blk_put (cs := #[.int .i64 t457, .int .i64 t458, .int .i64 t459, .int .i64 0]) ?_ 3 _ rfl; (with_reducible repeat (first | refine blk_drewN ?_ _ | refine blk_drew ?_ | refine blk_alloc ?_ _)); refine blk_put (cs := #[.int .i64 t457, .int .i64 t458, .int .i64 0, .int .i64 0]) ?_ 2 _ rfl; (with_reducible repeat (first | refine blk_drewN ?_ _ | refine blk_drew ?_ | refine blk_alloc ?_ _)); refine blk_put (cs := #[.int .i64 t457, .int .i64 0, .int .i64 0, .int .i64 0]) ?_ 1 _ rfl; (with_reducible repeat (first | refine blk_drewN ?_ _ | refine blk_drew ?_ | refine blk_alloc ?_ _)); refine blk_put (cs := #[.int .i64 0, .int .i64 0, .int .i64 0, .int .i64 0]) ?_ 0 _ rfl; (with_reducible repeat (first | refine blk_drewN ?_ _ | refine blk_drew ?_ | refine blk_alloc ?_ _)); exact BK462.out) hb); replace HB := am (below_step (bg2 HB.out GE456.out GE462.out) hb); (try clear hb); (try clear hb2); (try clear hk); (try clear hi)))
    go_meet
    case rel => exact ⟨_, (true), rf, H', ⟨by first | omega | exact Nat.le_refl _⟩, ⟨by (with_reducible repeat (first | apply Kd.V_alloc | apply Kd.V_drewN | apply Kd.V_drew)); exact Kd.V_mono HO449.out (fun _ hk => ⟨hk.1.2, hk.2⟩)⟩, ⟨pb BK456.out⟩, ⟨pb BK462.out⟩, ⟨bg2 HB.out GE456.out GE462.out⟩⟩
  subst c22
  have H1 : (if t450 < 1 then (laws_FnLast.j0 k t447 t450 t455 t461 true t451 t452 t453 t454 t457 t458 t459 t460) else (laws_FnLast.j0 k t447 t450 t455 t461 (decide (t450 > 6)) t451 t452 t453 t454 t457 t458 t459 t460)) = some r := by rw [if_pos rfl] at H; exact H
  clear H
  have H := H1
  clear H1
  by_cases c23 : t450 < 1
  · rw [if_pos c23] at H
    have c23b0 := decide_eq_true c23
    clear c23
    have H' := am H
    clear H
    have hnb24 := NB462_456.out
    have hnc24 := NB456_462.out
    obtain ⟨hcz25_0, hcz25_1, hcz25_2, hcz25_3⟩ := b4 BK462.out
    obtain ⟨hfz25_0, hfz25_1, hfz25_2, hfz25_3⟩ := f4 BK462.out
    obtain ⟨hcz26_0, hcz26_1, hcz26_2, hcz26_3⟩ := b4 BK456.out
    obtain ⟨hfz26_0, hfz26_1, hfz26_2, hfz26_3⟩ := f4 BK456.out
    go_wp2_with (first | (go_at_call 7; (with_reducible refine (spec_FlashOk.calls _ _ t447 true _ ?side1 ?side2 A21.out).mono ?_); (case side1 => refine (Kd.V_reads' (e := 35) (base := w.heap.size) (ok := fun k_ => ((True ∧ k_ ≠ gb456) ∧ k_ ≠ gb462)) (n := t447.length) (c := co8) ?_).2.2; exact (by (with_reducible repeat (first | apply Kd.V_alloc | apply Kd.V_drewN | apply Kd.V_drew)); exact (Kd.V_mono (Kd.V_far (p := ⟨gb462, 3, none⟩) (Kd.V_far (p := ⟨gb462, 2, none⟩) (Kd.V_far (p := ⟨gb462, 1, none⟩) (Kd.V_far (p := ⟨gb462, 0, none⟩) (Kd.V_mono HO449.out (fun k_ hk => (⟨hk, hk.2⟩ : _ ∧ k_ ≠ gb462))) (fun _ hk => hk.2) (.int .i64 t457)) (fun _ hk => hk.2) (.int .i64 t458)) (fun _ hk => hk.2) (.int .i64 t459)) (fun _ hk => hk.2) (.int .i64 t460)) (fun _ h_ => h_.1)))); (case side2 => exact (Kd.V_reads' HO449.out).2.1); rintro e w27 ⟨rfl, hb⟩; replace HO449 := am (Kd.V_below (by (with_reducible repeat (first | apply Kd.V_alloc | apply Kd.V_drewN | apply Kd.V_drew)); exact (Kd.V_mono (Kd.V_far (p := ⟨gb462, 3, none⟩) (Kd.V_far (p := ⟨gb462, 2, none⟩) (Kd.V_far (p := ⟨gb462, 1, none⟩) (Kd.V_far (p := ⟨gb462, 0, none⟩) (Kd.V_mono HO449.out (fun k_ hk => (⟨hk, hk.2⟩ : _ ∧ k_ ≠ gb462))) (fun _ hk => hk.2) (.int .i64 t457)) (fun _ hk => hk.2) (.int .i64 t458)) (fun _ hk => hk.2) (.int .i64 t459)) (fun _ hk => hk.2) (.int .i64 t460)) (fun _ h_ => h_.1))) hb); replace BK456 := am (blk_below (g := gb456) (o := .cells #[.int .i64 t451, .int .i64 t452, .int .i64 t453, .int .i64 t454] 27 (0, 0)) (by (with_reducible repeat (first | refine blk_drewN ?_ _ | refine blk_drew ?_ | refine blk_alloc ?_ _)); refine blk_far ?_ NB456_462.out _; (with_reducible repeat (first | refine blk_drewN ?_ _ | refine blk_drew ?_ | refine blk_alloc ?_ _)); refine blk_far ?_ NB456_462.out _; (with_reducible repeat (first | refine blk_drewN ?_ _ | refine blk_drew ?_ | refine blk_alloc ?_ _)); refine blk_far ?_ NB456_462.out _; (with_reducible repeat (first | refine blk_drewN ?_ _ | refine blk_drew ?_ | refine blk_alloc ?_ _)); refine blk_far ?_ NB456_462.out _; (with_reducible repeat (first | refine blk_drewN ?_ _ | refine blk_drew ?_ | refine blk_alloc ?_ _)); exact BK456.out) hb); replace BK462 := am (blk_below (g := gb462) (o := .cells #[.int .i64 t457, .int .i64 t458, .int .i64 t459, .int .i64 t460] 27 (0, 0)) (by (with_reducible repeat (first | refine blk_drewN ?_ _ | refine blk_drew ?_ | refine blk_alloc ?_ _)); refine blk_put (cs := #[.int .i64 t457, .int .i64 t458, .int .i64 t459, .int .i64 0]) ?_ 3 _ rfl; (with_reducible repeat (first | refine blk_drewN ?_ _ | refine blk_drew ?_ | refine blk_alloc ?_ _)); refine blk_put (cs := #[.int .i64 t457, .int .i64 t458, .int .i64 0, .int .i64 0]) ?_ 2 _ rfl; (with_reducible repeat (first | refine blk_drewN ?_ _ | refine blk_drew ?_ | refine blk_alloc ?_ _)); refine blk_put (cs := #[.int .i64 t457, .int .i64 0, .int .i64 0, .int .i64 0]) ?_ 1 _ rfl; (with_reducible repeat (first | refine blk_drewN ?_ _ | refine blk_drew ?_ | refine blk_alloc ?_ _)); refine blk_put (cs := #[.int .i64 0, .int .i64 0, .int .i64 0, .int .i64 0]) ?_ 0 _ rfl; (with_reducible repeat (first | refine blk_drewN ?_ _ | refine blk_drew ?_ | refine blk_alloc ?_ _)); exact BK462.out) hb); replace HB := am (below_step (bg2 HB.out GE456.out GE462.out) hb); (try clear hb); (try clear hb2); (try clear hk); (try clear hi)))
    go_meet
    case rel => exact ⟨_, (true), rf, H', ⟨by first | omega | exact Nat.le_refl _⟩, ⟨by (with_reducible repeat (first | apply Kd.V_alloc | apply Kd.V_drewN | apply Kd.V_drew)); exact Kd.V_mono HO449.out (fun _ hk => ⟨hk.1.2, hk.2⟩)⟩, ⟨pb BK456.out⟩, ⟨pb BK462.out⟩, ⟨bg2 HB.out GE456.out GE462.out⟩⟩
  rw [if_neg c23] at H
  have c23b0 := decide_eq_false c23
  clear c23
  have H' := am H
  clear H
  have hnb28 := NB462_456.out
  have hnc28 := NB456_462.out
  obtain ⟨hcz29_0, hcz29_1, hcz29_2, hcz29_3⟩ := b4 BK462.out
  obtain ⟨hfz29_0, hfz29_1, hfz29_2, hfz29_3⟩ := f4 BK462.out
  obtain ⟨hcz30_0, hcz30_1, hcz30_2, hcz30_3⟩ := b4 BK456.out
  obtain ⟨hfz30_0, hfz30_1, hfz30_2, hfz30_3⟩ := f4 BK456.out
  go_wp2_with (first | (go_at_call 7; (with_reducible refine (spec_FlashOk.calls _ _ t447 true _ ?side1 ?side2 A21.out).mono ?_); (case side1 => refine (Kd.V_reads' (e := 35) (base := w.heap.size) (ok := fun k_ => ((True ∧ k_ ≠ gb456) ∧ k_ ≠ gb462)) (n := t447.length) (c := co8) ?_).2.2; exact (by (with_reducible repeat (first | apply Kd.V_alloc | apply Kd.V_drewN | apply Kd.V_drew)); exact (Kd.V_mono (Kd.V_far (p := ⟨gb462, 3, none⟩) (Kd.V_far (p := ⟨gb462, 2, none⟩) (Kd.V_far (p := ⟨gb462, 1, none⟩) (Kd.V_far (p := ⟨gb462, 0, none⟩) (Kd.V_mono HO449.out (fun k_ hk => (⟨hk, hk.2⟩ : _ ∧ k_ ≠ gb462))) (fun _ hk => hk.2) (.int .i64 t457)) (fun _ hk => hk.2) (.int .i64 t458)) (fun _ hk => hk.2) (.int .i64 t459)) (fun _ hk => hk.2) (.int .i64 t460)) (fun _ h_ => h_.1)))); (case side2 => exact (Kd.V_reads' HO449.out).2.1); rintro e w31 ⟨rfl, hb⟩; replace HO449 := am (Kd.V_below (by (with_reducible repeat (first | apply Kd.V_alloc | apply Kd.V_drewN | apply Kd.V_drew)); exact (Kd.V_mono (Kd.V_far (p := ⟨gb462, 3, none⟩) (Kd.V_far (p := ⟨gb462, 2, none⟩) (Kd.V_far (p := ⟨gb462, 1, none⟩) (Kd.V_far (p := ⟨gb462, 0, none⟩) (Kd.V_mono HO449.out (fun k_ hk => (⟨hk, hk.2⟩ : _ ∧ k_ ≠ gb462))) (fun _ hk => hk.2) (.int .i64 t457)) (fun _ hk => hk.2) (.int .i64 t458)) (fun _ hk => hk.2) (.int .i64 t459)) (fun _ hk => hk.2) (.int .i64 t460)) (fun _ h_ => h_.1))) hb); replace BK456 := am (blk_below (g := gb456) (o := .cells #[.int .i64 t451, .int .i64 t452, .int .i64 t453, .int .i64 t454] 27 (0, 0)) (by (with_reducible repeat (first | refine blk_drewN ?_ _ | refine blk_drew ?_ | refine blk_alloc ?_ _)); refine blk_far ?_ NB456_462.out _; (with_reducible repeat (first | refine blk_drewN ?_ _ | refine blk_drew ?_ | refine blk_alloc ?_ _)); refine blk_far ?_ NB456_462.out _; (with_reducible repeat (first | refine blk_drewN ?_ _ | refine blk_drew ?_ | refine blk_alloc ?_ _)); refine blk_far ?_ NB456_462.out _; (with_reducible repeat (first | refine blk_drewN ?_ _ | refine blk_drew ?_ | refine blk_alloc ?_ _)); refine blk_far ?_ NB456_462.out _; (with_reducible repeat (first | refine blk_drewN ?_ _ | refine blk_drew ?_ | refine blk_alloc ?_ _)); exact BK456.out) hb); replace BK462 := am (blk_below (g := gb462) (o := .cells #[.int .i64 t457, .int .i64 t458, .int .i64 t459, .int .i64 t460] 27 (0, 0)) (by (with_reducible repeat (first | refine blk_drewN ?_ _ | refine blk_drew ?_ | refine blk_alloc ?_ _)); refine blk_put (cs := #[.int .i64 t457, .int .i64 t458, .int .i64 t459, .int .i64 0]) ?_ 3 _ rfl; (with_reducible repeat (first | refine blk_drewN ?_ _ | refine blk_drew ?_ | refine blk_alloc ?_ _)); refine blk_put (cs := #[.int .i64 t457, .int .i64 t458, .int .i64 0, .int .i64 0]) ?_ 2 _ rfl; (with_reducible repeat (first | refine blk_drewN ?_ _ | refine blk_drew ?_ | refine blk_alloc ?_ _)); refine blk_put (cs := #[.int .i64 t457, .int .i64 0, .int .i64 0, .int .i64 0]) ?_ 1 _ rfl; (with_reducible repeat (first | refine blk_drewN ?_ _ | refine blk_drew ?_ | refine blk_alloc ?_ _)); refine blk_put (cs := #[.int .i64 0, .int .i64 0, .int .i64 0, .int .i64 0]) ?_ 0 _ rfl; (with_reducible repeat (first | refine blk_drewN ?_ _ | refine blk_drew ?_ | refine blk_alloc ?_ _)); exact BK462.out) hb); replace HB := am (below_step (bg2 HB.out GE456.out GE462.out) hb); (try clear hb); (try clear hb2); (try clear hk); (try clear hi)))
  go_meet
  case rel => exact ⟨_, (decide (t450 > 6)), rf, H', ⟨by first | omega | exact Nat.le_refl _⟩, ⟨by (with_reducible repeat (first | apply Kd.V_alloc | apply Kd.V_drewN | apply Kd.V_drew)); exact Kd.V_mono HO449.out (fun _ hk => ⟨hk.1.2, hk.2⟩)⟩, ⟨pb BK456.out⟩, ⟨pb BK462.out⟩, ⟨bg2 HB.out GE456.out GE462.out⟩⟩
 case rest =>
  clear HC6
  obtain ⟨kq, x53_5, rfl, HA, HJ5, HO_3, BK456, BK462, HB⟩ := hcut
  cases kq with
  | zero => exact absurd HA.out (by simp [laws_FnLast.j0])
  | succ kj5 =>
   have H := HA.out
   clear HA
   simp only [laws_FnLast.j0] at H
   by_cases c36 : x53_5 = true
   · subst c36
     have H1 : (if (t461 == t455) = true then (some (t457 == t451 && (t458 == t452 && (t459 == t453 && (t460 == t454))))) else (some false)) = some r := by rw [if_pos rfl] at H; exact H
     clear H
     have H := H1
     clear H1
     by_cases c37 : (t461 == t455) = true
     rotate_left
     · rw [if_neg c37] at H
       have c37b0 : (t461 == t455) = false := by simpa using c37
       (try (have c37b1 : decide (t461 = t455) = false := by simpa using c37))
       (try (have c37b2 : (t461 == t455) = false := by simpa using c37))
       (try (have c37b3 : ¬ (t461 = t455) := by simpa using c37))
       clear c37
       obtain rfl := Option.some.inj H
       go_wp2
       go_ret
       exact (rq (bg2 HB.out GE456.out GE462.out))
     rw [if_pos c37] at H
     have c37b0 : (t461 == t455) = true := c37
     (try (have c37b1 : decide (t461 = t455) = true := by simpa using c37))
     (try (have c37b2 : (t461 == t455) = true := by simpa using c37))
     clear c37
     obtain rfl := Option.some.inj H
     have hnb38 := NB462_456.out
     have hnc38 := NB456_462.out
     obtain ⟨hcz39_0, hcz39_1, hcz39_2, hcz39_3⟩ := b4 BK462.out
     obtain ⟨hfz39_0, hfz39_1, hfz39_2, hfz39_3⟩ := f4 BK462.out
     obtain ⟨hcz40_0, hcz40_1, hcz40_2, hcz40_3⟩ := b4 BK456.out
     obtain ⟨hfz40_0, hfz40_1, hfz40_2, hfz40_3⟩ := f4 BK456.out
     go_wp2
     go_ret
     exact (rq (bg2 HB.out GE456.out GE462.out))
   replace c36 := Bool.eq_false_iff.mpr c36
   subst c36
   have H1 : (laws_FnLast.l0 kj5 t447 t450 t461 false 0 t457 t458 t459 t460) = some r := by rw [if_neg (show ¬ (false = true) by decide)] at H; exact H
   clear H
   have H := H1
   clear H1
   have H' := am H
   clear H
   go_wp2
   go_loopg [9, 10] kj5 (fun kq v9 v10 w' => ∃ (x9_2 : Bool) (x10_2 : Int), v9 = .bool x9_2 ∧ v10 = .int .i64 x10_2 ∧ Aside0 (laws_FnLast.l0 kq t447 t450 t461 x9_2 x10_2 t457 t458 t459 t460 = some r) ∧ Aside0 (kq ≤ kj5) ∧ Aside0 (Kd.V k35 35 w' w.heap.size (fun k_ => k_ ≠ gb456 ∧ k_ ≠ gb462) (.slice Ao8 t447.length co8) t447) ∧ Aside0 (w'.heap[gb456]? = some (.cells #[.int .i64 t451, .int .i64 t452, .int .i64 t453, .int .i64 t454] 27 (0, 0))) ∧ Aside0 (w'.heap[gb462]? = some (.cells #[.int .i64 t457, .int .i64 t458, .int .i64 t459, .int .i64 t460] 27 (0, 0))) ∧ Aside0 (Below w.heap.size w w'))
   case atStart => exact ⟨(false), (0), rf, rf, H', ⟨Nat.le_refl _⟩, ⟨by (with_reducible repeat (first | apply Kd.V_alloc | apply Kd.V_drewN | apply Kd.V_drew)); exact HO_3.out⟩, ⟨pb BK456.out⟩, ⟨pb BK462.out⟩, ⟨bg2 HB.out GE456.out GE462.out⟩⟩
   case round =>
    clear H'
    obtain ⟨x9_2, x10_2, rfl, rfl, HA, HK2, HO_3, BK456, BK462, HB⟩ := hrel
    cases gk with
    | zero => exact absurd HA.out (by simp [laws_FnLast.l0])
    | succ k2 =>
     have H := HA.out
     clear HA
     simp only [laws_FnLast.l0] at H
     by_cases c41 : x10_2 < (t447.length : Int)
     rotate_left
     · rw [if_neg c41] at H
       have c41b0 := decide_eq_false c41
       clear c41
       by_cases c71 : (t461 == x9_2) = true
       rotate_left
       · rw [if_neg c71] at H
         have c71b0 : (t461 == x9_2) = false := by simpa using c71
         (try (have c71b1 : decide (t461 = x9_2) = false := by simpa using c71))
         (try (have c71b2 : (t461 == x9_2) = false := by simpa using c71))
         (try (have c71b3 : ¬ (t461 = x9_2) := by simpa using c71))
         clear c71
         obtain rfl := Option.some.inj H
         go_wp2
         go_ret
         exact (rq (bg2 HB.out GE456.out GE462.out))
       rw [if_pos c71] at H
       have c71b0 : (t461 == x9_2) = true := c71
       (try (have c71b1 : decide (t461 = x9_2) = true := by simpa using c71))
       (try (have c71b2 : (t461 == x9_2) = true := by simpa using c71))
       clear c71
       by_cases c72 : t461 = true
       rotate_left
       · replace c72 := Bool.eq_false_iff.mpr c72
         subst c72
         have H1 : (some true) = some r := by rw [if_neg (show ¬ (false = true) by decide)] at H; exact H
         clear H
         have H := H1
         clear H1
         obtain rfl := Option.some.inj H
         go_wp2
         go_ret
         exact (rq (bg2 HB.out GE456.out GE462.out))
       subst c72
       have H1 : ((laws_lqHas.f k2 t447 t457 t458 t459 t460).bind fun t464 => (if t464 = true then (some (t459 == t450)) else (some false))) = some r := by rw [if_pos rfl] at H; exact H
       clear H
       have H := H1
       clear H1
       replace H := Option.bind_eq_some_iff.mp H
       obtain ⟨t464, A730, H⟩ := H
       replace H : (if t464 = true then (some (t459 == t450)) else (some false)) = some r := H
       have A73 := am A730
       clear A730
       by_cases c74 : t464 = true
       rotate_left
       · replace c74 := Bool.eq_false_iff.mpr c74
         subst c74
         have H1 : (some false) = some r := by rw [if_neg (show ¬ (false = true) by decide)] at H; exact H
         clear H
         have H := H1
         clear H1
         obtain rfl := Option.some.inj H
         have hnb79 := NB462_456.out
         have hnc79 := NB456_462.out
         obtain ⟨hcz80_0, hcz80_1, hcz80_2, hcz80_3⟩ := b4 BK462.out
         obtain ⟨hfz80_0, hfz80_1, hfz80_2, hfz80_3⟩ := f4 BK462.out
         go_wp2_with (first | (go_at_call 8; (with_reducible refine (laws_lqHas.calls k2 _ _ t447 t457 t458 t459 t460 false _ ?side1 ?side2 A73.out).mono ?_); (case side1 => repeat (first | exact (Kd.V_reads' HO_3.out).2.2 | (with_reducible refine Kd.C_alloc ?_ _) | (with_reducible refine Kd.C_drewN ?_ _) | (with_reducible refine Kd.C_drew ?_))); (case side2 => exact (Kd.V_reads' HO_3.out).2.1); rintro e w81 ⟨rfl, hb⟩; replace HO_3 := am (Kd.V_below (by (with_reducible repeat (first | apply Kd.V_alloc | apply Kd.V_drewN | apply Kd.V_drew)); exact HO_3.out) hb); replace BK456 := am (blk_below (pb BK456.out) hb); replace BK462 := am (blk_below (pb BK462.out) hb); replace HB := am (below_step (bg2 HB.out GE456.out GE462.out) hb); (try clear hb); (try clear hb2); (try clear hk); (try clear hi)))
         go_ret
         exact (rq (bg2 HB.out GE456.out GE462.out))
       subst c74
       have H1 : (some (t459 == t450)) = some r := by rw [if_pos rfl] at H; exact H
       clear H
       have H := H1
       clear H1
       obtain rfl := Option.some.inj H
       have hnb75 := NB462_456.out
       have hnc75 := NB456_462.out
       obtain ⟨hcz76_0, hcz76_1, hcz76_2, hcz76_3⟩ := b4 BK462.out
       obtain ⟨hfz76_0, hfz76_1, hfz76_2, hfz76_3⟩ := f4 BK462.out
       go_wp2_with (first | (go_at_call 8; (with_reducible refine (laws_lqHas.calls k2 _ _ t447 t457 t458 t459 t460 true _ ?side1 ?side2 A73.out).mono ?_); (case side1 => repeat (first | exact (Kd.V_reads' HO_3.out).2.2 | (with_reducible refine Kd.C_alloc ?_ _) | (with_reducible refine Kd.C_drewN ?_ _) | (with_reducible refine Kd.C_drew ?_))); (case side2 => exact (Kd.V_reads' HO_3.out).2.1); rintro e w77 ⟨rfl, hb⟩; replace HO_3 := am (Kd.V_below (by (with_reducible repeat (first | apply Kd.V_alloc | apply Kd.V_drewN | apply Kd.V_drew)); exact HO_3.out) hb); replace BK456 := am (blk_below (pb BK456.out) hb); replace BK462 := am (blk_below (pb BK462.out) hb); replace HB := am (below_step (bg2 HB.out GE456.out GE462.out) hb); (try clear hb); (try clear hb2); (try clear hk); (try clear hi); obtain ⟨hcz78_0, hcz78_1, hcz78_2, hcz78_3⟩ := b4 BK462.out; obtain ⟨hfz78_0, hfz78_1, hfz78_2, hfz78_3⟩ := f4 BK462.out))
       go_ret
       exact (rq (bg2 HB.out GE456.out GE462.out))
     rw [if_pos c41] at H
     have c41b0 := decide_eq_true c41
     clear c41
     have H' := am H
     clear H
     go_wp2
     go_loopg [9, 11] k2 (fun kq v9 v11 w' => ∃ (x9_3 : Bool) (x11_3 : Int), v9 = .bool x9_3 ∧ v11 = .int .i64 x11_3 ∧ Aside0 (laws_FnLast.l1 kq t447 t450 t461 x9_3 x10_2 x11_3 t457 t458 t459 t460 = some r) ∧ Aside0 (kq ≤ k2) ∧ Aside0 (Kd.V k35 35 w' w.heap.size (fun k_ => k_ ≠ gb456 ∧ k_ ≠ gb462) (.slice Ao8 t447.length co8) t447) ∧ Aside0 (w'.heap[gb456]? = some (.cells #[.int .i64 t451, .int .i64 t452, .int .i64 t453, .int .i64 t454] 27 (0, 0))) ∧ Aside0 (w'.heap[gb462]? = some (.cells #[.int .i64 t457, .int .i64 t458, .int .i64 t459, .int .i64 t460] 27 (0, 0))) ∧ Aside0 (Below w.heap.size w w'))
     case atStart => exact ⟨(x9_2), (0), rf, rf, H', ⟨Nat.le_refl _⟩, ⟨by (with_reducible repeat (first | apply Kd.V_alloc | apply Kd.V_drewN | apply Kd.V_drew)); exact HO_3.out⟩, ⟨pb BK456.out⟩, ⟨pb BK462.out⟩, ⟨bg2 HB.out GE456.out GE462.out⟩⟩
     case round =>
      clear H'
      obtain ⟨x9_3, x11_3, rfl, rfl, HA, HK3, HO_3, BK456, BK462, HB⟩ := hrel
      cases gk with
      | zero => exact absurd HA.out (by simp [laws_FnLast.l1])
      | succ k3 =>
       have H := HA.out
       clear HA
       simp only [laws_FnLast.l1] at H
       by_cases c42 : x11_3 < 4
       rotate_left
       · rw [if_neg c42] at H
         have c42b0 := decide_eq_false c42
         clear c42
         have H' := am H
         clear H
         go_wp2
         go_roundg k3
         case measure => have := HJ5.out; have := HK2.out; have := HK3.out; omega
         case rel => exact ⟨(x9_3), (wrap64 (x10_2 + 1)), rf, rf, H', ⟨by have := HJ5.out; have := HK2.out; have := HK3.out; omega⟩, ⟨by (with_reducible repeat (first | apply Kd.V_alloc | apply Kd.V_drewN | apply Kd.V_drew)); exact HO_3.out⟩, ⟨pb BK456.out⟩, ⟨pb BK462.out⟩, ⟨bg2 HB.out GE456.out GE462.out⟩⟩
       rw [if_pos c42] at H
       have c42b0 := decide_eq_true c42
       clear c42
       by_cases c43 : 0 ≤ x10_2
       rotate_left
       · rw [if_neg c43] at H
         exact absurd H (by simp)
       rw [if_pos c43] at H
       have c43b0 := decide_eq_true c43
       clear c43
       by_cases c44 : x10_2 < (t447.length : Int)
       rotate_left
       · rw [if_neg c44] at H
         exact absurd H (by simp)
       rw [if_pos c44] at H
       have c44b0 := decide_eq_true c44
       clear c44
       by_cases c45 : 0 ≤ x11_3
       rotate_left
       · rw [if_neg c45] at H
         exact absurd H (by simp)
       rw [if_pos c45] at H
       have c45b0 := decide_eq_true c45
       clear c45
       by_cases c46 : x11_3 < (((rd_T35 t447 x10_2).f0).length : Int)
       rotate_left
       · rw [if_neg c46] at H
         exact absurd H (by simp)
       rw [if_pos c46] at H
       have c46b0 := decide_eq_true c46
       clear c46
       have HC47 := am H
       clear H
       have p465 : 0 ≤ (x10_2 : Int) := ofb
       have q465 : x10_2 < (t447.length : Int) := ofb
       obtain ⟨ad465, A465_0, c465_0, e465, hx465_0, hx465_1, hl465_0, hi465_0⟩ := at_T35 (Kd.V_reads' HO_3.out).2.2 x10_2 p465 q465
       cases e465
       obtain ⟨ce465, hce465, hMe465, hcc465⟩ := Kd.V_get HO_3.out z35 x10_2 p465 (by first | exact q465 | exact ofb | (have e_ := (Kd.V_reads' HO_3.out).1; omega))
       obtain ⟨ua465_0, uc465_0, rfl, ul465_0, ge465_0⟩ := k35_openF hMe465
       have hv465_0 := hcc465 0 _ rfl
       rw [Nat.add_zero] at hv465_0
       replace hv465_0 := Option.some.inj (hv465_0.symm.trans hx465_0)
       injection hv465_0 with hva_ hvn_ hvc_
       rw [hva_] at ge465_0
       rw [hvc_] at ul465_0
       have HL465_0 := am (show Kd.V k32 32 _ w.heap.size _ _ ((rd_T35 t447 x10_2).f0) from Kd.V_mk ul465_0 ge465_0)
       clear hva_ hvn_ hvc_ ge465_0 ul465_0
       clear hcc465 hce465
       have HR465_0 := am hi465_0
       have HC465_0 := am hl465_0
       clear hi465_0 hl465_0
       replace p465 := eq_true p465
       replace q465 := eq_true q465
       have p466 : 0 ≤ (x11_3 : Int) := ofb
       have q466 : x11_3 < (((rd_T35 t447 x10_2).f0).length : Int) := ofb
       obtain ⟨ad466, e466, hx466_0, hx466_1, hx466_2, hx466_3, hx466_4⟩ := at_T32 (by repeat (first | (with_reducible exact HR465_0.out) | (with_reducible refine Kd.C_alloc ?_ _) | (with_reducible refine Kd.C_drewN ?_ _) | (with_reducible refine Kd.C_drew ?_) | exact HR465_0.out)) x11_3 p466 q466
       cases e466
       replace p466 := eq_true p466
       replace q466 := eq_true q466
       go_upto_region 16 with (first | (refine bx 12 #[.int .i64 0, .int .i64 0, .int .i64 0, .int .i64 0, .int .i64 0] 32 rfl ?_; intro gb467 hg w48 hbox hb; replace HO_3 := am (Kd.V_below (Kd.V_elderB (by (with_reducible repeat (first | apply Kd.V_alloc | apply Kd.V_drewN | apply Kd.V_drew)); exact HO_3.out) gb467 (Nat.le_of_eq hg.symm)) hb); replace HL465_0 := am (Kd.V_below (Kd.V_elderB (by (with_reducible repeat (first | apply Kd.V_alloc | apply Kd.V_drewN | apply Kd.V_drew)); exact HL465_0.out) gb467 (Nat.le_of_eq hg.symm)) hb); replace HR465_0 := am (Kd.C_below (by repeat (first | (with_reducible exact HR465_0.out) | (with_reducible refine Kd.C_alloc ?_ _) | (with_reducible refine Kd.C_drewN ?_ _) | (with_reducible refine Kd.C_drew ?_) | exact HR465_0.out)) hb); have BK467 := am (hbox); have GW467 := am ((by rw [hg]; exact (below_size (bg2 HB.out GE456.out GE462.out)) : w.heap.size ≤ gb467)); have GE467 := GW467; replace HB := am (below_step (bg2 HB.out GE456.out GE462.out) hb); have NB456_467 := am ((by rw [hg]; exact Nat.ne_of_lt (blk_lt (pb BK456.out)) : gb456 ≠ gb467)); have NB467_456 := am (Ne.symm NB456_467.out); replace BK456 := am (blk_below (pb BK456.out) hb); have NB462_467 := am ((by rw [hg]; exact Nat.ne_of_lt (blk_lt (pb BK462.out)) : gb462 ≠ gb467)); have NB467_462 := am (Ne.symm NB462_467.out); replace BK462 := am (blk_below (pb BK462.out) hb); clear hb hbox hg; have hnb49 := NB467_456.out; have hnc49 := NB456_467.out; have hnb50 := NB467_462.out; have hnc50 := NB462_467.out; obtain ⟨hcz51_0, hcz51_1, hcz51_2, hcz51_3, hcz51_4⟩ := b5 BK467.out; obtain ⟨hfz51_0, hfz51_1, hfz51_2, hfz51_3, hfz51_4⟩ := f5 BK467.out))
       (try simp only [Act.put, List.setIfInBounds_toArray, List.set_cons_zero, List.set_cons_succ])
       go_cut [89] (fun v89 wc => ∃ (kq : Nat) (x89_46 : Bool), v89 = .bool x89_46 ∧ Aside0 (laws_FnLast.j3 kq t447 t450 t461 x9_3 x10_2 x11_3 x89_46 t457 t458 t459 t460 ((rd_T32 ((rd_T35 t447 x10_2).f0) x11_3).f0) ((rd_T32 ((rd_T35 t447 x10_2).f0) x11_3).f1.f0) ((rd_T32 ((rd_T35 t447 x10_2).f0) x11_3).f1.f1) ((rd_T32 ((rd_T35 t447 x10_2).f0) x11_3).f1.f2) ((rd_T32 ((rd_T35 t447 x10_2).f0) x11_3).f1.f3) = some r) ∧ Aside0 (kq ≤ k3) ∧ Aside0 (Kd.V k35 35 wc w.heap.size (fun k_ => k_ ≠ gb456 ∧ k_ ≠ gb462 ∧ k_ ≠ gb467) (.slice (some ad465) t447.length co8) t447) ∧ Aside0 (wc.heap[gb456]? = some (.cells #[.int .i64 t451, .int .i64 t452, .int .i64 t453, .int .i64 t454] 27 (0, 0))) ∧ Aside0 (wc.heap[gb462]? = some (.cells #[.int .i64 t457, .int .i64 t458, .int .i64 t459, .int .i64 t460] 27 (0, 0))) ∧ Aside0 (wc.heap[gb467]? = some (.cells #[.int .i64 ((rd_T32 ((rd_T35 t447 x10_2).f0) x11_3).f0), .int .i64 ((rd_T32 ((rd_T35 t447 x10_2).f0) x11_3).f1.f0), .int .i64 ((rd_T32 ((rd_T35 t447 x10_2).f0) x11_3).f1.f1), .int .i64 ((rd_T32 ((rd_T35 t447 x10_2).f0) x11_3).f1.f2), .int .i64 ((rd_T32 ((rd_T35 t447 x10_2).f0) x11_3).f1.f3)] 32 (0, 0))) ∧ Aside0 (Kd.C k32 wc (some ad466) ((rd_T35 t447 x10_2).f0).length ((rd_T35 t447 x10_2).f0)) ∧ Aside0 (Below w.heap.size w wc))
       case first =>
        have H := HC47.out
        clear HC47
        by_cases c52 : ((rd_T32 ((rd_T35 t447 x10_2).f0) x11_3).f0) = 1
        rotate_left
        · rw [if_neg c52] at H
          have c52b0 : (((rd_T32 ((rd_T35 t447 x10_2).f0) x11_3).f0) == 1) = false := beq_eq_false_iff_ne.mpr c52
          have c52b1 : (((rd_T32 ((rd_T35 t447 x10_2).f0) x11_3).f0) != 1) = true := bne_iff_ne.mpr c52
          (first | rw [c52b0] | (simp only [i64_w, i32_w]; rw [c52b0]) | skip)
          have H' := am H
          clear H
          have hnb56 := NB467_456.out
          have hnc56 := NB456_467.out
          have hnb57 := NB467_462.out
          have hnc57 := NB462_467.out
          obtain ⟨hcz58_0, hcz58_1, hcz58_2, hcz58_3, hcz58_4⟩ := b5 BK467.out
          obtain ⟨hfz58_0, hfz58_1, hfz58_2, hfz58_3, hfz58_4⟩ := f5 BK467.out
          go_wp2
          go_meet
          case rel => exact ⟨_, (false), rf, H', ⟨by have := HJ5.out; have := HK2.out; have := HK3.out; first | omega | exact Nat.le_refl _⟩, ⟨by (with_reducible repeat (first | apply Kd.V_alloc | apply Kd.V_drewN | apply Kd.V_drew)); exact Kd.V_mono (Kd.V_far (p := ⟨gb467, 4, none⟩) (Kd.V_far (p := ⟨gb467, 3, none⟩) (Kd.V_far (p := ⟨gb467, 2, none⟩) (Kd.V_far (p := ⟨gb467, 1, none⟩) (Kd.V_far (p := ⟨gb467, 0, none⟩) (Kd.V_mono HO_3.out (fun k_ hk => (⟨hk, hk.2⟩ : _ ∧ k_ ≠ gb467))) (fun _ hk => hk.2) (.int .i64 ((rd_T32 ((rd_T35 t447 x10_2).f0) x11_3).f0))) (fun _ hk => hk.2) (.int .i64 ((rd_T32 ((rd_T35 t447 x10_2).f0) x11_3).f1.f0))) (fun _ hk => hk.2) (.int .i64 ((rd_T32 ((rd_T35 t447 x10_2).f0) x11_3).f1.f1))) (fun _ hk => hk.2) (.int .i64 ((rd_T32 ((rd_T35 t447 x10_2).f0) x11_3).f1.f2))) (fun _ hk => hk.2) (.int .i64 ((rd_T32 ((rd_T35 t447 x10_2).f0) x11_3).f1.f3))) (fun _ hk => ⟨hk.1.1.1, ⟨hk.1.1.2, hk.1.2⟩⟩)⟩, ⟨by (with_reducible repeat (first | refine blk_drewN ?_ _ | refine blk_drew ?_ | refine blk_alloc ?_ _)); refine blk_far ?_ NB456_467.out _; (with_reducible repeat (first | refine blk_drewN ?_ _ | refine blk_drew ?_ | refine blk_alloc ?_ _)); refine blk_far ?_ NB456_467.out _; (with_reducible repeat (first | refine blk_drewN ?_ _ | refine blk_drew ?_ | refine blk_alloc ?_ _)); refine blk_far ?_ NB456_467.out _; (with_reducible repeat (first | refine blk_drewN ?_ _ | refine blk_drew ?_ | refine blk_alloc ?_ _)); refine blk_far ?_ NB456_467.out _; (with_reducible repeat (first | refine blk_drewN ?_ _ | refine blk_drew ?_ | refine blk_alloc ?_ _)); refine blk_far ?_ NB456_467.out _; (with_reducible repeat (first | refine blk_drewN ?_ _ | refine blk_drew ?_ | refine blk_alloc ?_ _)); exact BK456.out⟩, ⟨by (with_reducible repeat (first | refine blk_drewN ?_ _ | refine blk_drew ?_ | refine blk_alloc ?_ _)); refine blk_far ?_ NB462_467.out _; (with_reducible repeat (first | refine blk_drewN ?_ _ | refine blk_drew ?_ | refine blk_alloc ?_ _)); refine blk_far ?_ NB462_467.out _; (with_reducible repeat (first | refine blk_drewN ?_ _ | refine blk_drew ?_ | refine blk_alloc ?_ _)); refine blk_far ?_ NB462_467.out _; (with_reducible repeat (first | refine blk_drewN ?_ _ | refine blk_drew ?_ | refine blk_alloc ?_ _)); refine blk_far ?_ NB462_467.out _; (with_reducible repeat (first | refine blk_drewN ?_ _ | refine blk_drew ?_ | refine blk_alloc ?_ _)); refine blk_far ?_ NB462_467.out _; (with_reducible repeat (first | refine blk_drewN ?_ _ | refine blk_drew ?_ | refine blk_alloc ?_ _)); exact BK462.out⟩, ⟨by (with_reducible repeat (first | refine blk_drewN ?_ _ | refine blk_drew ?_ | refine blk_alloc ?_ _)); refine blk_put (cs := #[.int .i64 ((rd_T32 ((rd_T35 t447 x10_2).f0) x11_3).f0), .int .i64 ((rd_T32 ((rd_T35 t447 x10_2).f0) x11_3).f1.f0), .int .i64 ((rd_T32 ((rd_T35 t447 x10_2).f0) x11_3).f1.f1), .int .i64 ((rd_T32 ((rd_T35 t447 x10_2).f0) x11_3).f1.f2), .int .i64 0]) ?_ 4 _ rfl; (with_reducible repeat (first | refine blk_drewN ?_ _ | refine blk_drew ?_ | refine blk_alloc ?_ _)); refine blk_put (cs := #[.int .i64 ((rd_T32 ((rd_T35 t447 x10_2).f0) x11_3).f0), .int .i64 ((rd_T32 ((rd_T35 t447 x10_2).f0) x11_3).f1.f0), .int .i64 ((rd_T32 ((rd_T35 t447 x10_2).f0) x11_3).f1.f1), .int .i64 0, .int .i64 0]) ?_ 3 _ rfl; (with_reducible repeat (first | refine blk_drewN ?_ _ | refine blk_drew ?_ | refine blk_alloc ?_ _)); refine blk_put (cs := #[.int .i64 ((rd_T32 ((rd_T35 t447 x10_2).f0) x11_3).f0), .int .i64 ((rd_T32 ((rd_T35 t447 x10_2).f0) x11_3).f1.f0), .int .i64 0, .int .i64 0, .int .i64 0]) ?_ 2 _ rfl; (with_reducible repeat (first | refine blk_drewN ?_ _ | refine blk_drew ?_ | refine blk_alloc ?_ _)); refine blk_put (cs := #[.int .i64 ((rd_T32 ((rd_T35 t447 x10_2).f0) x11_3).f0), .int .i64 0, .int .i64 0, .int .i64 0, .int .i64 0]) ?_ 1 _ rfl; (with_reducible repeat (first | refine blk_drewN ?_ _ | refine blk_drew ?_ | refine blk_alloc ?_ _)); refine blk_put (cs := #[.int .i64 0, .int .i64 0, .int .i64 0, .int .i64 0, .int .i64 0]) ?_ 0 _ rfl; (with_reducible repeat (first | refine blk_drewN ?_ _ | refine blk_drew ?_ | refine blk_alloc ?_ _)); exact BK467.out⟩, ⟨(Kd.V_reads' (by (with_reducible repeat (first | apply Kd.V_alloc | apply Kd.V_drewN | apply Kd.V_drew)); exact (Kd.V_mono (Kd.V_far (p := ⟨gb467, 4, none⟩) (Kd.V_far (p := ⟨gb467, 3, none⟩) (Kd.V_far (p := ⟨gb467, 2, none⟩) (Kd.V_far (p := ⟨gb467, 1, none⟩) (Kd.V_far (p := ⟨gb467, 0, none⟩) (Kd.V_mono HL465_0.out (fun k_ hk => (⟨hk, hk.2⟩ : _ ∧ k_ ≠ gb467))) (fun _ hk => hk.2) (.int .i64 ((rd_T32 ((rd_T35 t447 x10_2).f0) x11_3).f0))) (fun _ hk => hk.2) (.int .i64 ((rd_T32 ((rd_T35 t447 x10_2).f0) x11_3).f1.f0))) (fun _ hk => hk.2) (.int .i64 ((rd_T32 ((rd_T35 t447 x10_2).f0) x11_3).f1.f1))) (fun _ hk => hk.2) (.int .i64 ((rd_T32 ((rd_T35 t447 x10_2).f0) x11_3).f1.f2))) (fun _ hk => hk.2) (.int .i64 ((rd_T32 ((rd_T35 t447 x10_2).f0) x11_3).f1.f3))) (fun _ h_ => h_.1)))).2.2⟩, ⟨bg3 HB.out GE456.out GE462.out GE467.out⟩⟩
        rw [if_pos c52] at H
        have c52b0 : (((rd_T32 ((rd_T35 t447 x10_2).f0) x11_3).f0) == 1) = true := beq_iff_eq.mpr c52
        have c52b1 : (((rd_T32 ((rd_T35 t447 x10_2).f0) x11_3).f0) != 1) = false := bne_eq_false_iff_eq.mpr c52
        clear c52
        (first | rw [c52b0] | (simp only [i64_w, i32_w]; rw [c52b0]) | skip)
        have H' := am H
        clear H
        have hnb53 := NB467_456.out
        have hnc53 := NB456_467.out
        have hnb54 := NB467_462.out
        have hnc54 := NB462_467.out
        obtain ⟨hcz55_0, hcz55_1, hcz55_2, hcz55_3, hcz55_4⟩ := b5 BK467.out
        obtain ⟨hfz55_0, hfz55_1, hfz55_2, hfz55_3, hfz55_4⟩ := f5 BK467.out
        go_wp2
        go_meet
        case rel => exact ⟨_, ((((rd_T32 ((rd_T35 t447 x10_2).f0) x11_3).f1.f2) == t450)), rf, H', ⟨by have := HJ5.out; have := HK2.out; have := HK3.out; first | omega | exact Nat.le_refl _⟩, ⟨by (with_reducible repeat (first | apply Kd.V_alloc | apply Kd.V_drewN | apply Kd.V_drew)); exact Kd.V_mono (Kd.V_far (p := ⟨gb467, 4, none⟩) (Kd.V_far (p := ⟨gb467, 3, none⟩) (Kd.V_far (p := ⟨gb467, 2, none⟩) (Kd.V_far (p := ⟨gb467, 1, none⟩) (Kd.V_far (p := ⟨gb467, 0, none⟩) (Kd.V_mono HO_3.out (fun k_ hk => (⟨hk, hk.2⟩ : _ ∧ k_ ≠ gb467))) (fun _ hk => hk.2) (.int .i64 ((rd_T32 ((rd_T35 t447 x10_2).f0) x11_3).f0))) (fun _ hk => hk.2) (.int .i64 ((rd_T32 ((rd_T35 t447 x10_2).f0) x11_3).f1.f0))) (fun _ hk => hk.2) (.int .i64 ((rd_T32 ((rd_T35 t447 x10_2).f0) x11_3).f1.f1))) (fun _ hk => hk.2) (.int .i64 ((rd_T32 ((rd_T35 t447 x10_2).f0) x11_3).f1.f2))) (fun _ hk => hk.2) (.int .i64 ((rd_T32 ((rd_T35 t447 x10_2).f0) x11_3).f1.f3))) (fun _ hk => ⟨hk.1.1.1, ⟨hk.1.1.2, hk.1.2⟩⟩)⟩, ⟨by (with_reducible repeat (first | refine blk_drewN ?_ _ | refine blk_drew ?_ | refine blk_alloc ?_ _)); refine blk_far ?_ NB456_467.out _; (with_reducible repeat (first | refine blk_drewN ?_ _ | refine blk_drew ?_ | refine blk_alloc ?_ _)); refine blk_far ?_ NB456_467.out _; (with_reducible repeat (first | refine blk_drewN ?_ _ | refine blk_drew ?_ | refine blk_alloc ?_ _)); refine blk_far ?_ NB456_467.out _; (with_reducible repeat (first | refine blk_drewN ?_ _ | refine blk_drew ?_ | refine blk_alloc ?_ _)); refine blk_far ?_ NB456_467.out _; (with_reducible repeat (first | refine blk_drewN ?_ _ | refine blk_drew ?_ | refine blk_alloc ?_ _)); refine blk_far ?_ NB456_467.out _; (with_reducible repeat (first | refine blk_drewN ?_ _ | refine blk_drew ?_ | refine blk_alloc ?_ _)); exact BK456.out⟩, ⟨by (with_reducible repeat (first | refine blk_drewN ?_ _ | refine blk_drew ?_ | refine blk_alloc ?_ _)); refine blk_far ?_ NB462_467.out _; (with_reducible repeat (first | refine blk_drewN ?_ _ | refine blk_drew ?_ | refine blk_alloc ?_ _)); refine blk_far ?_ NB462_467.out _; (with_reducible repeat (first | refine blk_drewN ?_ _ | refine blk_drew ?_ | refine blk_alloc ?_ _)); refine blk_far ?_ NB462_467.out _; (with_reducible repeat (first | refine blk_drewN ?_ _ | refine blk_drew ?_ | refine blk_alloc ?_ _)); refine blk_far ?_ NB462_467.out _; (with_reducible repeat (first | refine blk_drewN ?_ _ | refine blk_drew ?_ | refine blk_alloc ?_ _)); refine blk_far ?_ NB462_467.out _; (with_reducible repeat (first | refine blk_drewN ?_ _ | refine blk_drew ?_ | refine blk_alloc ?_ _)); exact BK462.out⟩, ⟨by (with_reducible repeat (first | refine blk_drewN ?_ _ | refine blk_drew ?_ | refine blk_alloc ?_ _)); refine blk_put (cs := #[.int .i64 ((rd_T32 ((rd_T35 t447 x10_2).f0) x11_3).f0), .int .i64 ((rd_T32 ((rd_T35 t447 x10_2).f0) x11_3).f1.f0), .int .i64 ((rd_T32 ((rd_T35 t447 x10_2).f0) x11_3).f1.f1), .int .i64 ((rd_T32 ((rd_T35 t447 x10_2).f0) x11_3).f1.f2), .int .i64 0]) ?_ 4 _ rfl; (with_reducible repeat (first | refine blk_drewN ?_ _ | refine blk_drew ?_ | refine blk_alloc ?_ _)); refine blk_put (cs := #[.int .i64 ((rd_T32 ((rd_T35 t447 x10_2).f0) x11_3).f0), .int .i64 ((rd_T32 ((rd_T35 t447 x10_2).f0) x11_3).f1.f0), .int .i64 ((rd_T32 ((rd_T35 t447 x10_2).f0) x11_3).f1.f1), .int .i64 0, .int .i64 0]) ?_ 3 _ rfl; (with_reducible repeat (first | refine blk_drewN ?_ _ | refine blk_drew ?_ | refine blk_alloc ?_ _)); refine blk_put (cs := #[.int .i64 ((rd_T32 ((rd_T35 t447 x10_2).f0) x11_3).f0), .int .i64 ((rd_T32 ((rd_T35 t447 x10_2).f0) x11_3).f1.f0), .int .i64 0, .int .i64 0, .int .i64 0]) ?_ 2 _ rfl; (with_reducible repeat (first | refine blk_drewN ?_ _ | refine blk_drew ?_ | refine blk_alloc ?_ _)); refine blk_put (cs := #[.int .i64 ((rd_T32 ((rd_T35 t447 x10_2).f0) x11_3).f0), .int .i64 0, .int .i64 0, .int .i64 0, .int .i64 0]) ?_ 1 _ rfl; (with_reducible repeat (first | refine blk_drewN ?_ _ | refine blk_drew ?_ | refine blk_alloc ?_ _)); refine blk_put (cs := #[.int .i64 0, .int .i64 0, .int .i64 0, .int .i64 0, .int .i64 0]) ?_ 0 _ rfl; (with_reducible repeat (first | refine blk_drewN ?_ _ | refine blk_drew ?_ | refine blk_alloc ?_ _)); exact BK467.out⟩, ⟨(Kd.V_reads' (by (with_reducible repeat (first | apply Kd.V_alloc | apply Kd.V_drewN | apply Kd.V_drew)); exact (Kd.V_mono (Kd.V_far (p := ⟨gb467, 4, none⟩) (Kd.V_far (p := ⟨gb467, 3, none⟩) (Kd.V_far (p := ⟨gb467, 2, none⟩) (Kd.V_far (p := ⟨gb467, 1, none⟩) (Kd.V_far (p := ⟨gb467, 0, none⟩) (Kd.V_mono HL465_0.out (fun k_ hk => (⟨hk, hk.2⟩ : _ ∧ k_ ≠ gb467))) (fun _ hk => hk.2) (.int .i64 ((rd_T32 ((rd_T35 t447 x10_2).f0) x11_3).f0))) (fun _ hk => hk.2) (.int .i64 ((rd_T32 ((rd_T35 t447 x10_2).f0) x11_3).f1.f0))) (fun _ hk => hk.2) (.int .i64 ((rd_T32 ((rd_T35 t447 x10_2).f0) x11_3).f1.f1))) (fun _ hk => hk.2) (.int .i64 ((rd_T32 ((rd_T35 t447 x10_2).f0) x11_3).f1.f2))) (fun _ hk => hk.2) (.int .i64 ((rd_T32 ((rd_T35 t447 x10_2).f0) x11_3).f1.f3))) (fun _ h_ => h_.1)))).2.2⟩, ⟨bg3 HB.out GE456.out GE462.out GE467.out⟩⟩
       case rest =>
        clear HC47
        obtain ⟨kq, x89_46, rfl, HA, HJ46, HO_3, BK456, BK462, BK467, HR465_0, HB⟩ := hcut
        cases kq with
        | zero => exact absurd HA.out (by simp [laws_FnLast.j3])
        | succ kj46 =>
         have H := HA.out
         clear HA
         simp only [laws_FnLast.j3] at H
         by_cases c59 : x89_46 = true
         rotate_left
         · replace c59 := Bool.eq_false_iff.mpr c59
           subst c59
           have H1 : (laws_FnLast.l1 kj46 t447 t450 t461 x9_3 x10_2 (wrap64 (x11_3 + 1)) t457 t458 t459 t460) = some r := by rw [if_neg (show ¬ (false = true) by decide)] at H; exact H
           clear H
           have H := H1
           clear H1
           have H' := am H
           clear H
           go_wp2
           go_roundg kj46
           case measure => have := HJ5.out; have := HK2.out; have := HK3.out; have := HJ46.out; omega
           case rel => exact ⟨(x9_3), (wrap64 (x11_3 + 1)), rf, rf, H', ⟨by have := HJ5.out; have := HK2.out; have := HK3.out; have := HJ46.out; omega⟩, ⟨by (with_reducible repeat (first | apply Kd.V_alloc | apply Kd.V_drewN | apply Kd.V_drew)); exact Kd.V_mono HO_3.out (fun _ hk => ⟨hk.1, hk.2.1⟩)⟩, ⟨pb BK456.out⟩, ⟨pb BK462.out⟩, ⟨bg3 HB.out GE456.out GE462.out GE467.out⟩⟩
         subst c59
         have H1 : (if ((rd_T32 ((rd_T35 t447 x10_2).f0) x11_3).f1.f1) > t458 then (some false) else (laws_FnLast.l1 kj46 t447 t450 t461 true x10_2 (wrap64 (x11_3 + 1)) t457 t458 t459 t460)) = some r := by rw [if_pos rfl] at H; exact H
         clear H
         have H := H1
         clear H1
         by_cases c60 : ((rd_T32 ((rd_T35 t447 x10_2).f0) x11_3).f1.f1) > t458
         · rw [if_pos c60] at H
           have c60b0 := decide_eq_true c60
           clear c60
           obtain rfl := Option.some.inj H
           have hnb61 := NB467_456.out
           have hnc61 := NB456_467.out
           have hnb62 := NB467_462.out
           have hnc62 := NB462_467.out
           have hcz63_0 : wc.cell? ⟨gb467, 0, none⟩ = some (.int .i64 ((rd_T32 ((rd_T35 t447 x10_2).f0) x11_3).f0)) := (blk_cell BK467.out 0).trans rfl
           have hcz63_1 : wc.cell? ⟨gb467, 1, none⟩ = some (.int .i64 ((rd_T32 ((rd_T35 t447 x10_2).f0) x11_3).f1.f0)) := (blk_cell BK467.out 1).trans rfl
           have hcz63_2 : wc.cell? ⟨gb467, 2, none⟩ = some (.int .i64 ((rd_T32 ((rd_T35 t447 x10_2).f0) x11_3).f1.f1)) := (blk_cell BK467.out 2).trans rfl
           have hcz63_3 : wc.cell? ⟨gb467, 3, none⟩ = some (.int .i64 ((rd_T32 ((rd_T35 t447 x10_2).f0) x11_3).f1.f2)) := (blk_cell BK467.out 3).trans rfl
           have hcz63_4 : wc.cell? ⟨gb467, 4, none⟩ = some (.int .i64 ((rd_T32 ((rd_T35 t447 x10_2).f0) x11_3).f1.f3)) := (blk_cell BK467.out 4).trans rfl
           obtain ⟨hfz63_0, hfz63_1, hfz63_2, hfz63_3, hfz63_4⟩ := f5 BK467.out
           have hnb64 := NB462_456.out
           have hnc64 := NB456_462.out
           obtain ⟨hcz65_0, hcz65_1, hcz65_2, hcz65_3⟩ := b4 BK462.out
           obtain ⟨hfz65_0, hfz65_1, hfz65_2, hfz65_3⟩ := f4 BK462.out
           go_wp2
           go_ret
           exact (rq (bg3 HB.out GE456.out GE462.out GE467.out))
         rw [if_neg c60] at H
         have c60b0 := decide_eq_false c60
         clear c60
         have H' := am H
         clear H
         have hnb66 := NB467_456.out
         have hnc66 := NB456_467.out
         have hnb67 := NB467_462.out
         have hnc67 := NB462_467.out
         have hcz68_0 : wc.cell? ⟨gb467, 0, none⟩ = some (.int .i64 ((rd_T32 ((rd_T35 t447 x10_2).f0) x11_3).f0)) := (blk_cell BK467.out 0).trans rfl
         have hcz68_1 : wc.cell? ⟨gb467, 1, none⟩ = some (.int .i64 ((rd_T32 ((rd_T35 t447 x10_2).f0) x11_3).f1.f0)) := (blk_cell BK467.out 1).trans rfl
         have hcz68_2 : wc.cell? ⟨gb467, 2, none⟩ = some (.int .i64 ((rd_T32 ((rd_T35 t447 x10_2).f0) x11_3).f1.f1)) := (blk_cell BK467.out 2).trans rfl
         have hcz68_3 : wc.cell? ⟨gb467, 3, none⟩ = some (.int .i64 ((rd_T32 ((rd_T35 t447 x10_2).f0) x11_3).f1.f2)) := (blk_cell BK467.out 3).trans rfl
         have hcz68_4 : wc.cell? ⟨gb467, 4, none⟩ = some (.int .i64 ((rd_T32 ((rd_T35 t447 x10_2).f0) x11_3).f1.f3)) := (blk_cell BK467.out 4).trans rfl
         obtain ⟨hfz68_0, hfz68_1, hfz68_2, hfz68_3, hfz68_4⟩ := f5 BK467.out
         have hnb69 := NB462_456.out
         have hnc69 := NB456_462.out
         obtain ⟨hcz70_0, hcz70_1, hcz70_2, hcz70_3⟩ := b4 BK462.out
         obtain ⟨hfz70_0, hfz70_1, hfz70_2, hfz70_3⟩ := f4 BK462.out
         go_wp2
         go_roundg kj46
         case measure => have := HJ5.out; have := HK2.out; have := HK3.out; have := HJ46.out; omega
         case rel => exact ⟨(true), (wrap64 (x11_3 + 1)), rf, rf, H', ⟨by have := HJ5.out; have := HK2.out; have := HK3.out; have := HJ46.out; omega⟩, ⟨by (with_reducible repeat (first | apply Kd.V_alloc | apply Kd.V_drewN | apply Kd.V_drew)); exact Kd.V_mono HO_3.out (fun _ hk => ⟨hk.1, hk.2.1⟩)⟩, ⟨pb BK456.out⟩, ⟨pb BK462.out⟩, ⟨bg3 HB.out GE456.out GE462.out GE467.out⟩⟩
def laws_FnLast.Pure : Prop := ∀ (l0 : List Int), l0.length ≤ maxLen → l0.length * 1 ≤ 140737488351232 → (∀ x ∈ l0, (Lit.int .u8 x).wf = true) → ∃ k, laws_FnLast.f k l0 = some true
theorem laws_FnLast.walk (P : laws_FnLast.Pure) (a0 : Option Addr) (len0 cap0 : Nat) (z0 : List Int) (w : World) (w0 : (a0 = none ∧ len0 = 0 ∧ cap0 = 0 ∧ z0 = []) ∨ ∃ x, a0 = some x ∧ len0 ≤ cap0 ∧ cap0 ≤ maxLen ∧ z0.length = cap0 ∧ (∀ i, i < z0.length → w.cell? (x.add i) = some (.int .u8 (z0.getD i 0))) ∧ ∀ n ∈ z0, (Lit.int .u8 n).wf = true) (y0 : len0 * 1 ≤ 140737488351232) :
 Calls Try.prog 3 #[.slice a0 len0 cap0] w fun e w' => e = .returned (.bool true) ∧ Below w.heap.size w w' := by
 obtain ⟨l0, rfl, hr0, hm0, hw0, hc0⟩ := ReadsInt.ofRowC w0
 obtain ⟨k, h⟩ := P l0 hm0 y0 hw0
 refine (laws_FnLast.calls k _ _ l0 true w (Kd.C_of_reads (d := (0 : Int)) (h1 := fun _ => rfl) hr0) hc0 h).mono ?_
 rintro e w' ⟨rfl, hd⟩
 exact ⟨rfl, hd⟩
end Go.Proofs.Ytepaanhmbfchoaa.Rm
