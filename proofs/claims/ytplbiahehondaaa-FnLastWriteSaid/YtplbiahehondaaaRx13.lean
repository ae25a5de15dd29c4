-- printed by wip/pp/pp.py
import Derived.Test.YtplbiahehondaaaRx0
import Derived.Test.YtplbiahehondaaaRx8
import Derived.Test.YtplbiahehondaaaRx9
import Derived.Test.YtplbiahehondaaaRx10
import Derived.Test.YtplbiahehondaaaRx11
import Derived.Test.YtplbiahehondaaaRx12
namespace Go.Proofs.Ytplbiahehondaaa.Rx
open Go.RowKit Go.Proofs.YtplbiahehondaaaW.PrintWords Go.Proofs.YtplbiahehondaaaW.PrintLast Go.Proofs.YtplbiahehondaaaW.PrintMore
attribute [local go_sem] max2_int min2_int max_two min_two max_three min_three max_four min_four
set_option linter.unusedVariables false
set_option linter.unusedSimpArgs false
attribute [local go_sem high] eqA27
mutual
def laws_FnLastWrite.j0 : Nat → List Int → List Int → Bool → Option (Bool)
 | 0, _, _, _ => none
 | k + 1, x0, x1, x35 => if x35 = true then (some true) else ((spec_DrawFindLast.f k x0).bind fun bt403 => ((spec_FindLast.f k bt403.1 bt403.2).bind fun bt407 => ((impl_FindLast.f bt403.1 bt403.2).bind fun bt413 => (if (bt413.2.2.2.2 != bt407.2.2.2.2) = true then (laws_FnLastWrite.j1 k x1 bt403.1 bt403.2 bt407.2.2.2.2 bt413.2.2.2.2 true bt407.1 bt407.2.1 bt407.2.2.1 bt407.2.2.2.1 bt413.1 bt413.2.1 bt413.2.2.1 bt413.2.2.2.1) else (if (!(bt413.1 == bt407.1) || (!(bt413.2.1 == bt407.2.1) || (!(bt413.2.2.1 == bt407.2.2.1) || (!(bt413.2.2.2.1 == bt407.2.2.2.1))))) = true then (laws_FnLastWrite.j1 k x1 bt403.1 bt403.2 bt407.2.2.2.2 bt413.2.2.2.2 true bt407.1 bt407.2.1 bt407.2.2.1 bt407.2.2.2.1 bt413.1 bt413.2.1 bt413.2.2.1 bt413.2.2.2.1) else ((spec_FlashOk.f bt403.1).bind fun t419 => (if t419 = true then (if bt403.2 < 1 then (laws_FnLastWrite.j1 k x1 bt403.1 bt403.2 bt407.2.2.2.2 bt413.2.2.2.2 true bt407.1 bt407.2.1 bt407.2.2.1 bt407.2.2.2.1 bt413.1 bt413.2.1 bt413.2.2.1 bt413.2.2.2.1) else (laws_FnLastWrite.j1 k x1 bt403.1 bt403.2 bt407.2.2.2.2 bt413.2.2.2.2 (decide (bt403.2 > 6)) bt407.1 bt407.2.1 bt407.2.2.1 bt407.2.2.2.1 bt413.1 bt413.2.1 bt413.2.2.1 bt413.2.2.2.1)) else (laws_FnLastWrite.j1 k x1 bt403.1 bt403.2 bt407.2.2.2.2 bt413.2.2.2.2 true bt407.1 bt407.2.1 bt407.2.2.1 bt407.2.2.2.1 bt413.1 bt413.2.1 bt413.2.2.1 bt413.2.2.2.1))))))))
def laws_FnLastWrite.j1 : Nat → List Int → List (S53) → Int → Bool → Bool → Bool → Int → Int → Int → Int → Int → Int → Int → Int → Option (Bool)
 | 0, _, _, _, _, _, _, _, _, _, _, _, _, _, _ => none
 | k + 1, x1, x5, x6, x8, x10, x73, x413000, x413001, x413002, x413003, x419000, x419001, x419002, x419003 => if x73 = true then (if (x10 == x8) = true then (some (x419000 == x413000 && (x419001 == x413001 && (x419002 == x413002 && (x419003 == x413003))))) else (some false)) else ((impl_FindOpen.f k x5).bind fun bt420 => ((impl_FindNext.f x5).bind fun t422 => (if bt420.2 = true then (laws_FnLastWrite.j2 k x1 x5 x6 x10 bt420.1 t422 (decide (t422 > 600)) x419000 x419001 x419002 x419003) else (laws_FnLastWrite.j2 k x1 x5 x6 x10 bt420.1 t422 true x419000 x419001 x419002 x419003))))
def laws_FnLastWrite.j2 : Nat → List Int → List (S53) → Int → Bool → Int → Int → Bool → Int → Int → Int → Int → Option (Bool)
 | 0, _, _, _, _, _, _, _, _, _, _, _ => none
 | k + 1, x1, x5, x6, x10, x11, x13, x94, x419000, x419001, x419002, x419003 => if x94 = true then (some true) else ((impl_FlashWrite.f k x5 x11 1 x13 x6 ((x1.length : Int) % 10) false).bind fun bt424 => ((impl_FlashWrite.f k x5 x11 1 x13 x6 ((x1.length : Int) % 10) true).bind fun bt428 => ((impl_FindLast.f bt424.1 x6).bind fun bt432 => ((impl_FindLast.f bt428.1 x6).bind fun bt438 => (laws_FnLastWrite.l0 k x5 x6 x10 x13 bt424.1 bt424.2 bt428.2 bt432.2.2.2.2 bt438.2.2.2.2 1 x419000 x419001 x419002 x419003 1 x13 x6 ((x1.length : Int) % 10) bt432.1 bt432.2.1 bt432.2.2.1 bt432.2.2.2.1 bt438.1 bt438.2.1 bt438.2.2.1 bt438.2.2.2.1)))))
def laws_FnLastWrite.l0 : Nat → List (S53) → Int → Bool → Int → List (S53) → Bool → Bool → Bool → Bool → Int → Int → Int → Int → Int → Int → Int → Int → Int → Int → Int → Int → Int → Int → Int → Int → Int → Option (Bool)
 | 0, _, _, _, _, _, _, _, _, _, _, _, _, _, _, _, _, _, _, _, _, _, _, _, _, _, _ => none
 | k + 1, x5, x6, x10, x13, x15, x16, x18, x20, x22, x23, x419000, x419001, x419002, x419003, x424000, x424001, x424002, x424003, x438000, x438001, x438002, x438003, x444000, x444001, x444002, x444003 => if x23 ≤ 6 then ((impl_FindLast.f x5 x23).bind fun bt445 => ((impl_FindLast.f x15 x23).bind fun bt451 => (if x23 = x6 then (laws_FnLastWrite.l0 k x5 x6 x10 x13 x15 x16 x18 x20 x22 (wrap64 (x23 + 1)) x419000 x419001 x419002 x419003 x424000 x424001 x424002 x424003 x438000 x438001 x438002 x438003 x444000 x444001 x444002 x444003) else (if (!(bt445.1 == bt451.1) || (!(bt445.2.1 == bt451.2.1) || (!(bt445.2.2.1 == bt451.2.2.1) || (!(bt445.2.2.2.1 == bt451.2.2.2.1))))) = true then (some false) else (if (bt445.2.2.2.2 != bt451.2.2.2.2) = true then (some false) else (laws_FnLastWrite.l0 k x5 x6 x10 x13 x15 x16 x18 x20 x22 (wrap64 (x23 + 1)) x419000 x419001 x419002 x419003 x424000 x424001 x424002 x424003 x438000 x438001 x438002 x438003 x444000 x444001 x444002 x444003)))))) else (if x16 = true then (if x18 = true then (if x20 = true then (if (x438000 == x424000 && (x438001 == x424001 && (x438002 == x424002 && (x438003 == x424003)))) = true then (if (x444000 == x419000 && (x444001 == x419001 && (x444002 == x419002 && (x444003 == x419003)))) = true then (if (x22 == x10) = true then ((impl_FindNext.f x15).bind fun t444 => (some (t444 == (wrap64 (x13 + 1))))) else (some false)) else (some false)) else (some false)) else (some false)) else (some false)) else (some false))
end
def laws_FnLastWrite.f (k : Nat) (l0 : List Int) (l1 : List Int) : Option (Bool) := if (l0.length : Int) > 1048576 then (laws_FnLastWrite.j0 k l0 l1 true) else (laws_FnLastWrite.j0 k l0 l1 (decide ((l1.length : Int) > 1048576)))
theorem laws_FnLastWrite.mono_l : ∀ k, (∀ y0 y1 y2, LeO (laws_FnLastWrite.j0 k y0 y1 y2) (laws_FnLastWrite.j0 (k + 1) y0 y1 y2)) ∧ (∀ y0 y1 y2 y3 y4 y5 y6 y7 y8 y9 y10 y11 y12 y13, LeO (laws_FnLastWrite.j1 k y0 y1 y2 y3 y4 y5 y6 y7 y8 y9 y10 y11 y12 y13) (laws_FnLastWrite.j1 (k + 1) y0 y1 y2 y3 y4 y5 y6 y7 y8 y9 y10 y11 y12 y13)) ∧ (∀ y0 y1 y2 y3 y4 y5 y6 y7 y8 y9 y10, LeO (laws_FnLastWrite.j2 k y0 y1 y2 y3 y4 y5 y6 y7 y8 y9 y10) (laws_FnLastWrite.j2 (k + 1) y0 y1 y2 y3 y4 y5 y6 y7 y8 y9 y10)) ∧ (∀ y0 y1 y2 y3 y4 y5 y6 y7 y8 y9 y10 y11 y12 y13 y14 y15 y16 y17 y18 y19 y20 y21 y22 y23 y24 y25, LeO (laws_FnLastWrite.l0 k y0 y1 y2 y3 y4 y5 y6 y7 y8 y9 y10 y11 y12 y13 y14 y15 y16 y17 y18 y19 y20 y21 y22 y23 y24 y25) (laws_FnLastWrite.l0 (k + 1) y0 y1 y2 y3 y4 y5 y6 y7 y8 y9 y10 y11 y12 y13 y14 y15 y16 y17 y18 y19 y20 y21 y22 y23 y24 y25))
 | 0 => ⟨fun _ _ _ r h => by simp [laws_FnLastWrite.j0] at h, fun _ _ _ _ _ _ _ _ _ _ _ _ _ _ r h => by simp [laws_FnLastWrite.j1] at h, fun _ _ _ _ _ _ _ _ _ _ _ r h => by simp [laws_FnLastWrite.j2] at h, fun _ _ _ _ _ _ _ _ _ _ _ _ _ _ _ _ _ _ _ _ _ _ _ _ _ _ r h => by simp [laws_FnLastWrite.l0] at h⟩
 | k + 1 => by
  obtain ⟨ih0, ih1, ih2, ih3⟩ := laws_FnLastWrite.mono_l k
  refine ⟨?_, ?_, ?_, ?_⟩
  · intro y0 y1 y2
    unfold laws_FnLastWrite.j0
    with_reducible repeat' first | exact ih0 _ _ _ | exact ih1 _ _ _ _ _ _ _ _ _ _ _ _ _ _ | exact ih2 _ _ _ _ _ _ _ _ _ _ _ | exact ih3 _ _ _ _ _ _ _ _ _ _ _ _ _ _ _ _ _ _ _ _ _ _ _ _ _ _ | exact impl_FindOpen.mono _ _ | exact impl_FlashWrite.mono _ _ _ _ _ _ _ _ | exact spec_DrawFindLast.mono _ _ | exact spec_FindLast.mono _ _ _ | exact LeO.refl _ | exact LeO.none _ | refine LeO.ite ?_ ?_ | refine LeO.bind ?_ (fun _ => ?_)
  · intro y0 y1 y2 y3 y4 y5 y6 y7 y8 y9 y10 y11 y12 y13
    unfold laws_FnLastWrite.j1
    with_reducible repeat' first | exact ih0 _ _ _ | exact ih1 _ _ _ _ _ _ _ _ _ _ _ _ _ _ | exact ih2 _ _ _ _ _ _ _ _ _ _ _ | exact ih3 _ _ _ _ _ _ _ _ _ _ _ _ _ _ _ _ _ _ _ _ _ _ _ _ _ _ | exact impl_FindOpen.mono _ _ | exact impl_FlashWrite.mono _ _ _ _ _ _ _ _ | exact spec_DrawFindLast.mono _ _ | exact spec_FindLast.mono _ _ _ | exact LeO.refl _ | exact LeO.none _ | refine LeO.ite ?_ ?_ | refine LeO.bind ?_ (fun _ => ?_)
  · intro y0 y1 y2 y3 y4 y5 y6 y7 y8 y9 y10
    unfold laws_FnLastWrite.j2
    with_reducible repeat' first | exact ih0 _ _ _ | exact ih1 _ _ _ _ _ _ _ _ _ _ _ _ _ _ | exact ih2 _ _ _ _ _ _ _ _ _ _ _ | exact ih3 _ _ _ _ _ _ _ _ _ _ _ _ _ _ _ _ _ _ _ _ _ _ _ _ _ _ | exact impl_FindOpen.mono _ _ | exact impl_FlashWrite.mono _ _ _ _ _ _ _ _ | exact spec_DrawFindLast.mono _ _ | exact spec_FindLast.mono _ _ _ | exact LeO.refl _ | exact LeO.none _ | refine LeO.ite ?_ ?_ | refine LeO.bind ?_ (fun _ => ?_)
  · intro y0 y1 y2 y3 y4 y5 y6 y7 y8 y9 y10 y11 y12 y13 y14 y15 y16 y17 y18 y19 y20 y21 y22 y23 y24 y25
    unfold laws_FnLastWrite.l0
    with_reducible repeat' first | exact ih0 _ _ _ | exact ih1 _ _ _ _ _ _ _ _ _ _ _ _ _ _ | exact ih2 _ _ _ _ _ _ _ _ _ _ _ | exact ih3 _ _ _ _ _ _ _ _ _ _ _ _ _ _ _ _ _ _ _ _ _ _ _ _ _ _ | exact impl_FindOpen.mono _ _ | exact impl_FlashWrite.mono _ _ _ _ _ _ _ _ | exact spec_DrawFindLast.mono _ _ | exact spec_FindLast.mono _ _ _ | exact LeO.refl _ | exact LeO.none _ | refine LeO.ite ?_ ?_ | refine LeO.bind ?_ (fun _ => ?_)
theorem laws_FnLastWrite.mono : ∀ a0 a1 k, LeO (laws_FnLastWrite.f k a0 a1) (laws_FnLastWrite.f (k + 1) a0 a1) := by
 intro a0 a1 k
 obtain ⟨ih0, ih1, ih2, ih3⟩ := laws_FnLastWrite.mono_l k
 unfold laws_FnLastWrite.f
 with_reducible repeat' first | exact ih0 _ _ _ | exact ih1 _ _ _ _ _ _ _ _ _ _ _ _ _ _ | exact ih2 _ _ _ _ _ _ _ _ _ _ _ | exact ih3 _ _ _ _ _ _ _ _ _ _ _ _ _ _ _ _ _ _ _ _ _ _ _ _ _ _ | exact impl_FindOpen.mono _ _ | exact impl_FlashWrite.mono _ _ _ _ _ _ _ _ | exact spec_DrawFindLast.mono _ _ | exact spec_FindLast.mono _ _ _ | exact LeO.refl _ | exact LeO.none _ | refine LeO.ite ?_ ?_ | refine LeO.bind ?_ (fun _ => ?_)
set_option maxHeartbeats 8000000 in
set_option maxRecDepth 100000 in
theorem laws_FnLastWrite.calls (k : Nat) (A0 : Option Addr) (c0 : Nat) (l0 : List Int) (A1 : Option Addr) (c1 : Nat) (l1 : List Int) (r : Bool) (w : World) (hr0 : Kd.C (Kd.int .u8) w A0 l0.length l0) (hc0 : l0.length ≤ c0) (hr1 : Kd.C (Kd.int .u8) w A1 l1.length l1) (hc1 : l1.length ≤ c1) (h : laws_FnLastWrite.f k l0 l1 = some r) :
 Calls Try.prog 3 #[.slice A0 l0.length c0, .slice A1 l1.length c1] w fun e w' => e = .returned (.bool r) ∧ Below w.heap.size w w' := by
 have hu27 := Try.underlying27
 have HR0 := am hr0
 have HC0 := am hc0
 clear hr0 hc0
 have HR1 := am hr1
 have HC1 := am hc1
 clear hr1 hc1
 have HB := am (Below.refl w.heap.size w)
 have H : (if (l0.length : Int) > 1048576 then (laws_FnLastWrite.j0 k l0 l1 true) else (laws_FnLastWrite.j0 k l0 l1 (decide ((l1.length : Int) > 1048576)))) = some r := h
 clear h
 have HC3 := am H
 clear H
 go_enter Try.func3, Try.ntmps3
 go_upto_region 1 with (fail)
 go_cut [35] (fun v35 wc => ∃ (kq : Nat) (x35_2 : Bool), v35 = .bool x35_2 ∧ Aside0 (laws_FnLastWrite.j0 kq l0 l1 x35_2 = some r) ∧ Aside0 (kq ≤ k) ∧ Aside0 (Below w.heap.size w wc))
 case first =>
  have H := HC3.out
  clear HC3
  by_cases c4 : (l0.length : Int) > 1048576
  · rw [if_pos c4] at H
    have c4b0 := decide_eq_true c4
    have c4b1 : decide (1048576 < l0.length) = true := decide_eq_true (by omega)
    clear c4
    (first | rw [c4b0] | (simp only [i64_w, i32_w]; rw [c4b0]) | skip)
    have H' := am H
    clear H
    go_wp2
    go_meet
    case rel => exact ⟨_, (true), rf, H', ⟨by first | omega | exact Nat.le_refl _⟩, ⟨ph HB.out⟩⟩
  rw [if_neg c4] at H
  have c4b0 := decide_eq_false c4
  have c4b1 : decide (1048576 < l0.length) = false := decide_eq_false (by omega)
  clear c4
  (first | rw [c4b0] | (simp only [i64_w, i32_w]; rw [c4b0]) | skip)
  have H' := am H
  clear H
  go_wp2
  go_meet
  case rel => exact ⟨_, (decide ((l1.length : Int) > 1048576)), rf, H', ⟨by first | omega | exact Nat.le_refl _⟩, ⟨ph HB.out⟩⟩
 case rest =>
  clear HC3
  obtain ⟨kq, x35_2, rfl, HA, HJ2, HB⟩ := hcut
  cases kq with
  | zero => exact absurd HA.out (by simp [laws_FnLastWrite.j0])
  | succ kj2 =>
   have H := HA.out
   clear HA
   simp only [laws_FnLastWrite.j0] at H
   by_cases c5 : x35_2 = true
   · subst c5
     rw [if_pos rfl] at H
     obtain rfl := Option.some.inj H
     go_wp2
     go_ret
     exact (rq (ph HB.out))
   replace c5 := Bool.eq_false_iff.mpr c5
   subst c5
   rw [if_neg (show ¬ (false = true) by decide)] at H
   replace H := Option.bind_eq_some_iff.mp H
   obtain ⟨⟨t403, t406⟩, A60, H⟩ := H
   have A6 := am A60
   clear A60
   replace H := Option.bind_eq_some_iff.mp H
   obtain ⟨⟨t407, t408, t409, t410, t411⟩, A70, H⟩ := H
   have A7 := am A70
   clear A70
   replace H := Option.bind_eq_some_iff.mp H
   obtain ⟨⟨t413, t414, t415, t416, t417⟩, A80, H⟩ := H
   have A8 := am A80
   clear A80
   have HC9 := am H
   clear H
   go_upto_region 6 with (first | (refine gl 38 Try.func4 #[.slice A0 l0.length c0] rfl ?_; (with_reducible refine (spec_DrawFindLast.calls kj2 _ _ l0 t403 t406 _ ?side1 ?side2 A6.out).mono ?_); (case side1 => exact pc (Kd.C_below HR0.out HB.out)); (case side2 => exact HC0.out); rintro e w10 ⟨v404, rfl, ho0, hb⟩; refine ⟨_, rfl, ?_⟩; have HO405 := am (Kd.V_lower (Kd.V_mono (ok' := fun k_ => True) ho0 (fun k_ hk_ => trivial)) (below_size (ph HB.out))); replace HB := am (below_step (ph HB.out) hb); clear hb ho0; obtain ⟨Ao11, co11, eo11⟩ := Kd.V_slice HO405.out; subst eo11) | (refine gl 44 Try.func5 #[.slice Ao11 t403.length co11, .int .i64 t406] rfl ?_; (with_reducible refine (spec_FindLast.calls kj2 _ _ t403 t406 t407 t408 t409 t410 t411 _ ?side1 ?side2 A7.out).mono ?_); (case side1 => exact pc ((Kd.V_reads' HO405.out).2.2)); (case side2 => exact (Kd.V_reads' HO405.out).2.1); rintro e w12 ⟨rfl, hb⟩; refine ⟨_, rfl, ?_⟩; replace HO405 := am (Kd.V_below (pv HO405.out) hb); replace HB := am (below_step (ph HB.out) hb); clear hb) | ((with_reducible refine gate_dst (N := 7) rfl ?_); (try (refine gate_guard (by rfl) ?_; dsimp only)); refine box_event ?hg (N := 7) ?hd (cs := #[.int .i64 0, .int .i64 0, .int .i64 0, .int .i64 0]) (t := 27) ?hr ?_; (case hd => rfl); (case hg => rfl); (case hr => first | (go_simp; done) | (go_simp; rfl)); intro gb412 hg w13 hbox hb; replace HO405 := am (Kd.V_below (Kd.V_elderB (pv HO405.out) gb412 (Nat.le_of_eq hg.symm)) hb); have BK412 := am (hbox); have GW412 := am (ge hg (ph HB.out)); have GE412 := GW412; replace HB := am (below_step (ph HB.out) hb); clear hb hbox hg; obtain ⟨hcz14_0, hcz14_1, hcz14_2, hcz14_3⟩ := b4 BK412.out; obtain ⟨hfz14_0, hfz14_1, hfz14_2, hfz14_3⟩ := f4 BK412.out) | (refine gl 50 Try.func6 #[.slice Ao11 t403.length co11, .int .i64 t406] rfl ?_; (with_reducible refine (impl_FindLast.calls _ _ t403 t406 t413 t414 t415 t416 t417 _ ?side1 ?side2 A8.out).mono ?_); (case side1 => refine (Kd.V_reads' (e := 53) (base := w.heap.size) (ok := fun k_ => (True ∧ k_ ≠ gb412)) (n := t403.length) (c := co11) ?_).2.2; exact (pv ((Kd.V_mono (Kd.V_far (p := ⟨gb412, 3, none⟩) (Kd.V_far (p := ⟨gb412, 2, none⟩) (Kd.V_far (p := ⟨gb412, 1, none⟩) (Kd.V_far (p := ⟨gb412, 0, none⟩) (Kd.V_mono HO405.out (fun k_ hk => (⟨hk, hk.2⟩ : _ ∧ k_ ≠ gb412))) (fun _ hk => hk.2) (.int .i64 t407)) (fun _ hk => hk.2) (.int .i64 t408)) (fun _ hk => hk.2) (.int .i64 t409)) (fun _ hk => hk.2) (.int .i64 t410)) (fun _ h_ => h_.1))))); (case side2 => exact (Kd.V_reads' HO405.out).2.1); rintro e w15 ⟨rfl, hb⟩; refine ⟨_, rfl, ?_⟩; replace HO405 := am (Kd.V_below (pv ((Kd.V_mono (Kd.V_far (p := ⟨gb412, 3, none⟩) (Kd.V_far (p := ⟨gb412, 2, none⟩) (Kd.V_far (p := ⟨gb412, 1, none⟩) (Kd.V_far (p := ⟨gb412, 0, none⟩) (Kd.V_mono HO405.out (fun k_ hk => (⟨hk, hk.2⟩ : _ ∧ k_ ≠ gb412))) (fun _ hk => hk.2) (.int .i64 t407)) (fun _ hk => hk.2) (.int .i64 t408)) (fun _ hk => hk.2) (.int .i64 t409)) (fun _ hk => hk.2) (.int .i64 t410)) (fun _ h_ => h_.1)))) hb); replace BK412 := am (blk_below (bp4 (pb BK412.out)) hb); replace HB := am (below_step (bg1 HB.out GE412.out) hb); clear hb) | ((with_reducible refine gate_dst (N := 9) rfl ?_); (try (refine gate_guard (by rfl) ?_; dsimp only)); refine box_event ?hg (N := 9) ?hd (cs := #[.int .i64 0, .int .i64 0, .int .i64 0, .int .i64 0]) (t := 27) ?hr ?_; (case hd => rfl); (case hg => rfl); (case hr => first | (go_simp; done) | (go_simp; rfl)); intro gb418 hg w16 hbox hb; replace HO405 := am (Kd.V_below (Kd.V_elderB (pv HO405.out) gb418 (Nat.le_of_eq hg.symm)) hb); have BK418 := am (hbox); have GW418 := am (ge hg (bg1 HB.out GE412.out)); have GE418 := GW418; replace HB := am (below_step (bg1 HB.out GE412.out) hb); have NB412_418 := am (nb hg (pb BK412.out)); have NB418_412 := am (Ne.symm NB412_418.out); replace BK412 := am (blk_below (pb BK412.out) hb); clear hb hbox hg; have hnb17 := NB418_412.out; have hnc17 := NB412_418.out; obtain ⟨hcz18_0, hcz18_1, hcz18_2, hcz18_3⟩ := b4 BK418.out; obtain ⟨hfz18_0, hfz18_1, hfz18_2, hfz18_3⟩ := f4 BK418.out))
   (try simp only [Act.put, List.setIfInBounds_toArray, List.set_cons_zero, List.set_cons_succ])
   go_cut [73] (fun v73 wc => ∃ (kq : Nat) (x73_8 : Bool), v73 = .bool x73_8 ∧ Aside0 (laws_FnLastWrite.j1 kq l1 t403 t406 t411 t417 x73_8 t407 t408 t409 t410 t413 t414 t415 t416 = some r) ∧ Aside0 (kq ≤ kj2) ∧ Aside0 (Kd.V k53 53 wc w.heap.size (fun k_ => k_ ≠ gb412 ∧ k_ ≠ gb418) (.slice Ao11 t403.length co11) t403) ∧ Aside0 (wc.heap[gb412]? = some (.cells #[.int .i64 t407, .int .i64 t408, .int .i64 t409, .int .i64 t410] 27 (0, 0))) ∧ Aside0 (wc.heap[gb418]? = some (.cells #[.int .i64 t413, .int .i64 t414, .int .i64 t415, .int .i64 t416] 27 (0, 0))) ∧ Aside0 (Below w.heap.size w wc))
   case first =>
    have H := HC9.out
    clear HC9
    by_cases c19 : (t417 != t411) = true
    · rw [if_pos c19] at H
      have c19b0 : (t417 != t411) = true := c19
      (try (have c19b1 : decide (t417 = t411) = false := by simpa using c19))
      (try (have c19b2 : (t417 == t411) = false := by simpa using c19))
      (try (have c19b3 : ¬ (t417 = t411) := by simpa using c19))
      clear c19
      (first | rw [c19b0] | (simp only [i64_w, i32_w]; rw [c19b0]) | skip)
      have H' := am H
      clear H
      go_wp2
      go_meet
      case rel => exact ⟨_, (true), rf, H', ⟨by have := HJ2.out; first | omega | exact Nat.le_refl _⟩, ⟨pv (Kd.V_mono (Kd.V_far (p := ⟨gb418, 3, none⟩) (Kd.V_far (p := ⟨gb418, 2, none⟩) (Kd.V_far (p := ⟨gb418, 1, none⟩) (Kd.V_far (p := ⟨gb418, 0, none⟩) (Kd.V_mono HO405.out (fun k_ hk => (⟨hk, hk.2⟩ : _ ∧ k_ ≠ gb418))) (fun _ hk => hk.2) (.int .i64 t413)) (fun _ hk => hk.2) (.int .i64 t414)) (fun _ hk => hk.2) (.int .i64 t415)) (fun _ hk => hk.2) (.int .i64 t416)) (fun _ hk => ⟨hk.1.1.2, hk.1.2⟩))⟩, ⟨bf4 (pb BK412.out) NB412_418.out⟩, ⟨bp4 (pb BK418.out)⟩, ⟨bg2 HB.out GE412.out GE418.out⟩⟩
    rw [if_neg c19] at H
    have c19b0 : (t417 != t411) = false := by simpa using c19
    (try (have c19b1 : decide (t417 = t411) = true := by simpa using c19))
    (try (have c19b2 : (t417 == t411) = true := by simpa using c19))
    clear c19
    (first | rw [c19b0] | (simp only [i64_w, i32_w]; rw [c19b0]) | skip)
    by_cases c20 : (!(t413 == t407) || (!(t414 == t408) || (!(t415 == t409) || (!(t416 == t410))))) = true
    · rw [if_pos c20] at H
      have c20b0 : (!(t413 == t407) || (!(t414 == t408) || (!(t415 == t409) || (!(t416 == t410))))) = true := c20
      clear c20
      have H' := am H
      clear H
      have hnb21 := NB418_412.out
      have hnc21 := NB412_418.out
      obtain ⟨hcz22_0, hcz22_1, hcz22_2, hcz22_3⟩ := b4 BK418.out
      obtain ⟨hfz22_0, hfz22_1, hfz22_2, hfz22_3⟩ := f4 BK418.out
      obtain ⟨hcz23_0, hcz23_1, hcz23_2, hcz23_3⟩ := b4 BK412.out
      obtain ⟨hfz23_0, hfz23_1, hfz23_2, hfz23_3⟩ := f4 BK412.out
      go_wp2
      go_meet
      case rel => exact ⟨_, (true), rf, H', ⟨by have := HJ2.out; first | omega | exact Nat.le_refl _⟩, ⟨pv (Kd.V_mono (Kd.V_far (p := ⟨gb418, 3, none⟩) (Kd.V_far (p := ⟨gb418, 2, none⟩) (Kd.V_far (p := ⟨gb418, 1, none⟩) (Kd.V_far (p := ⟨gb418, 0, none⟩) (Kd.V_mono HO405.out (fun k_ hk => (⟨hk, hk.2⟩ : _ ∧ k_ ≠ gb418))) (fun _ hk => hk.2) (.int .i64 t413)) (fun _ hk => hk.2) (.int .i64 t414)) (fun _ hk => hk.2) (.int .i64 t415)) (fun _ hk => hk.2) (.int .i64 t416)) (fun _ hk => ⟨hk.1.1.2, hk.1.2⟩))⟩, ⟨bf4 (pb BK412.out) NB412_418.out⟩, ⟨bp4 (pb BK418.out)⟩, ⟨bg2 HB.out GE412.out GE418.out⟩⟩
    rw [if_neg c20] at H
    have c20b0 : (!(t413 == t407) || (!(t414 == t408) || (!(t415 == t409) || (!(t416 == t410))))) = false := by simpa using c20
    clear c20
    replace H := Option.bind_eq_some_iff.mp H
    obtain ⟨t419, A240, H⟩ := H
    have A24 := am A240
    clear A240
    by_cases c25 : t419 = true
    rotate_left
    · replace c25 := Bool.eq_false_iff.mpr c25
      subst c25
      rw [if_neg (show ¬ (false = true) by decide)] at H
      have H' := am H
      clear H
      have hnb35 := NB418_412.out
      have hnc35 := NB412_418.out
      obtain ⟨hcz36_0, hcz36_1, hcz36_2, hcz36_3⟩ := b4 BK418.out
      obtain ⟨hfz36_0, hfz36_1, hfz36_2, hfz36_3⟩ := f4 BK418.out
      obtain ⟨hcz37_0, hcz37_1, hcz37_2, hcz37_3⟩ := b4 BK412.out
      obtain ⟨hfz37_0, hfz37_1, hfz37_2, hfz37_3⟩ := f4 BK412.out
      go_wp2_with (first | (go_at_call 7; (with_reducible refine (spec_FlashOk.calls _ _ t403 false _ ?side1 ?side2 A24.out).mono ?_); (case side1 => refine (Kd.V_reads' (e := 53) (base := w.heap.size) (ok := fun k_ => ((True ∧ k_ ≠ gb412) ∧ k_ ≠ gb418)) (n := t403.length) (c := co11) ?_).2.2; exact (pv ((Kd.V_mono (Kd.V_far (p := ⟨gb418, 3, none⟩) (Kd.V_far (p := ⟨gb418, 2, none⟩) (Kd.V_far (p := ⟨gb418, 1, none⟩) (Kd.V_far (p := ⟨gb418, 0, none⟩) (Kd.V_mono HO405.out (fun k_ hk => (⟨hk, hk.2⟩ : _ ∧ k_ ≠ gb418))) (fun _ hk => hk.2) (.int .i64 t413)) (fun _ hk => hk.2) (.int .i64 t414)) (fun _ hk => hk.2) (.int .i64 t415)) (fun _ hk => hk.2) (.int .i64 t416)) (fun _ h_ => h_.1))))); (case side2 => exact (Kd.V_reads' HO405.out).2.1); rintro e w38 ⟨rfl, hb⟩; replace HO405 := am (Kd.V_below (pv ((Kd.V_mono (Kd.V_far (p := ⟨gb418, 3, none⟩) (Kd.V_far (p := ⟨gb418, 2, none⟩) (Kd.V_far (p := ⟨gb418, 1, none⟩) (Kd.V_far (p := ⟨gb418, 0, none⟩) (Kd.V_mono HO405.out (fun k_ hk => (⟨hk, hk.2⟩ : _ ∧ k_ ≠ gb418))) (fun _ hk => hk.2) (.int .i64 t413)) (fun _ hk => hk.2) (.int .i64 t414)) (fun _ hk => hk.2) (.int .i64 t415)) (fun _ hk => hk.2) (.int .i64 t416)) (fun _ h_ => h_.1)))) hb); replace BK412 := am (blk_below (bf4 (pb BK412.out) NB412_418.out) hb); replace BK418 := am (blk_below (bp4 (pb BK418.out)) hb); replace HB := am (below_step (bg2 HB.out GE412.out GE418.out) hb); clear hb))
      go_meet
      case rel => exact ⟨_, (true), rf, H', ⟨by have := HJ2.out; first | omega | exact Nat.le_refl _⟩, ⟨pv (Kd.V_mono HO405.out (fun _ hk => ⟨hk.1.2, hk.2⟩))⟩, ⟨pb BK412.out⟩, ⟨pb BK418.out⟩, ⟨bg2 HB.out GE412.out GE418.out⟩⟩
    subst c25
    rw [if_pos rfl] at H
    by_cases c26 : t406 < 1
    · rw [if_pos c26] at H
      have c26b0 := decide_eq_true c26
      clear c26
      have H' := am H
      clear H
      have hnb27 := NB418_412.out
      have hnc27 := NB412_418.out
      obtain ⟨hcz28_0, hcz28_1, hcz28_2, hcz28_3⟩ := b4 BK418.out
      obtain ⟨hfz28_0, hfz28_1, hfz28_2, hfz28_3⟩ := f4 BK418.out
      obtain ⟨hcz29_0, hcz29_1, hcz29_2, hcz29_3⟩ := b4 BK412.out
      obtain ⟨hfz29_0, hfz29_1, hfz29_2, hfz29_3⟩ := f4 BK412.out
      go_wp2_with (first | (go_at_call 7; (with_reducible refine (spec_FlashOk.calls _ _ t403 true _ ?side1 ?side2 A24.out).mono ?_); (case side1 => refine (Kd.V_reads' (e := 53) (base := w.heap.size) (ok := fun k_ => ((True ∧ k_ ≠ gb412) ∧ k_ ≠ gb418)) (n := t403.length) (c := co11) ?_).2.2; exact (pv ((Kd.V_mono (Kd.V_far (p := ⟨gb418, 3, none⟩) (Kd.V_far (p := ⟨gb418, 2, none⟩) (Kd.V_far (p := ⟨gb418, 1, none⟩) (Kd.V_far (p := ⟨gb418, 0, none⟩) (Kd.V_mono HO405.out (fun k_ hk => (⟨hk, hk.2⟩ : _ ∧ k_ ≠ gb418))) (fun _ hk => hk.2) (.int .i64 t413)) (fun _ hk => hk.2) (.int .i64 t414)) (fun _ hk => hk.2) (.int .i64 t415)) (fun _ hk => hk.2) (.int .i64 t416)) (fun _ h_ => h_.1))))); (case side2 => exact (Kd.V_reads' HO405.out).2.1); rintro e w30 ⟨rfl, hb⟩; replace HO405 := am (Kd.V_below (pv ((Kd.V_mono (Kd.V_far (p := ⟨gb418, 3, none⟩) (Kd.V_far (p := ⟨gb418, 2, none⟩) (Kd.V_far (p := ⟨gb418, 1, none⟩) (Kd.V_far (p := ⟨gb418, 0, none⟩) (Kd.V_mono HO405.out (fun k_ hk => (⟨hk, hk.2⟩ : _ ∧ k_ ≠ gb418))) (fun _ hk => hk.2) (.int .i64 t413)) (fun _ hk => hk.2) (.int .i64 t414)) (fun _ hk => hk.2) (.int .i64 t415)) (fun _ hk => hk.2) (.int .i64 t416)) (fun _ h_ => h_.1)))) hb); replace BK412 := am (blk_below (bf4 (pb BK412.out) NB412_418.out) hb); replace BK418 := am (blk_below (bp4 (pb BK418.out)) hb); replace HB := am (below_step (bg2 HB.out GE412.out GE418.out) hb); clear hb))
      go_meet
      case rel => exact ⟨_, (true), rf, H', ⟨by have := HJ2.out; first | omega | exact Nat.le_refl _⟩, ⟨pv (Kd.V_mono HO405.out (fun _ hk => ⟨hk.1.2, hk.2⟩))⟩, ⟨pb BK412.out⟩, ⟨pb BK418.out⟩, ⟨bg2 HB.out GE412.out GE418.out⟩⟩
    rw [if_neg c26] at H
    have c26b0 := decide_eq_false c26
    clear c26
    have H' := am H
    clear H
    have hnb31 := NB418_412.out
    have hnc31 := NB412_418.out
    obtain ⟨hcz32_0, hcz32_1, hcz32_2, hcz32_3⟩ := b4 BK418.out
    obtain ⟨hfz32_0, hfz32_1, hfz32_2, hfz32_3⟩ := f4 BK418.out
    obtain ⟨hcz33_0, hcz33_1, hcz33_2, hcz33_3⟩ := b4 BK412.out
    obtain ⟨hfz33_0, hfz33_1, hfz33_2, hfz33_3⟩ := f4 BK412.out
    go_wp2_with (first | (go_at_call 7; (with_reducible refine (spec_FlashOk.calls _ _ t403 true _ ?side1 ?side2 A24.out).mono ?_); (case side1 => refine (Kd.V_reads' (e := 53) (base := w.heap.size) (ok := fun k_ => ((True ∧ k_ ≠ gb412) ∧ k_ ≠ gb418)) (n := t403.length) (c := co11) ?_).2.2; exact (pv ((Kd.V_mono (Kd.V_far (p := ⟨gb418, 3, none⟩) (Kd.V_far (p := ⟨gb418, 2, none⟩) (Kd.V_far (p := ⟨gb418, 1, none⟩) (Kd.V_far (p := ⟨gb418, 0, none⟩) (Kd.V_mono HO405.out (fun k_ hk => (⟨hk, hk.2⟩ : _ ∧ k_ ≠ gb418))) (fun _ hk => hk.2) (.int .i64 t413)) (fun _ hk => hk.2) (.int .i64 t414)) (fun _ hk => hk.2) (.int .i64 t415)) (fun _ hk => hk.2) (.int .i64 t416)) (fun _ h_ => h_.1))))); (case side2 => exact (Kd.V_reads' HO405.out).2.1); rintro e w34 ⟨rfl, hb⟩; replace HO405 := am (Kd.V_below (pv ((Kd.V_mono (Kd.V_far (p := ⟨gb418, 3, none⟩) (Kd.V_far (p := ⟨gb418, 2, none⟩) (Kd.V_far (p := ⟨gb418, 1, none⟩) (Kd.V_far (p := ⟨gb418, 0, none⟩) (Kd.V_mono HO405.out (fun k_ hk => (⟨hk, hk.2⟩ : _ ∧ k_ ≠ gb418))) (fun _ hk => hk.2) (.int .i64 t413)) (fun _ hk => hk.2) (.int .i64 t414)) (fun _ hk => hk.2) (.int .i64 t415)) (fun _ hk => hk.2) (.int .i64 t416)) (fun _ h_ => h_.1)))) hb); replace BK412 := am (blk_below (bf4 (pb BK412.out) NB412_418.out) hb); replace BK418 := am (blk_below (bp4 (pb BK418.out)) hb); replace HB := am (below_step (bg2 HB.out GE412.out GE418.out) hb); clear hb))
    go_meet
    case rel => exact ⟨_, (decide (t406 > 6)), rf, H', ⟨by have := HJ2.out; first | omega | exact Nat.le_refl _⟩, ⟨pv (Kd.V_mono HO405.out (fun _ hk => ⟨hk.1.2, hk.2⟩))⟩, ⟨pb BK412.out⟩, ⟨pb BK418.out⟩, ⟨bg2 HB.out GE412.out GE418.out⟩⟩
   case rest =>
    clear HC9
    obtain ⟨kq, x73_8, rfl, HA, HJ8, HO_5, BK412, BK418, HB⟩ := hcut
    cases kq with
    | zero => exact absurd HA.out (by simp [laws_FnLastWrite.j1])
    | succ kj8 =>
     have H := HA.out
     clear HA
     simp only [laws_FnLastWrite.j1] at H
     by_cases c39 : x73_8 = true
     · subst c39
       rw [if_pos rfl] at H
       by_cases c40 : (t417 == t411) = true
       rotate_left
       · rw [if_neg c40] at H
         have c40b0 : (t417 == t411) = false := by simpa using c40
         (try (have c40b1 : decide (t417 = t411) = false := by simpa using c40))
         (try (have c40b2 : (t417 == t411) = false := by simpa using c40))
         (try (have c40b3 : ¬ (t417 = t411) := by simpa using c40))
         clear c40
         obtain rfl := Option.some.inj H
         go_wp2
         go_ret
         exact (rq (bg2 HB.out GE412.out GE418.out))
       rw [if_pos c40] at H
       have c40b0 : (t417 == t411) = true := c40
       (try (have c40b1 : decide (t417 = t411) = true := by simpa using c40))
       (try (have c40b2 : (t417 == t411) = true := by simpa using c40))
       clear c40
       obtain rfl := Option.some.inj H
       have hnb41 := NB418_412.out
       have hnc41 := NB412_418.out
       obtain ⟨hcz42_0, hcz42_1, hcz42_2, hcz42_3⟩ := b4 BK418.out
       obtain ⟨hfz42_0, hfz42_1, hfz42_2, hfz42_3⟩ := f4 BK418.out
       obtain ⟨hcz43_0, hcz43_1, hcz43_2, hcz43_3⟩ := b4 BK412.out
       obtain ⟨hfz43_0, hfz43_1, hfz43_2, hfz43_3⟩ := f4 BK412.out
       go_wp2
       go_ret
       exact (rq (bg2 HB.out GE412.out GE418.out))
     replace c39 := Bool.eq_false_iff.mpr c39
     subst c39
     rw [if_neg (show ¬ (false = true) by decide)] at H
     replace H := Option.bind_eq_some_iff.mp H
     obtain ⟨⟨t420, t421⟩, A440, H⟩ := H
     have A44 := am A440
     clear A440
     replace H := Option.bind_eq_some_iff.mp H
     obtain ⟨t422, A450, H⟩ := H
     have A45 := am A450
     clear A450
     have HC46 := am H
     clear H
     go_upto_region 10 with (first | (refine gl 84 Try.func8 #[.slice Ao11 t403.length co11] rfl ?_; (with_reducible refine (impl_FindOpen.calls kj8 _ _ t403 t420 t421 _ ?side1 ?side2 A44.out).mono ?_); (case side1 => exact pc ((Kd.V_reads' HO_5.out).2.2)); (case side2 => exact (Kd.V_reads' HO_5.out).2.1); rintro e w47 ⟨rfl, hb⟩; refine ⟨_, rfl, ?_⟩; replace HO_5 := am (Kd.V_below (pv HO_5.out) hb); replace BK412 := am (blk_below (pb BK412.out) hb); replace BK418 := am (blk_below (pb BK418.out) hb); replace HB := am (below_step (bg2 HB.out GE412.out GE418.out) hb); clear hb) | (refine gl 88 Try.func9 #[.slice Ao11 t403.length co11] rfl ?_; (with_reducible refine (impl_FindNext.calls _ _ t403 t422 _ ?side1 ?side2 A45.out).mono ?_); (case side1 => exact pc ((Kd.V_reads' HO_5.out).2.2)); (case side2 => exact (Kd.V_reads' HO_5.out).2.1); rintro e w48 ⟨rfl, hb⟩; refine ⟨_, rfl, ?_⟩; replace HO_5 := am (Kd.V_below (pv HO_5.out) hb); replace BK412 := am (blk_below (pb BK412.out) hb); replace BK418 := am (blk_below (pb BK418.out) hb); replace HB := am (below_step (bg2 HB.out GE412.out GE418.out) hb); clear hb))
     (try simp only [Act.put, List.setIfInBounds_toArray, List.set_cons_zero, List.set_cons_succ])
     go_cut [94] (fun v94 wc => ∃ (kq : Nat) (x94_45 : Bool), v94 = .bool x94_45 ∧ Aside0 (laws_FnLastWrite.j2 kq l1 t403 t406 t417 t420 t422 x94_45 t413 t414 t415 t416 = some r) ∧ Aside0 (kq ≤ kj8) ∧ Aside0 (Kd.V k53 53 wc w.heap.size (fun k_ => k_ ≠ gb412 ∧ k_ ≠ gb418) (.slice Ao11 t403.length co11) t403) ∧ Aside0 (wc.heap[gb412]? = some (.cells #[.int .i64 t407, .int .i64 t408, .int .i64 t409, .int .i64 t410] 27 (0, 0))) ∧ Aside0 (wc.heap[gb418]? = some (.cells #[.int .i64 t413, .int .i64 t414, .int .i64 t415, .int .i64 t416] 27 (0, 0))) ∧ Aside0 (Below w.heap.size w wc))
     case first =>
      have H := HC46.out
      clear HC46
      by_cases c49 : t421 = true
      · subst c49
        rw [if_pos rfl] at H
        have H' := am H
        clear H
        go_wp2
        go_meet
        case rel => exact ⟨_, (decide (t422 > 600)), rf, H', ⟨by have := HJ2.out; have := HJ8.out; first | omega | exact Nat.le_refl _⟩, ⟨pv HO_5.out⟩, ⟨pb BK412.out⟩, ⟨pb BK418.out⟩, ⟨bg2 HB.out GE412.out GE418.out⟩⟩
      replace c49 := Bool.eq_false_iff.mpr c49
      subst c49
      rw [if_neg (show ¬ (false = true) by decide)] at H
      have H' := am H
      clear H
      go_wp2
      go_meet
      case rel => exact ⟨_, (true), rf, H', ⟨by have := HJ2.out; have := HJ8.out; first | omega | exact Nat.le_refl _⟩, ⟨pv HO_5.out⟩, ⟨pb BK412.out⟩, ⟨pb BK418.out⟩, ⟨bg2 HB.out GE412.out GE418.out⟩⟩
     case rest =>
      clear HC46
      obtain ⟨kq, x94_45, rfl, HA, HJ45, HO_5, BK412, BK418, HB⟩ := hcut
      cases kq with
      | zero => exact absurd HA.out (by simp [laws_FnLastWrite.j2])
      | succ kj45 =>
       have H := HA.out
       clear HA
       simp only [laws_FnLastWrite.j2] at H
       by_cases c50 : x94_45 = true
       · subst c50
         rw [if_pos rfl] at H
         obtain rfl := Option.some.inj H
         go_wp2
         go_ret
         exact (rq (bg2 HB.out GE412.out GE418.out))
       replace c50 := Bool.eq_false_iff.mpr c50
       subst c50
       rw [if_neg (show ¬ (false = true) by decide)] at H
       replace H := Option.bind_eq_some_iff.mp H
       obtain ⟨⟨t424, t427⟩, A510, H⟩ := H
       have A51 := am A510
       clear A510
       replace H := Option.bind_eq_some_iff.mp H
       obtain ⟨⟨t428, t431⟩, A520, H⟩ := H
       have A52 := am A520
       clear A520
       replace H := Option.bind_eq_some_iff.mp H
       obtain ⟨⟨t432, t433, t434, t435, t436⟩, A530, H⟩ := H
       have A53 := am A530
       clear A530
       replace H := Option.bind_eq_some_iff.mp H
       obtain ⟨⟨t438, t439, t440, t441, t442⟩, A540, H⟩ := H
       have A54 := am A540
       clear A540
       have H' := am H
       clear H
       go_wp2_with (first | ((with_reducible refine gate_dst (N := 14) rfl ?_); (try (refine gate_guard (by rfl) ?_; dsimp only)); refine box_event ?hg (N := 14) ?hd (cs := #[.int .i64 0, .int .i64 0, .int .i64 0, .int .i64 0]) (t := 27) ?hr ?_; (case hd => rfl); (case hg => rfl); (case hr => first | (go_simp; done) | (go_simp; rfl)); intro gb423 hg w55 hbox hb; replace HO_5 := am (Kd.V_below (Kd.V_elderB (pv HO_5.out) gb423 (Nat.le_of_eq hg.symm)) hb); have BK423 := am (hbox); have GW423 := am (ge hg (bg2 HB.out GE412.out GE418.out)); have GE423 := GW423; replace HB := am (below_step (bg2 HB.out GE412.out GE418.out) hb); have NB412_423 := am (nb hg (pb BK412.out)); have NB423_412 := am (Ne.symm NB412_423.out); replace BK412 := am (blk_below (pb BK412.out) hb); have NB418_423 := am (nb hg (pb BK418.out)); have NB423_418 := am (Ne.symm NB418_423.out); replace BK418 := am (blk_below (pb BK418.out) hb); clear hb hbox hg; have hnb56 := NB423_412.out; have hnc56 := NB412_423.out; have hnb57 := NB423_418.out; have hnc57 := NB418_423.out; obtain ⟨hcz58_0, hcz58_1, hcz58_2, hcz58_3⟩ := b4 BK423.out; obtain ⟨hfz58_0, hfz58_1, hfz58_2, hfz58_3⟩ := f4 BK423.out) | (refine gl 105 Try.func10 #[.slice Ao11 t403.length co11, .int .i64 t420, .agg #[.int .i64 1, .int .i64 t422, .int .i64 t406, .int .i64 ((l1.length : Int) % 10)], .bool false] rfl ?_; (with_reducible refine (impl_FlashWrite.calls kj45 _ _ t403 t420 1 t422 t406 ((l1.length : Int) % 10) false t424 t427 _ ?side1 ?side2 A51.out).mono ?_); (case side1 => refine (Kd.V_reads' (e := 53) (base := w.heap.size) (ok := fun k_ => ((k_ ≠ gb412 ∧ k_ ≠ gb418) ∧ k_ ≠ gb423)) (n := t403.length) (c := co11) ?_).2.2; exact (pv ((Kd.V_mono (Kd.V_far (p := ⟨gb423, 3, none⟩) (Kd.V_far (p := ⟨gb423, 2, none⟩) (Kd.V_far (p := ⟨gb423, 1, none⟩) (Kd.V_far (p := ⟨gb423, 0, none⟩) (Kd.V_mono HO_5.out (fun k_ hk => (⟨hk, hk.2⟩ : _ ∧ k_ ≠ gb423))) (fun _ hk => hk.2) (.int .i64 1)) (fun _ hk => hk.2) (.int .i64 t422)) (fun _ hk => hk.2) (.int .i64 t406)) (fun _ hk => hk.2) (.int .i64 ((l1.length : Int) % 10))) (fun _ h_ => h_.1))))); (case side2 => exact (Kd.V_reads' HO_5.out).2.1); rintro e w59 ⟨v425, rfl, ho0, hb⟩; refine ⟨_, rfl, ?_⟩; replace HO_5 := am (Kd.V_below (pv ((Kd.V_mono (Kd.V_far (p := ⟨gb423, 3, none⟩) (Kd.V_far (p := ⟨gb423, 2, none⟩) (Kd.V_far (p := ⟨gb423, 1, none⟩) (Kd.V_far (p := ⟨gb423, 0, none⟩) (Kd.V_mono HO_5.out (fun k_ hk => (⟨hk, hk.2⟩ : _ ∧ k_ ≠ gb423))) (fun _ hk => hk.2) (.int .i64 1)) (fun _ hk => hk.2) (.int .i64 t422)) (fun _ hk => hk.2) (.int .i64 t406)) (fun _ hk => hk.2) (.int .i64 ((l1.length : Int) % 10))) (fun _ h_ => h_.1)))) hb); have HO426 := am (Kd.V_lower (Kd.V_mono (ok' := fun k_ => k_ ≠ gb412 ∧ k_ ≠ gb418 ∧ k_ ≠ gb423) ho0 (fun k_ hk_ => ⟨(Kd.freshB (g := gb412) (o := .cells #[.int .i64 t407, .int .i64 t408, .int .i64 t409, .int .i64 t410] 27 (0, 0)) (bf4 (pb BK412.out) NB412_423.out) k_ hk_), (Kd.freshB (g := gb418) (o := .cells #[.int .i64 t413, .int .i64 t414, .int .i64 t415, .int .i64 t416] 27 (0, 0)) (bf4 (pb BK418.out) NB418_423.out) k_ hk_), (Kd.freshB (g := gb423) (o := .cells #[.int .i64 1, .int .i64 t422, .int .i64 t406, .int .i64 ((l1.length : Int) % 10)] 27 (0, 0)) (bp4 (pb BK423.out)) k_ hk_)⟩)) (below_size (bg3 HB.out GE412.out GE418.out GE423.out))); replace BK412 := am (blk_below (bf4 (pb BK412.out) NB412_423.out) hb); replace BK418 := am (blk_below (bf4 (pb BK418.out) NB418_423.out) hb); replace BK423 := am (blk_below (bp4 (pb BK423.out)) hb); replace HB := am (below_step (bg3 HB.out GE412.out GE418.out GE423.out) hb); clear hb ho0; obtain ⟨hcz60_0, hcz60_1, hcz60_2, hcz60_3⟩ := b4 BK423.out; obtain ⟨hfz60_0, hfz60_1, hfz60_2, hfz60_3⟩ := f4 BK423.out) | (refine gl 112 Try.func10 #[.slice Ao11 t403.length co11, .int .i64 t420, .agg #[.int .i64 1, .int .i64 t422, .int .i64 t406, .int .i64 ((l1.length : Int) % 10)], .bool true] rfl ?_; (with_reducible refine (impl_FlashWrite.calls kj45 _ _ t403 t420 1 t422 t406 ((l1.length : Int) % 10) true t428 t431 _ ?side1 ?side2 A52.out).mono ?_); (case side1 => exact pc ((Kd.V_reads' HO_5.out).2.2)); (case side2 => exact (Kd.V_reads' HO_5.out).2.1); rintro e w61 ⟨v429, rfl, ho0, hb⟩; refine ⟨_, rfl, ?_⟩; replace HO_5 := am (Kd.V_below (pv HO_5.out) hb); replace HO426 := am (Kd.V_below (pv HO426.out) hb); have HO430 := am (Kd.V_lower (Kd.V_mono (ok' := fun k_ => k_ ≠ gb412 ∧ k_ ≠ gb418 ∧ k_ ≠ gb423) ho0 (fun k_ hk_ => ⟨(Kd.freshB (g := gb412) (o := .cells #[.int .i64 t407, .int .i64 t408, .int .i64 t409, .int .i64 t410] 27 (0, 0)) (pb BK412.out) k_ hk_), (Kd.freshB (g := gb418) (o := .cells #[.int .i64 t413, .int .i64 t414, .int .i64 t415, .int .i64 t416] 27 (0, 0)) (pb BK418.out) k_ hk_), (Kd.freshB (g := gb423) (o := .cells #[.int .i64 1, .int .i64 t422, .int .i64 t406, .int .i64 ((l1.length : Int) % 10)] 27 (0, 0)) (pb BK423.out) k_ hk_)⟩)) (below_size (bg3 HB.out GE412.out GE418.out GE423.out))); replace BK412 := am (blk_below (pb BK412.out) hb); replace BK418 := am (blk_below (pb BK418.out) hb); replace BK423 := am (blk_below (pb BK423.out) hb); replace HB := am (below_step (bg3 HB.out GE412.out GE418.out GE423.out) hb); clear hb ho0; obtain ⟨Ao62, co62, eo62⟩ := Kd.V_slice HO426.out; subst eo62) | (refine gl 118 Try.func6 #[.slice Ao62 t424.length co62, .int .i64 t406] rfl ?_; (with_reducible refine (impl_FindLast.calls _ _ t424 t406 t432 t433 t434 t435 t436 _ ?side1 ?side2 A53.out).mono ?_); (case side1 => exact pc ((Kd.V_reads' HO426.out).2.2)); (case side2 => exact (Kd.V_reads' HO426.out).2.1); rintro e w63 ⟨rfl, hb⟩; refine ⟨_, rfl, ?_⟩; replace HO_5 := am (Kd.V_below (pv HO_5.out) hb); replace HO426 := am (Kd.V_below (pv HO426.out) hb); replace HO430 := am (Kd.V_below (pv HO430.out) hb); replace BK412 := am (blk_below (pb BK412.out) hb); replace BK418 := am (blk_below (pb BK418.out) hb); replace BK423 := am (blk_below (pb BK423.out) hb); replace HB := am (below_step (bg3 HB.out GE412.out GE418.out GE423.out) hb); clear hb) | ((with_reducible refine gate_dst (N := 19) rfl ?_); (try (refine gate_guard (by rfl) ?_; dsimp only)); refine box_event ?hg (N := 19) ?hd (cs := #[.int .i64 0, .int .i64 0, .int .i64 0, .int .i64 0]) (t := 27) ?hr ?_; (case hd => rfl); (case hg => rfl); (case hr => first | (go_simp; done) | (go_simp; rfl)); intro gb437 hg w64 hbox hb; replace HO_5 := am (Kd.V_below (Kd.V_elderB (pv HO_5.out) gb437 (Nat.le_of_eq hg.symm)) hb); replace HO426 := am (Kd.V_below (Kd.V_elderB (pv HO426.out) gb437 (Nat.le_of_eq hg.symm)) hb); replace HO430 := am (Kd.V_below (Kd.V_elderB (pv HO430.out) gb437 (Nat.le_of_eq hg.symm)) hb); have BK437 := am (hbox); have GW437 := am (ge hg (bg3 HB.out GE412.out GE418.out GE423.out)); have GE437 := GW437; replace HB := am (below_step (bg3 HB.out GE412.out GE418.out GE423.out) hb); have NB412_437 := am (nb hg (pb BK412.out)); have NB437_412 := am (Ne.symm NB412_437.out); replace BK412 := am (blk_below (pb BK412.out) hb); have NB418_437 := am (nb hg (pb BK418.out)); have NB437_418 := am (Ne.symm NB418_437.out); replace BK418 := am (blk_below (pb BK418.out) hb); have NB423_437 := am (nb hg (pb BK423.out)); have NB437_423 := am (Ne.symm NB423_437.out); replace BK423 := am (blk_below (pb BK423.out) hb); clear hb hbox hg; have hnb65 := NB437_412.out; have hnc65 := NB412_437.out; have hnb66 := NB437_418.out; have hnc66 := NB418_437.out; have hnb67 := NB437_423.out; have hnc67 := NB423_437.out; obtain ⟨hcz68_0, hcz68_1, hcz68_2, hcz68_3⟩ := b4 BK437.out; obtain ⟨hfz68_0, hfz68_1, hfz68_2, hfz68_3⟩ := f4 BK437.out; obtain ⟨Ao69, co69, eo69⟩ := Kd.V_slice HO430.out; subst eo69) | (refine gl 124 Try.func6 #[.slice Ao69 t428.length co69, .int .i64 t406] rfl ?_; (with_reducible refine (impl_FindLast.calls _ _ t428 t406 t438 t439 t440 t441 t442 _ ?side1 ?side2 A54.out).mono ?_); (case side1 => refine (Kd.V_reads' (e := 53) (base := w.heap.size) (ok := fun k_ => ((k_ ≠ gb412 ∧ (k_ ≠ gb418 ∧ k_ ≠ gb423)) ∧ k_ ≠ gb437)) (n := t428.length) (c := co69) ?_).2.2; exact (pv ((Kd.V_mono (Kd.V_far (p := ⟨gb437, 3, none⟩) (Kd.V_far (p := ⟨gb437, 2, none⟩) (Kd.V_far (p := ⟨gb437, 1, none⟩) (Kd.V_far (p := ⟨gb437, 0, none⟩) (Kd.V_mono HO430.out (fun k_ hk => (⟨hk, hk.2⟩ : _ ∧ k_ ≠ gb437))) (fun _ hk => hk.2) (.int .i64 t432)) (fun _ hk => hk.2) (.int .i64 t433)) (fun _ hk => hk.2) (.int .i64 t434)) (fun _ hk => hk.2) (.int .i64 t435)) (fun _ h_ => h_.1))))); (case side2 => exact (Kd.V_reads' HO430.out).2.1); rintro e w70 ⟨rfl, hb⟩; refine ⟨_, rfl, ?_⟩; replace HO_5 := am (Kd.V_below (pv ((Kd.V_mono (Kd.V_far (p := ⟨gb437, 3, none⟩) (Kd.V_far (p := ⟨gb437, 2, none⟩) (Kd.V_far (p := ⟨gb437, 1, none⟩) (Kd.V_far (p := ⟨gb437, 0, none⟩) (Kd.V_mono HO_5.out (fun k_ hk => (⟨hk, hk.2⟩ : _ ∧ k_ ≠ gb437))) (fun _ hk => hk.2) (.int .i64 t432)) (fun _ hk => hk.2) (.int .i64 t433)) (fun _ hk => hk.2) (.int .i64 t434)) (fun _ hk => hk.2) (.int .i64 t435)) (fun _ h_ => h_.1)))) hb); replace HO426 := am (Kd.V_below (pv ((Kd.V_mono (Kd.V_far (p := ⟨gb437, 3, none⟩) (Kd.V_far (p := ⟨gb437, 2, none⟩) (Kd.V_far (p := ⟨gb437, 1, none⟩) (Kd.V_far (p := ⟨gb437, 0, none⟩) (Kd.V_mono HO426.out (fun k_ hk => (⟨hk, hk.2⟩ : _ ∧ k_ ≠ gb437))) (fun _ hk => hk.2) (.int .i64 t432)) (fun _ hk => hk.2) (.int .i64 t433)) (fun _ hk => hk.2) (.int .i64 t434)) (fun _ hk => hk.2) (.int .i64 t435)) (fun _ h_ => h_.1)))) hb); replace HO430 := am (Kd.V_below (pv ((Kd.V_mono (Kd.V_far (p := ⟨gb437, 3, none⟩) (Kd.V_far (p := ⟨gb437, 2, none⟩) (Kd.V_far (p := ⟨gb437, 1, none⟩) (Kd.V_far (p := ⟨gb437, 0, none⟩) (Kd.V_mono HO430.out (fun k_ hk => (⟨hk, hk.2⟩ : _ ∧ k_ ≠ gb437))) (fun _ hk => hk.2) (.int .i64 t432)) (fun _ hk => hk.2) (.int .i64 t433)) (fun _ hk => hk.2) (.int .i64 t434)) (fun _ hk => hk.2) (.int .i64 t435)) (fun _ h_ => h_.1)))) hb); replace BK412 := am (blk_below (bf4 (pb BK412.out) NB412_437.out) hb); replace BK418 := am (blk_below (bf4 (pb BK418.out) NB418_437.out) hb); replace BK423 := am (blk_below (bf4 (pb BK423.out) NB423_437.out) hb); replace BK437 := am (blk_below (bp4 (pb BK437.out)) hb); replace HB := am (below_step (bg4 HB.out GE412.out GE418.out GE423.out GE437.out) hb); clear hb) | ((with_reducible refine gate_dst (N := 21) rfl ?_); (try (refine gate_guard (by rfl) ?_; dsimp only)); refine box_event ?hg (N := 21) ?hd (cs := #[.int .i64 0, .int .i64 0, .int .i64 0, .int .i64 0]) (t := 27) ?hr ?_; (case hd => rfl); (case hg => rfl); (case hr => first | (go_simp; done) | (go_simp; rfl)); intro gb443 hg w71 hbox hb; replace HO_5 := am (Kd.V_below (Kd.V_elderB (pv HO_5.out) gb443 (Nat.le_of_eq hg.symm)) hb); replace HO426 := am (Kd.V_below (Kd.V_elderB (pv HO426.out) gb443 (Nat.le_of_eq hg.symm)) hb); replace HO430 := am (Kd.V_below (Kd.V_elderB (pv HO430.out) gb443 (Nat.le_of_eq hg.symm)) hb); have BK443 := am (hbox); have GW443 := am (ge hg (bg4 HB.out GE412.out GE418.out GE423.out GE437.out)); have GE443 := GW443; replace HB := am (below_step (bg4 HB.out GE412.out GE418.out GE423.out GE437.out) hb); have NB412_443 := am (nb hg (pb BK412.out)); have NB443_412 := am (Ne.symm NB412_443.out); replace BK412 := am (blk_below (pb BK412.out) hb); have NB418_443 := am (nb hg (pb BK418.out)); have NB443_418 := am (Ne.symm NB418_443.out); replace BK418 := am (blk_below (pb BK418.out) hb); have NB423_443 := am (nb hg (pb BK423.out)); have NB443_423 := am (Ne.symm NB423_443.out); replace BK423 := am (blk_below (pb BK423.out) hb); have NB437_443 := am (nb hg (pb BK437.out)); have NB443_437 := am (Ne.symm NB437_443.out); replace BK437 := am (blk_below (pb BK437.out) hb); clear hb hbox hg; have hnb72 := NB443_412.out; have hnc72 := NB412_443.out; have hnb73 := NB443_418.out; have hnc73 := NB418_443.out; have hnb74 := NB443_423.out; have hnc74 := NB423_443.out; have hnb75 := NB443_437.out; have hnc75 := NB437_443.out; obtain ⟨hcz76_0, hcz76_1, hcz76_2, hcz76_3⟩ := b4 BK443.out; obtain ⟨hfz76_0, hfz76_1, hfz76_2, hfz76_3⟩ := f4 BK443.out))
       go_loopg [23] kj45 (fun kq v23 w' => ∃ (x23_4 : Int), v23 = .int .i64 x23_4 ∧ Aside0 (laws_FnLastWrite.l0 kq t403 t406 t417 t422 t424 t427 t431 t436 t442 x23_4 t413 t414 t415 t416 1 t422 t406 ((l1.length : Int) % 10) t432 t433 t434 t435 t438 t439 t440 t441 = some r) ∧ Aside0 (kq ≤ kj45) ∧ Aside0 (Kd.V k53 53 w' w.heap.size (fun k_ => k_ ≠ gb412 ∧ k_ ≠ gb418 ∧ k_ ≠ gb423 ∧ k_ ≠ gb437 ∧ k_ ≠ gb443) (.slice Ao11 t403.length co11) t403) ∧ Aside0 (Kd.V k53 53 w' w.heap.size (fun k_ => k_ ≠ gb412 ∧ k_ ≠ gb418 ∧ k_ ≠ gb423 ∧ k_ ≠ gb437 ∧ k_ ≠ gb443) (.slice Ao62 t424.length co62) t424) ∧ Aside0 (w'.heap[gb412]? = some (.cells #[.int .i64 t407, .int .i64 t408, .int .i64 t409, .int .i64 t410] 27 (0, 0))) ∧ Aside0 (w'.heap[gb418]? = some (.cells #[.int .i64 t413, .int .i64 t414, .int .i64 t415, .int .i64 t416] 27 (0, 0))) ∧ Aside0 (w'.heap[gb423]? = some (.cells #[.int .i64 1, .int .i64 t422, .int .i64 t406, .int .i64 ((l1.length : Int) % 10)] 27 (0, 0))) ∧ Aside0 (w'.heap[gb437]? = some (.cells #[.int .i64 t432, .int .i64 t433, .int .i64 t434, .int .i64 t435] 27 (0, 0))) ∧ Aside0 (w'.heap[gb443]? = some (.cells #[.int .i64 t438, .int .i64 t439, .int .i64 t440, .int .i64 t441] 27 (0, 0))) ∧ Aside0 (Below w.heap.size w w'))
       case atStart => exact ⟨(1), rf, H', ⟨Nat.le_refl _⟩, ⟨pv (Kd.V_mono (Kd.V_far (p := ⟨gb443, 3, none⟩) (Kd.V_far (p := ⟨gb443, 2, none⟩) (Kd.V_far (p := ⟨gb443, 1, none⟩) (Kd.V_far (p := ⟨gb443, 0, none⟩) (Kd.V_mono HO_5.out (fun k_ hk => (⟨hk, hk.2⟩ : _ ∧ k_ ≠ gb443))) (fun _ hk => hk.2) (.int .i64 t438)) (fun _ hk => hk.2) (.int .i64 t439)) (fun _ hk => hk.2) (.int .i64 t440)) (fun _ hk => hk.2) (.int .i64 t441)) (fun _ hk => ⟨hk.1.1.1.1.1, ⟨hk.1.1.1.1.2, ⟨hk.1.1.1.2, ⟨hk.1.1.2, hk.1.2⟩⟩⟩⟩))⟩, ⟨pv (Kd.V_mono (Kd.V_far (p := ⟨gb443, 3, none⟩) (Kd.V_far (p := ⟨gb443, 2, none⟩) (Kd.V_far (p := ⟨gb443, 1, none⟩) (Kd.V_far (p := ⟨gb443, 0, none⟩) (Kd.V_mono HO426.out (fun k_ hk => (⟨hk, hk.2⟩ : _ ∧ k_ ≠ gb443))) (fun _ hk => hk.2) (.int .i64 t438)) (fun _ hk => hk.2) (.int .i64 t439)) (fun _ hk => hk.2) (.int .i64 t440)) (fun _ hk => hk.2) (.int .i64 t441)) (fun _ hk => ⟨hk.1.1.1.1, ⟨hk.1.1.1.2.1, ⟨hk.1.1.1.2.2, ⟨hk.1.1.2, hk.1.2⟩⟩⟩⟩))⟩, ⟨bf4 (pb BK412.out) NB412_443.out⟩, ⟨bf4 (pb BK418.out) NB418_443.out⟩, ⟨bf4 (pb BK423.out) NB423_443.out⟩, ⟨bf4 (pb BK437.out) NB437_443.out⟩, ⟨bp4 (pb BK443.out)⟩, ⟨bq HB.out (by simp (maxDischargeDepth := 40) only [ba, bs, bn, bd, HB.out, GE412.out, GE418.out, GE423.out, GE437.out, GE443.out])⟩⟩
       case round =>
        clear H'
        obtain ⟨x23_4, rfl, HA, HK4, HO_5, HO_15, BK412, BK418, BK423, BK437, BK443, HB⟩ := hrel
        cases gk with
        | zero => exact absurd HA.out (by simp [laws_FnLastWrite.l0])
        | succ k4 =>
         have H := HA.out
         clear HA
         simp only [laws_FnLastWrite.l0] at H
         by_cases c77 : x23_4 ≤ 6
         rotate_left
         · rw [if_neg c77] at H
           have c77b0 := decide_eq_false c77
           clear c77
           by_cases c154 : t427 = true
           rotate_left
           · replace c154 := Bool.eq_false_iff.mpr c154
             subst c154
             rw [if_neg (show ¬ (false = true) by decide)] at H
             obtain rfl := Option.some.inj H
             go_wp2
             go_ret
             exact (rq (bq HB.out (by simp (maxDischargeDepth := 40) only [ba, bs, bn, bd, HB.out, GE412.out, GE418.out, GE423.out, GE437.out, GE443.out])))
           subst c154
           rw [if_pos rfl] at H
           by_cases c155 : t431 = true
           rotate_left
           · replace c155 := Bool.eq_false_iff.mpr c155
             subst c155
             rw [if_neg (show ¬ (false = true) by decide)] at H
             obtain rfl := Option.some.inj H
             go_wp2
             go_ret
             exact (rq (bq HB.out (by simp (maxDischargeDepth := 40) only [ba, bs, bn, bd, HB.out, GE412.out, GE418.out, GE423.out, GE437.out, GE443.out])))
           subst c155
           rw [if_pos rfl] at H
           by_cases c156 : t436 = true
           rotate_left
           · replace c156 := Bool.eq_false_iff.mpr c156
             subst c156
             rw [if_neg (show ¬ (false = true) by decide)] at H
             obtain rfl := Option.some.inj H
             go_wp2
             go_ret
             exact (rq (bq HB.out (by simp (maxDischargeDepth := 40) only [ba, bs, bn, bd, HB.out, GE412.out, GE418.out, GE423.out, GE437.out, GE443.out])))
           subst c156
           rw [if_pos rfl] at H
           by_cases c157 : (t432 == 1 && (t433 == t422 && (t434 == t406 && (t435 == ((l1.length : Int) % 10))))) = true
           rotate_left
           · rw [if_neg c157] at H
             have c157b0 : (t432 == 1 && (t433 == t422 && (t434 == t406 && (t435 == ((l1.length : Int) % 10))))) = false := by simpa using c157
             (try (have c157b1 : decide (t432 = 1 && (t433 == t422 && (t434 == t406 && (t435 == ((l1.length : Int) % 10))))) = false := by simpa using c157))
             (try (have c157b2 : (t432 == 1 && (t433 == t422 && (t434 == t406 && (t435 == ((l1.length : Int) % 10))))) = false := by simpa using c157))
             (try (have c157b3 : ¬ (t432 = 1 && (t433 == t422 && (t434 == t406 && (t435 == ((l1.length : Int) % 10))))) := by simpa using c157))
             clear c157
             obtain rfl := Option.some.inj H
             have hnb204 := NB437_412.out
             have hnc204 := NB412_437.out
             have hnb205 := NB437_418.out
             have hnc205 := NB418_437.out
             have hnb206 := NB437_423.out
             have hnc206 := NB423_437.out
             have hnb207 := NB437_443.out
             have hnc207 := NB443_437.out
             obtain ⟨hcz208_0, hcz208_1, hcz208_2, hcz208_3⟩ := b4 BK437.out
             obtain ⟨hfz208_0, hfz208_1, hfz208_2, hfz208_3⟩ := f4 BK437.out
             have hnb209 := NB423_412.out
             have hnc209 := NB412_423.out
             have hnb210 := NB423_418.out
             have hnc210 := NB418_423.out
             have hnb211 := NB423_443.out
             have hnc211 := NB443_423.out
             obtain ⟨hcz212_0, hcz212_1, hcz212_2, hcz212_3⟩ := b4 BK423.out
             obtain ⟨hfz212_0, hfz212_1, hfz212_2, hfz212_3⟩ := f4 BK423.out
             go_wp2
             go_ret
             exact (rq (bq HB.out (by simp (maxDischargeDepth := 40) only [ba, bs, bn, bd, HB.out, GE412.out, GE418.out, GE423.out, GE437.out, GE443.out])))
           rw [if_pos c157] at H
           have c157b0 : (t432 == 1 && (t433 == t422 && (t434 == t406 && (t435 == ((l1.length : Int) % 10))))) = true := c157
           (try (have c157b1 : decide (t432 = 1 && (t433 == t422 && (t434 == t406 && (t435 == ((l1.length : Int) % 10))))) = true := by simpa using c157))
           (try (have c157b2 : (t432 == 1 && (t433 == t422 && (t434 == t406 && (t435 == ((l1.length : Int) % 10))))) = true := by simpa using c157))
           clear c157
           by_cases c158 : (t438 == t413 && (t439 == t414 && (t440 == t415 && (t441 == t416)))) = true
           rotate_left
           · rw [if_neg c158] at H
             have c158b0 : (t438 == t413 && (t439 == t414 && (t440 == t415 && (t441 == t416)))) = false := by simpa using c158
             (try (have c158b1 : decide (t438 = t413 && (t439 == t414 && (t440 == t415 && (t441 == t416)))) = false := by simpa using c158))
             (try (have c158b2 : (t438 == t413 && (t439 == t414 && (t440 == t415 && (t441 == t416)))) = false := by simpa using c158))
             (try (have c158b3 : ¬ (t438 = t413 && (t439 == t414 && (t440 == t415 && (t441 == t416)))) := by simpa using c158))
             clear c158
             obtain rfl := Option.some.inj H
             have hnb190 := NB437_412.out
             have hnc190 := NB412_437.out
             have hnb191 := NB437_418.out
             have hnc191 := NB418_437.out
             have hnb192 := NB437_423.out
             have hnc192 := NB423_437.out
             have hnb193 := NB437_443.out
             have hnc193 := NB443_437.out
             obtain ⟨hcz194_0, hcz194_1, hcz194_2, hcz194_3⟩ := b4 BK437.out
             obtain ⟨hfz194_0, hfz194_1, hfz194_2, hfz194_3⟩ := f4 BK437.out
             have hnb195 := NB423_412.out
             have hnc195 := NB412_423.out
             have hnb196 := NB423_418.out
             have hnc196 := NB418_423.out
             have hnb197 := NB423_443.out
             have hnc197 := NB443_423.out
             obtain ⟨hcz198_0, hcz198_1, hcz198_2, hcz198_3⟩ := b4 BK423.out
             obtain ⟨hfz198_0, hfz198_1, hfz198_2, hfz198_3⟩ := f4 BK423.out
             have hnb199 := NB443_412.out
             have hnc199 := NB412_443.out
             have hnb200 := NB443_418.out
             have hnc200 := NB418_443.out
             obtain ⟨hcz201_0, hcz201_1, hcz201_2, hcz201_3⟩ := b4 BK443.out
             obtain ⟨hfz201_0, hfz201_1, hfz201_2, hfz201_3⟩ := f4 BK443.out
             have hnb202 := NB418_412.out
             have hnc202 := NB412_418.out
             obtain ⟨hcz203_0, hcz203_1, hcz203_2, hcz203_3⟩ := b4 BK418.out
             obtain ⟨hfz203_0, hfz203_1, hfz203_2, hfz203_3⟩ := f4 BK418.out
             go_wp2
             go_ret
             exact (rq (bq HB.out (by simp (maxDischargeDepth := 40) only [ba, bs, bn, bd, HB.out, GE412.out, GE418.out, GE423.out, GE437.out, GE443.out])))
           rw [if_pos c158] at H
           have c158b0 : (t438 == t413 && (t439 == t414 && (t440 == t415 && (t441 == t416)))) = true := c158
           (try (have c158b1 : decide (t438 = t413 && (t439 == t414 && (t440 == t415 && (t441 == t416)))) = true := by simpa using c158))
           (try (have c158b2 : (t438 == t413 && (t439 == t414 && (t440 == t415 && (t441 == t416)))) = true := by simpa using c158))
           clear c158
           by_cases c159 : (t442 == t417) = true
           rotate_left
           · rw [if_neg c159] at H
             have c159b0 : (t442 == t417) = false := by simpa using c159
             (try (have c159b1 : decide (t442 = t417) = false := by simpa using c159))
             (try (have c159b2 : (t442 == t417) = false := by simpa using c159))
             (try (have c159b3 : ¬ (t442 = t417) := by simpa using c159))
             clear c159
             obtain rfl := Option.some.inj H
             have hnb176 := NB437_412.out
             have hnc176 := NB412_437.out
             have hnb177 := NB437_418.out
             have hnc177 := NB418_437.out
             have hnb178 := NB437_423.out
             have hnc178 := NB423_437.out
             have hnb179 := NB437_443.out
             have hnc179 := NB443_437.out
             obtain ⟨hcz180_0, hcz180_1, hcz180_2, hcz180_3⟩ := b4 BK437.out
             obtain ⟨hfz180_0, hfz180_1, hfz180_2, hfz180_3⟩ := f4 BK437.out
             have hnb181 := NB423_412.out
             have hnc181 := NB412_423.out
             have hnb182 := NB423_418.out
             have hnc182 := NB418_423.out
             have hnb183 := NB423_443.out
             have hnc183 := NB443_423.out
             obtain ⟨hcz184_0, hcz184_1, hcz184_2, hcz184_3⟩ := b4 BK423.out
             obtain ⟨hfz184_0, hfz184_1, hfz184_2, hfz184_3⟩ := f4 BK423.out
             have hnb185 := NB443_412.out
             have hnc185 := NB412_443.out
             have hnb186 := NB443_418.out
             have hnc186 := NB418_443.out
             obtain ⟨hcz187_0, hcz187_1, hcz187_2, hcz187_3⟩ := b4 BK443.out
             obtain ⟨hfz187_0, hfz187_1, hfz187_2, hfz187_3⟩ := f4 BK443.out
             have hnb188 := NB418_412.out
             have hnc188 := NB412_418.out
             obtain ⟨hcz189_0, hcz189_1, hcz189_2, hcz189_3⟩ := b4 BK418.out
             obtain ⟨hfz189_0, hfz189_1, hfz189_2, hfz189_3⟩ := f4 BK418.out
             go_wp2
             go_ret
             exact (rq (bq HB.out (by simp (maxDischargeDepth := 40) only [ba, bs, bn, bd, HB.out, GE412.out, GE418.out, GE423.out, GE437.out, GE443.out])))
           rw [if_pos c159] at H
           have c159b0 : (t442 == t417) = true := c159
           (try (have c159b1 : decide (t442 = t417) = true := by simpa using c159))
           (try (have c159b2 : (t442 == t417) = true := by simpa using c159))
           clear c159
           replace H := Option.bind_eq_some_iff.mp H
           obtain ⟨t444, A1600, H⟩ := H
           have A160 := am A1600
           clear A1600
           obtain rfl := Option.some.inj H
           have hnb161 := NB437_412.out
           have hnc161 := NB412_437.out
           have hnb162 := NB437_418.out
           have hnc162 := NB418_437.out
           have hnb163 := NB437_423.out
           have hnc163 := NB423_437.out
           have hnb164 := NB437_443.out
           have hnc164 := NB443_437.out
           obtain ⟨hcz165_0, hcz165_1, hcz165_2, hcz165_3⟩ := b4 BK437.out
           obtain ⟨hfz165_0, hfz165_1, hfz165_2, hfz165_3⟩ := f4 BK437.out
           have hnb166 := NB423_412.out
           have hnc166 := NB412_423.out
           have hnb167 := NB423_418.out
           have hnc167 := NB418_423.out
           have hnb168 := NB423_443.out
           have hnc168 := NB443_423.out
           obtain ⟨hcz169_0, hcz169_1, hcz169_2, hcz169_3⟩ := b4 BK423.out
           obtain ⟨hfz169_0, hfz169_1, hfz169_2, hfz169_3⟩ := f4 BK423.out
           have hnb170 := NB443_412.out
           have hnc170 := NB412_443.out
           have hnb171 := NB443_418.out
           have hnc171 := NB418_443.out
           obtain ⟨hcz172_0, hcz172_1, hcz172_2, hcz172_3⟩ := b4 BK443.out
           obtain ⟨hfz172_0, hfz172_1, hfz172_2, hfz172_3⟩ := f4 BK443.out
           have hnb173 := NB418_412.out
           have hnc173 := NB412_418.out
           obtain ⟨hcz174_0, hcz174_1, hcz174_2, hcz174_3⟩ := b4 BK418.out
           obtain ⟨hfz174_0, hfz174_1, hfz174_2, hfz174_3⟩ := f4 BK418.out
           go_wp2_with (first | (go_at_call 9; (with_reducible refine (impl_FindNext.calls _ _ t424 t444 _ ?side1 ?side2 A160.out).mono ?_); (case side1 => exact pc ((Kd.V_reads' HO_15.out).2.2)); (case side2 => exact (Kd.V_reads' HO_15.out).2.1); rintro e w175 ⟨rfl, hb⟩; replace HO_5 := am (Kd.V_below (pv HO_5.out) hb); replace HO_15 := am (Kd.V_below (pv HO_15.out) hb); replace BK412 := am (blk_below (pb BK412.out) hb); replace BK418 := am (blk_below (pb BK418.out) hb); replace BK423 := am (blk_below (pb BK423.out) hb); replace BK437 := am (blk_below (pb BK437.out) hb); replace BK443 := am (blk_below (pb BK443.out) hb); replace HB := am (below_step (bq HB.out (by simp (maxDischargeDepth := 40) only [ba, bs, bn, bd, HB.out, GE412.out, GE418.out, GE423.out, GE437.out, GE443.out])) hb); clear hb))
           go_ret
           exact (rq (bq HB.out (by simp (maxDischargeDepth := 40) only [ba, bs, bn, bd, HB.out, GE412.out, GE418.out, GE423.out, GE437.out, GE443.out])))
         rw [if_pos c77] at H
         have c77b0 := decide_eq_true c77
         clear c77
         replace H := Option.bind_eq_some_iff.mp H
         obtain ⟨⟨t445, t446, t447, t448, t449⟩, A780, H⟩ := H
         have A78 := am A780
         clear A780
         replace H := Option.bind_eq_some_iff.mp H
         obtain ⟨⟨t451, t452, t453, t454, t455⟩, A790, H⟩ := H
         have A79 := am A790
         clear A790
         by_cases c80 : x23_4 = t406
         · rw [if_pos c80] at H
           have c80b0 : (x23_4 == t406) = true := beq_iff_eq.mpr c80
           have c80b1 : (x23_4 != t406) = false := bne_eq_false_iff_eq.mpr c80
           clear c80
           have H' := am H
           clear H
           go_wp2_with (first | (refine gl 134 Try.func6 #[.slice Ao11 t403.length co11, .int .i64 x23_4] rfl ?_; (with_reducible refine (impl_FindLast.calls _ _ t403 x23_4 t445 t446 t447 t448 t449 _ ?side1 ?side2 A78.out).mono ?_); (case side1 => exact pc ((Kd.V_reads' HO_5.out).2.2)); (case side2 => exact (Kd.V_reads' HO_5.out).2.1); rintro e w81 ⟨rfl, hb⟩; refine ⟨_, rfl, ?_⟩; replace HO_5 := am (Kd.V_below (pv HO_5.out) hb); replace HO_15 := am (Kd.V_below (pv HO_15.out) hb); replace BK412 := am (blk_below (pb BK412.out) hb); replace BK418 := am (blk_below (pb BK418.out) hb); replace BK423 := am (blk_below (pb BK423.out) hb); replace BK437 := am (blk_below (pb BK437.out) hb); replace BK443 := am (blk_below (pb BK443.out) hb); replace HB := am (below_step (bq HB.out (by simp (maxDischargeDepth := 40) only [ba, bs, bn, bd, HB.out, GE412.out, GE418.out, GE423.out, GE437.out, GE443.out])) hb); clear hb) | ((with_reducible refine gate_dst (N := 24) rfl ?_); (try (refine gate_guard (by rfl) ?_; dsimp only)); refine box_event ?hg (N := 24) ?hd (cs := #[.int .i64 0, .int .i64 0, .int .i64 0, .int .i64 0]) (t := 27) ?hr ?_; (case hd => rfl); (case hg => rfl); (case hr => first | (go_simp; done) | (go_simp; rfl)); intro gb450 hg w82 hbox hb; replace HO_5 := am (Kd.V_below (Kd.V_elderB (pv HO_5.out) gb450 (Nat.le_of_eq hg.symm)) hb); replace HO_15 := am (Kd.V_below (Kd.V_elderB (pv HO_15.out) gb450 (Nat.le_of_eq hg.symm)) hb); have BK450 := am (hbox); have GW450 := am ((by rw [hg]; exact (below_size (bq HB.out (by simp (maxDischargeDepth := 40) only [ba, bs, bn, bd, HB.out, GE412.out, GE418.out, GE423.out, GE437.out, GE443.out]))) : w.heap.size ≤ gb450)); have GE450 := GW450; replace HB := am (below_step (bq HB.out (by simp (maxDischargeDepth := 40) only [ba, bs, bn, bd, HB.out, GE412.out, GE418.out, GE423.out, GE437.out, GE443.out])) hb); have NB412_450 := am (nb hg (pb BK412.out)); have NB450_412 := am (Ne.symm NB412_450.out); replace BK412 := am (blk_below (pb BK412.out) hb); have NB418_450 := am (nb hg (pb BK418.out)); have NB450_418 := am (Ne.symm NB418_450.out); replace BK418 := am (blk_below (pb BK418.out) hb); have NB423_450 := am (nb hg (pb BK423.out)); have NB450_423 := am (Ne.symm NB423_450.out); replace BK423 := am (blk_below (pb BK423.out) hb); have NB437_450 := am (nb hg (pb BK437.out)); have NB450_437 := am (Ne.symm NB437_450.out); replace BK437 := am (blk_below (pb BK437.out) hb); have NB443_450 := am (nb hg (pb BK443.out)); have NB450_443 := am (Ne.symm NB443_450.out); replace BK443 := am (blk_below (pb BK443.out) hb); clear hb hbox hg; have hnb83 := NB450_412.out; have hnc83 := NB412_450.out; have hnb84 := NB450_418.out; have hnc84 := NB418_450.out; have hnb85 := NB450_423.out; have hnc85 := NB423_450.out; have hnb86 := NB450_437.out; have hnc86 := NB437_450.out; have hnb87 := NB450_443.out; have hnc87 := NB443_450.out; obtain ⟨hcz88_0, hcz88_1, hcz88_2, hcz88_3⟩ := b4 BK450.out; obtain ⟨hfz88_0, hfz88_1, hfz88_2, hfz88_3⟩ := f4 BK450.out))
           (with_reducible refine (impl_FindLast.calls _ _ t424 x23_4 t451 t452 t453 t454 t455 _ ?side1 ?side2 A79.out).mono ?_)
           (case side1 => refine (Kd.V_reads' (e := 53) (base := w.heap.size) (ok := fun k_ => ((k_ ≠ gb412 ∧ (k_ ≠ gb418 ∧ (k_ ≠ gb423 ∧ (k_ ≠ gb437 ∧ k_ ≠ gb443)))) ∧ k_ ≠ gb450)) (n := t424.length) (c := co62) ?_).2.2; exact (pv ((Kd.V_mono (Kd.V_far (p := ⟨gb450, 3, none⟩) (Kd.V_far (p := ⟨gb450, 2, none⟩) (Kd.V_far (p := ⟨gb450, 1, none⟩) (Kd.V_far (p := ⟨gb450, 0, none⟩) (Kd.V_mono HO_15.out (fun k_ hk => (⟨hk, hk.2⟩ : _ ∧ k_ ≠ gb450))) (fun _ hk => hk.2) (.int .i64 t445)) (fun _ hk => hk.2) (.int .i64 t446)) (fun _ hk => hk.2) (.int .i64 t447)) (fun _ hk => hk.2) (.int .i64 t448)) (fun _ h_ => h_.1)))))
           (case side2 => exact (Kd.V_reads' HO_15.out).2.1)
           rintro e w89 ⟨rfl, hb⟩
           replace HO_5 := am (Kd.V_below (pv ((Kd.V_mono (Kd.V_far (p := ⟨gb450, 3, none⟩) (Kd.V_far (p := ⟨gb450, 2, none⟩) (Kd.V_far (p := ⟨gb450, 1, none⟩) (Kd.V_far (p := ⟨gb450, 0, none⟩) (Kd.V_mono HO_5.out (fun k_ hk => (⟨hk, hk.2⟩ : _ ∧ k_ ≠ gb450))) (fun _ hk => hk.2) (.int .i64 t445)) (fun _ hk => hk.2) (.int .i64 t446)) (fun _ hk => hk.2) (.int .i64 t447)) (fun _ hk => hk.2) (.int .i64 t448)) (fun _ h_ => h_.1)))) hb)
           replace HO_15 := am (Kd.V_below (pv ((Kd.V_mono (Kd.V_far (p := ⟨gb450, 3, none⟩) (Kd.V_far (p := ⟨gb450, 2, none⟩) (Kd.V_far (p := ⟨gb450, 1, none⟩) (Kd.V_far (p := ⟨gb450, 0, none⟩) (Kd.V_mono HO_15.out (fun k_ hk => (⟨hk, hk.2⟩ : _ ∧ k_ ≠ gb450))) (fun _ hk => hk.2) (.int .i64 t445)) (fun _ hk => hk.2) (.int .i64 t446)) (fun _ hk => hk.2) (.int .i64 t447)) (fun _ hk => hk.2) (.int .i64 t448)) (fun _ h_ => h_.1)))) hb)
           replace BK412 := am (blk_below (bf4 (pb BK412.out) NB412_450.out) hb)
           replace BK418 := am (blk_below (bf4 (pb BK418.out) NB418_450.out) hb)
           replace BK423 := am (blk_below (bf4 (pb BK423.out) NB423_450.out) hb)
           replace BK437 := am (blk_below (bf4 (pb BK437.out) NB437_450.out) hb)
           replace BK443 := am (blk_below (bf4 (pb BK443.out) NB443_450.out) hb)
           replace BK450 := am (blk_below (bp4 (pb BK450.out)) hb)
           replace HB := am (below_step (bq HB.out (by simp (maxDischargeDepth := 40) only [ba, bs, bn, bd, HB.out, GE412.out, GE418.out, GE423.out, GE437.out, GE443.out, GE450.out])) hb)
           clear hb
           go_wp2_with (first | ((with_reducible refine gate_dst (N := 26) rfl ?_); (try (refine gate_guard (by rfl) ?_; dsimp only)); refine box_event ?hg (N := 26) ?hd (cs := #[.int .i64 0, .int .i64 0, .int .i64 0, .int .i64 0]) (t := 27) ?hr ?_; (case hd => rfl); (case hg => rfl); (case hr => first | (go_simp; done) | (go_simp; rfl)); intro gb456 hg w90 hbox hb; replace HO_5 := am (Kd.V_below (Kd.V_elderB (pv HO_5.out) gb456 (Nat.le_of_eq hg.symm)) hb); replace HO_15 := am (Kd.V_below (Kd.V_elderB (pv HO_15.out) gb456 (Nat.le_of_eq hg.symm)) hb); have BK456 := am (hbox); have GW456 := am ((by rw [hg]; exact (below_size (bq HB.out (by simp (maxDischargeDepth := 40) only [ba, bs, bn, bd, HB.out, GE412.out, GE418.out, GE423.out, GE437.out, GE443.out, GE450.out]))) : w.heap.size ≤ gb456)); have GE456 := GW456; replace HB := am (below_step (bq HB.out (by simp (maxDischargeDepth := 40) only [ba, bs, bn, bd, HB.out, GE412.out, GE418.out, GE423.out, GE437.out, GE443.out, GE450.out])) hb); have NB412_456 := am (nb hg (pb BK412.out)); have NB456_412 := am (Ne.symm NB412_456.out); replace BK412 := am (blk_below (pb BK412.out) hb); have NB418_456 := am (nb hg (pb BK418.out)); have NB456_418 := am (Ne.symm NB418_456.out); replace BK418 := am (blk_below (pb BK418.out) hb); have NB423_456 := am (nb hg (pb BK423.out)); have NB456_423 := am (Ne.symm NB423_456.out); replace BK423 := am (blk_below (pb BK423.out) hb); have NB437_456 := am (nb hg (pb BK437.out)); have NB456_437 := am (Ne.symm NB437_456.out); replace BK437 := am (blk_below (pb BK437.out) hb); have NB443_456 := am (nb hg (pb BK443.out)); have NB456_443 := am (Ne.symm NB443_456.out); replace BK443 := am (blk_below (pb BK443.out) hb); have NB450_456 := am (nb hg (pb BK450.out)); have NB456_450 := am (Ne.symm NB450_456.out); replace BK450 := am (blk_below (pb BK450.out) hb); clear hb hbox hg; have hnb91 := NB456_412.out; have hnc91 := NB412_456.out; have hnb92 := NB456_418.out; have hnc92 := NB418_456.out; have hnb93 := NB456_423.out; have hnc93 := NB423_456.out; have hnb94 := NB456_437.out; have hnc94 := NB437_456.out; have hnb95 := NB456_443.out; have hnc95 := NB443_456.out; have hnb96 := NB456_450.out; have hnc96 := NB450_456.out; obtain ⟨hcz97_0, hcz97_1, hcz97_2, hcz97_3⟩ := b4 BK456.out; obtain ⟨hfz97_0, hfz97_1, hfz97_2, hfz97_3⟩ := f4 BK456.out))
           go_roundg k4
           case measure => have := HJ2.out; have := HJ8.out; have := HJ45.out; have := HK4.out; omega
           case rel => exact ⟨(wrap64 (x23_4 + 1)), rf, H', ⟨by have := HJ2.out; have := HJ8.out; have := HJ45.out; have := HK4.out; omega⟩, ⟨pv (Kd.V_mono (Kd.V_far (p := ⟨gb456, 3, none⟩) (Kd.V_far (p := ⟨gb456, 2, none⟩) (Kd.V_far (p := ⟨gb456, 1, none⟩) (Kd.V_far (p := ⟨gb456, 0, none⟩) (Kd.V_mono HO_5.out (fun k_ hk => (⟨hk, hk.2⟩ : _ ∧ k_ ≠ gb456))) (fun _ hk => hk.2) (.int .i64 t451)) (fun _ hk => hk.2) (.int .i64 t452)) (fun _ hk => hk.2) (.int .i64 t453)) (fun _ hk => hk.2) (.int .i64 t454)) (fun _ hk => ⟨hk.1.1.1.1, ⟨hk.1.1.1.2.1, ⟨hk.1.1.1.2.2.1, ⟨hk.1.1.1.2.2.2.1, hk.1.1.1.2.2.2.2⟩⟩⟩⟩))⟩, ⟨pv (Kd.V_mono (Kd.V_far (p := ⟨gb456, 3, none⟩) (Kd.V_far (p := ⟨gb456, 2, none⟩) (Kd.V_far (p := ⟨gb456, 1, none⟩) (Kd.V_far (p := ⟨gb456, 0, none⟩) (Kd.V_mono HO_15.out (fun k_ hk => (⟨hk, hk.2⟩ : _ ∧ k_ ≠ gb456))) (fun _ hk => hk.2) (.int .i64 t451)) (fun _ hk => hk.2) (.int .i64 t452)) (fun _ hk => hk.2) (.int .i64 t453)) (fun _ hk => hk.2) (.int .i64 t454)) (fun _ hk => ⟨hk.1.1.1.1, ⟨hk.1.1.1.2.1, ⟨hk.1.1.1.2.2.1, ⟨hk.1.1.1.2.2.2.1, hk.1.1.1.2.2.2.2⟩⟩⟩⟩))⟩, ⟨bf4 (pb BK412.out) NB412_456.out⟩, ⟨bf4 (pb BK418.out) NB418_456.out⟩, ⟨bf4 (pb BK423.out) NB423_456.out⟩, ⟨bf4 (pb BK437.out) NB437_456.out⟩, ⟨bf4 (pb BK443.out) NB443_456.out⟩, ⟨bq HB.out (by simp (maxDischargeDepth := 40) only [ba, bs, bn, bd, HB.out, GE412.out, GE418.out, GE423.out, GE437.out, GE443.out, GE450.out, GE456.out])⟩⟩
         rw [if_neg c80] at H
         have c80b0 : (x23_4 == t406) = false := beq_eq_false_iff_ne.mpr c80
         have c80b1 : (x23_4 != t406) = true := bne_iff_ne.mpr c80
         by_cases c98 : (!(t445 == t451) || (!(t446 == t452) || (!(t447 == t453) || (!(t448 == t454))))) = true
         · rw [if_pos c98] at H
           have c98b0 : (!(t445 == t451) || (!(t446 == t452) || (!(t447 == t453) || (!(t448 == t454))))) = true := c98
           clear c98
           obtain rfl := Option.some.inj H
           go_wp2_with (first | (refine gl 134 Try.func6 #[.slice Ao11 t403.length co11, .int .i64 x23_4] rfl ?_; (with_reducible refine (impl_FindLast.calls _ _ t403 x23_4 t445 t446 t447 t448 t449 _ ?side1 ?side2 A78.out).mono ?_); (case side1 => exact pc ((Kd.V_reads' HO_5.out).2.2)); (case side2 => exact (Kd.V_reads' HO_5.out).2.1); rintro e w99 ⟨rfl, hb⟩; refine ⟨_, rfl, ?_⟩; replace HO_5 := am (Kd.V_below (pv HO_5.out) hb); replace HO_15 := am (Kd.V_below (pv HO_15.out) hb); replace BK412 := am (blk_below (pb BK412.out) hb); replace BK418 := am (blk_below (pb BK418.out) hb); replace BK423 := am (blk_below (pb BK423.out) hb); replace BK437 := am (blk_below (pb BK437.out) hb); replace BK443 := am (blk_below (pb BK443.out) hb); replace HB := am (below_step (bq HB.out (by simp (maxDischargeDepth := 40) only [ba, bs, bn, bd, HB.out, GE412.out, GE418.out, GE423.out, GE437.out, GE443.out])) hb); clear hb) | ((with_reducible refine gate_dst (N := 24) rfl ?_); (try (refine gate_guard (by rfl) ?_; dsimp only)); refine box_event ?hg (N := 24) ?hd (cs := #[.int .i64 0, .int .i64 0, .int .i64 0, .int .i64 0]) (t := 27) ?hr ?_; (case hd => rfl); (case hg => rfl); (case hr => first | (go_simp; done) | (go_simp; rfl)); intro gb450 hg w100 hbox hb; replace HO_5 := am (Kd.V_below (Kd.V_elderB (pv HO_5.out) gb450 (Nat.le_of_eq hg.symm)) hb); replace HO_15 := am (Kd.V_below (Kd.V_elderB (pv HO_15.out) gb450 (Nat.le_of_eq hg.symm)) hb); have BK450 := am (hbox); have GW450 := am ((by rw [hg]; exact (below_size (bq HB.out (by simp (maxDischargeDepth := 40) only [ba, bs, bn, bd, HB.out, GE412.out, GE418.out, GE423.out, GE437.out, GE443.out]))) : w.heap.size ≤ gb450)); have GE450 := GW450; replace HB := am (below_step (bq HB.out (by simp (maxDischargeDepth := 40) only [ba, bs, bn, bd, HB.out, GE412.out, GE418.out, GE423.out, GE437.out, GE443.out])) hb); have NB412_450 := am (nb hg (pb BK412.out)); have NB450_412 := am (Ne.symm NB412_450.out); replace BK412 := am (blk_below (pb BK412.out) hb); have NB418_450 := am (nb hg (pb BK418.out)); have NB450_418 := am (Ne.symm NB418_450.out); replace BK418 := am (blk_below (pb BK418.out) hb); have NB423_450 := am (nb hg (pb BK423.out)); have NB450_423 := am (Ne.symm NB423_450.out); replace BK423 := am (blk_below (pb BK423.out) hb); have NB437_450 := am (nb hg (pb BK437.out)); have NB450_437 := am (Ne.symm NB437_450.out); replace BK437 := am (blk_below (pb BK437.out) hb); have NB443_450 := am (nb hg (pb BK443.out)); have NB450_443 := am (Ne.symm NB443_450.out); replace BK443 := am (blk_below (pb BK443.out) hb); clear hb hbox hg; have hnb101 := NB450_412.out; have hnc101 := NB412_450.out; have hnb102 := NB450_418.out; have hnc102 := NB418_450.out; have hnb103 := NB450_423.out; have hnc103 := NB423_450.out; have hnb104 := NB450_437.out; have hnc104 := NB437_450.out; have hnb105 := NB450_443.out; have hnc105 := NB443_450.out; obtain ⟨hcz106_0, hcz106_1, hcz106_2, hcz106_3⟩ := b4 BK450.out; obtain ⟨hfz106_0, hfz106_1, hfz106_2, hfz106_3⟩ := f4 BK450.out) | (refine gl 140 Try.func6 #[.slice Ao62 t424.length co62, .int .i64 x23_4] rfl ?_; (with_reducible refine (impl_FindLast.calls _ _ t424 x23_4 t451 t452 t453 t454 t455 _ ?side1 ?side2 A79.out).mono ?_); (case side1 => refine (Kd.V_reads' (e := 53) (base := w.heap.size) (ok := fun k_ => ((k_ ≠ gb412 ∧ (k_ ≠ gb418 ∧ (k_ ≠ gb423 ∧ (k_ ≠ gb437 ∧ k_ ≠ gb443)))) ∧ k_ ≠ gb450)) (n := t424.length) (c := co62) ?_).2.2; exact (pv ((Kd.V_mono (Kd.V_far (p := ⟨gb450, 3, none⟩) (Kd.V_far (p := ⟨gb450, 2, none⟩) (Kd.V_far (p := ⟨gb450, 1, none⟩) (Kd.V_far (p := ⟨gb450, 0, none⟩) (Kd.V_mono HO_15.out (fun k_ hk => (⟨hk, hk.2⟩ : _ ∧ k_ ≠ gb450))) (fun _ hk => hk.2) (.int .i64 t445)) (fun _ hk => hk.2) (.int .i64 t446)) (fun _ hk => hk.2) (.int .i64 t447)) (fun _ hk => hk.2) (.int .i64 t448)) (fun _ h_ => h_.1))))); (case side2 => exact (Kd.V_reads' HO_15.out).2.1); rintro e w107 ⟨rfl, hb⟩; refine ⟨_, rfl, ?_⟩; replace HO_5 := am (Kd.V_below (pv ((Kd.V_mono (Kd.V_far (p := ⟨gb450, 3, none⟩) (Kd.V_far (p := ⟨gb450, 2, none⟩) (Kd.V_far (p := ⟨gb450, 1, none⟩) (Kd.V_far (p := ⟨gb450, 0, none⟩) (Kd.V_mono HO_5.out (fun k_ hk => (⟨hk, hk.2⟩ : _ ∧ k_ ≠ gb450))) (fun _ hk => hk.2) (.int .i64 t445)) (fun _ hk => hk.2) (.int .i64 t446)) (fun _ hk => hk.2) (.int .i64 t447)) (fun _ hk => hk.2) (.int .i64 t448)) (fun _ h_ => h_.1)))) hb); replace HO_15 := am (Kd.V_below (pv ((Kd.V_mono (Kd.V_far (p := ⟨gb450, 3, none⟩) (Kd.V_far (p := ⟨gb450, 2, none⟩) (Kd.V_far (p := ⟨gb450, 1, none⟩) (Kd.V_far (p := ⟨gb450, 0, none⟩) (Kd.V_mono HO_15.out (fun k_ hk => (⟨hk, hk.2⟩ : _ ∧ k_ ≠ gb450))) (fun _ hk => hk.2) (.int .i64 t445)) (fun _ hk => hk.2) (.int .i64 t446)) (fun _ hk => hk.2) (.int .i64 t447)) (fun _ hk => hk.2) (.int .i64 t448)) (fun _ h_ => h_.1)))) hb); replace BK412 := am (blk_below (bf4 (pb BK412.out) NB412_450.out) hb); replace BK418 := am (blk_below (bf4 (pb BK418.out) NB418_450.out) hb); replace BK423 := am (blk_below (bf4 (pb BK423.out) NB423_450.out) hb); replace BK437 := am (blk_below (bf4 (pb BK437.out) NB437_450.out) hb); replace BK443 := am (blk_below (bf4 (pb BK443.out) NB443_450.out) hb); replace BK450 := am (blk_below (bp4 (pb BK450.out)) hb); replace HB := am (below_step (bq HB.out (by simp (maxDischargeDepth := 40) only [ba, bs, bn, bd, HB.out, GE412.out, GE418.out, GE423.out, GE437.out, GE443.out, GE450.out])) hb); clear hb) | ((with_reducible refine gate_dst (N := 26) rfl ?_); (try (refine gate_guard (by rfl) ?_; dsimp only)); refine box_event ?hg (N := 26) ?hd (cs := #[.int .i64 0, .int .i64 0, .int .i64 0, .int .i64 0]) (t := 27) ?hr ?_; (case hd => rfl); (case hg => rfl); (case hr => first | (go_simp; done) | (go_simp; rfl)); intro gb456 hg w108 hbox hb; replace HO_5 := am (Kd.V_below (Kd.V_elderB (pv HO_5.out) gb456 (Nat.le_of_eq hg.symm)) hb); replace HO_15 := am (Kd.V_below (Kd.V_elderB (pv HO_15.out) gb456 (Nat.le_of_eq hg.symm)) hb); have BK456 := am (hbox); have GW456 := am ((by rw [hg]; exact (below_size (bq HB.out (by simp (maxDischargeDepth := 40) only [ba, bs, bn, bd, HB.out, GE412.out, GE418.out, GE423.out, GE437.out, GE443.out, GE450.out]))) : w.heap.size ≤ gb456)); have GE456 := GW456; replace HB := am (below_step (bq HB.out (by simp (maxDischargeDepth := 40) only [ba, bs, bn, bd, HB.out, GE412.out, GE418.out, GE423.out, GE437.out, GE443.out, GE450.out])) hb); have NB412_456 := am (nb hg (pb BK412.out)); have NB456_412 := am (Ne.symm NB412_456.out); replace BK412 := am (blk_below (pb BK412.out) hb); have NB418_456 := am (nb hg (pb BK418.out)); have NB456_418 := am (Ne.symm NB418_456.out); replace BK418 := am (blk_below (pb BK418.out) hb); have NB423_456 := am (nb hg (pb BK423.out)); have NB456_423 := am (Ne.symm NB423_456.out); replace BK423 := am (blk_below (pb BK423.out) hb); have NB437_456 := am (nb hg (pb BK437.out)); have NB456_437 := am (Ne.symm NB437_456.out); replace BK437 := am (blk_below (pb BK437.out) hb); have NB443_456 := am (nb hg (pb BK443.out)); have NB456_443 := am (Ne.symm NB443_456.out); replace BK443 := am (blk_below (pb BK443.out) hb); have NB450_456 := am (nb hg (pb BK450.out)); have NB456_450 := am (Ne.symm NB450_456.out); replace BK450 := am (blk_below (pb BK450.out) hb); clear hb hbox hg; have hnb109 := NB456_412.out; have hnc109 := NB412_456.out; have hnb110 := NB456_418.out; have hnc110 := NB418_456.out; have hnb111 := NB456_423.out; have hnc111 := NB423_456.out; have hnb112 := NB456_437.out; have hnc112 := NB437_456.out; have hnb113 := NB456_443.out; have hnc113 := NB443_456.out; have hnb114 := NB456_450.out; have hnc114 := NB450_456.out; obtain ⟨hcz115_0, hcz115_1, hcz115_2, hcz115_3⟩ := b4 BK456.out; obtain ⟨hfz115_0, hfz115_1, hfz115_2, hfz115_3⟩ := f4 BK456.out; obtain ⟨hcz116_0, hcz116_1, hcz116_2, hcz116_3⟩ := b4 BK450.out; obtain ⟨hfz116_0, hfz116_1, hfz116_2, hfz116_3⟩ := f4 BK450.out))
           go_ret
           exact (rq (bq HB.out (by simp (maxDischargeDepth := 40) only [ba, bs, bn, bd, HB.out, GE412.out, GE418.out, GE423.out, GE437.out, GE443.out, GE450.out, GE456.out])))
         rw [if_neg c98] at H
         have c98b0 : (!(t445 == t451) || (!(t446 == t452) || (!(t447 == t453) || (!(t448 == t454))))) = false := by simpa using c98
         clear c98
         by_cases c117 : (t449 != t455) = true
         · rw [if_pos c117] at H
           have c117b0 : (t449 != t455) = true := c117
           (try (have c117b1 : decide (t449 = t455) = false := by simpa using c117))
           (try (have c117b2 : (t449 == t455) = false := by simpa using c117))
           (try (have c117b3 : ¬ (t449 = t455) := by simpa using c117))
           clear c117
           obtain rfl := Option.some.inj H
           go_wp2_with (first | (refine gl 134 Try.func6 #[.slice Ao11 t403.length co11, .int .i64 x23_4] rfl ?_; (with_reducible refine (impl_FindLast.calls _ _ t403 x23_4 t445 t446 t447 t448 t449 _ ?side1 ?side2 A78.out).mono ?_); (case side1 => exact pc ((Kd.V_reads' HO_5.out).2.2)); (case side2 => exact (Kd.V_reads' HO_5.out).2.1); rintro e w118 ⟨rfl, hb⟩; refine ⟨_, rfl, ?_⟩; replace HO_5 := am (Kd.V_below (pv HO_5.out) hb); replace HO_15 := am (Kd.V_below (pv HO_15.out) hb); replace BK412 := am (blk_below (pb BK412.out) hb); replace BK418 := am (blk_below (pb BK418.out) hb); replace BK423 := am (blk_below (pb BK423.out) hb); replace BK437 := am (blk_below (pb BK437.out) hb); replace BK443 := am (blk_below (pb BK443.out) hb); replace HB := am (below_step (bq HB.out (by simp (maxDischargeDepth := 40) only [ba, bs, bn, bd, HB.out, GE412.out, GE418.out, GE423.out, GE437.out, GE443.out])) hb); clear hb) | ((with_reducible refine gate_dst (N := 24) rfl ?_); (try (refine gate_guard (by rfl) ?_; dsimp only)); refine box_event ?hg (N := 24) ?hd (cs := #[.int .i64 0, .int .i64 0, .int .i64 0, .int .i64 0]) (t := 27) ?hr ?_; (case hd => rfl); (case hg => rfl); (case hr => first | (go_simp; done) | (go_simp; rfl)); intro gb450 hg w119 hbox hb; replace HO_5 := am (Kd.V_below (Kd.V_elderB (pv HO_5.out) gb450 (Nat.le_of_eq hg.symm)) hb); replace HO_15 := am (Kd.V_below (Kd.V_elderB (pv HO_15.out) gb450 (Nat.le_of_eq hg.symm)) hb); have BK450 := am (hbox); have GW450 := am ((by rw [hg]; exact (below_size (bq HB.out (by simp (maxDischargeDepth := 40) only [ba, bs, bn, bd, HB.out, GE412.out, GE418.out, GE423.out, GE437.out, GE443.out]))) : w.heap.size ≤ gb450)); have GE450 := GW450; replace HB := am (below_step (bq HB.out (by simp (maxDischargeDepth := 40) only [ba, bs, bn, bd, HB.out, GE412.out, GE418.out, GE423.out, GE437.out, GE443.out])) hb); have NB412_450 := am (nb hg (pb BK412.out)); have NB450_412 := am (Ne.symm NB412_450.out); replace BK412 := am (blk_below (pb BK412.out) hb); have NB418_450 := am (nb hg (pb BK418.out)); have NB450_418 := am (Ne.symm NB418_450.out); replace BK418 := am (blk_below (pb BK418.out) hb); have NB423_450 := am (nb hg (pb BK423.out)); have NB450_423 := am (Ne.symm NB423_450.out); replace BK423 := am (blk_below (pb BK423.out) hb); have NB437_450 := am (nb hg (pb BK437.out)); have NB450_437 := am (Ne.symm NB437_450.out); replace BK437 := am (blk_below (pb BK437.out) hb); have NB443_450 := am (nb hg (pb BK443.out)); have NB450_443 := am (Ne.symm NB443_450.out); replace BK443 := am (blk_below (pb BK443.out) hb); clear hb hbox hg; have hnb120 := NB450_412.out; have hnc120 := NB412_450.out; have hnb121 := NB450_418.out; have hnc121 := NB418_450.out; have hnb122 := NB450_423.out; have hnc122 := NB423_450.out; have hnb123 := NB450_437.out; have hnc123 := NB437_450.out; have hnb124 := NB450_443.out; have hnc124 := NB443_450.out; obtain ⟨hcz125_0, hcz125_1, hcz125_2, hcz125_3⟩ := b4 BK450.out; obtain ⟨hfz125_0, hfz125_1, hfz125_2, hfz125_3⟩ := f4 BK450.out) | (refine gl 140 Try.func6 #[.slice Ao62 t424.length co62, .int .i64 x23_4] rfl ?_; (with_reducible refine (impl_FindLast.calls _ _ t424 x23_4 t451 t452 t453 t454 t455 _ ?side1 ?side2 A79.out).mono ?_); (case side1 => refine (Kd.V_reads' (e := 53) (base := w.heap.size) (ok := fun k_ => ((k_ ≠ gb412 ∧ (k_ ≠ gb418 ∧ (k_ ≠ gb423 ∧ (k_ ≠ gb437 ∧ k_ ≠ gb443)))) ∧ k_ ≠ gb450)) (n := t424.length) (c := co62) ?_).2.2; exact (pv ((Kd.V_mono (Kd.V_far (p := ⟨gb450, 3, none⟩) (Kd.V_far (p := ⟨gb450, 2, none⟩) (Kd.V_far (p := ⟨gb450, 1, none⟩) (Kd.V_far (p := ⟨gb450, 0, none⟩) (Kd.V_mono HO_15.out (fun k_ hk => (⟨hk, hk.2⟩ : _ ∧ k_ ≠ gb450))) (fun _ hk => hk.2) (.int .i64 t445)) (fun _ hk => hk.2) (.int .i64 t446)) (fun _ hk => hk.2) (.int .i64 t447)) (fun _ hk => hk.2) (.int .i64 t448)) (fun _ h_ => h_.1))))); (case side2 => exact (Kd.V_reads' HO_15.out).2.1); rintro e w126 ⟨rfl, hb⟩; refine ⟨_, rfl, ?_⟩; replace HO_5 := am (Kd.V_below (pv ((Kd.V_mono (Kd.V_far (p := ⟨gb450, 3, none⟩) (Kd.V_far (p := ⟨gb450, 2, none⟩) (Kd.V_far (p := ⟨gb450, 1, none⟩) (Kd.V_far (p := ⟨gb450, 0, none⟩) (Kd.V_mono HO_5.out (fun k_ hk => (⟨hk, hk.2⟩ : _ ∧ k_ ≠ gb450))) (fun _ hk => hk.2) (.int .i64 t445)) (fun _ hk => hk.2) (.int .i64 t446)) (fun _ hk => hk.2) (.int .i64 t447)) (fun _ hk => hk.2) (.int .i64 t448)) (fun _ h_ => h_.1)))) hb); replace HO_15 := am (Kd.V_below (pv ((Kd.V_mono (Kd.V_far (p := ⟨gb450, 3, none⟩) (Kd.V_far (p := ⟨gb450, 2, none⟩) (Kd.V_far (p := ⟨gb450, 1, none⟩) (Kd.V_far (p := ⟨gb450, 0, none⟩) (Kd.V_mono HO_15.out (fun k_ hk => (⟨hk, hk.2⟩ : _ ∧ k_ ≠ gb450))) (fun _ hk => hk.2) (.int .i64 t445)) (fun _ hk => hk.2) (.int .i64 t446)) (fun _ hk => hk.2) (.int .i64 t447)) (fun _ hk => hk.2) (.int .i64 t448)) (fun _ h_ => h_.1)))) hb); replace BK412 := am (blk_below (bf4 (pb BK412.out) NB412_450.out) hb); replace BK418 := am (blk_below (bf4 (pb BK418.out) NB418_450.out) hb); replace BK423 := am (blk_below (bf4 (pb BK423.out) NB423_450.out) hb); replace BK437 := am (blk_below (bf4 (pb BK437.out) NB437_450.out) hb); replace BK443 := am (blk_below (bf4 (pb BK443.out) NB443_450.out) hb); replace BK450 := am (blk_below (bp4 (pb BK450.out)) hb); replace HB := am (below_step (bq HB.out (by simp (maxDischargeDepth := 40) only [ba, bs, bn, bd, HB.out, GE412.out, GE418.out, GE423.out, GE437.out, GE443.out, GE450.out])) hb); clear hb) | ((with_reducible refine gate_dst (N := 26) rfl ?_); (try (refine gate_guard (by rfl) ?_; dsimp only)); refine box_event ?hg (N := 26) ?hd (cs := #[.int .i64 0, .int .i64 0, .int .i64 0, .int .i64 0]) (t := 27) ?hr ?_; (case hd => rfl); (case hg => rfl); (case hr => first | (go_simp; done) | (go_simp; rfl)); intro gb456 hg w127 hbox hb; replace HO_5 := am (Kd.V_below (Kd.V_elderB (pv HO_5.out) gb456 (Nat.le_of_eq hg.symm)) hb); replace HO_15 := am (Kd.V_below (Kd.V_elderB (pv HO_15.out) gb456 (Nat.le_of_eq hg.symm)) hb); have BK456 := am (hbox); have GW456 := am ((by rw [hg]; exact (below_size (bq HB.out (by simp (maxDischargeDepth := 40) only [ba, bs, bn, bd, HB.out, GE412.out, GE418.out, GE423.out, GE437.out, GE443.out, GE450.out]))) : w.heap.size ≤ gb456)); have GE456 := GW456; replace HB := am (below_step (bq HB.out (by simp (maxDischargeDepth := 40) only [ba, bs, bn, bd, HB.out, GE412.out, GE418.out, GE423.out, GE437.out, GE443.out, GE450.out])) hb); have NB412_456 := am (nb hg (pb BK412.out)); have NB456_412 := am (Ne.symm NB412_456.out); replace BK412 := am (blk_below (pb BK412.out) hb); have NB418_456 := am (nb hg (pb BK418.out)); have NB456_418 := am (Ne.symm NB418_456.out); replace BK418 := am (blk_below (pb BK418.out) hb); have NB423_456 := am (nb hg (pb BK423.out)); have NB456_423 := am (Ne.symm NB423_456.out); replace BK423 := am (blk_below (pb BK423.out) hb); have NB437_456 := am (nb hg (pb BK437.out)); have NB456_437 := am (Ne.symm NB437_456.out); replace BK437 := am (blk_below (pb BK437.out) hb); have NB443_456 := am (nb hg (pb BK443.out)); have NB456_443 := am (Ne.symm NB443_456.out); replace BK443 := am (blk_below (pb BK443.out) hb); have NB450_456 := am (nb hg (pb BK450.out)); have NB456_450 := am (Ne.symm NB450_456.out); replace BK450 := am (blk_below (pb BK450.out) hb); clear hb hbox hg; have hnb128 := NB456_412.out; have hnc128 := NB412_456.out; have hnb129 := NB456_418.out; have hnc129 := NB418_456.out; have hnb130 := NB456_423.out; have hnc130 := NB423_456.out; have hnb131 := NB456_437.out; have hnc131 := NB437_456.out; have hnb132 := NB456_443.out; have hnc132 := NB443_456.out; have hnb133 := NB456_450.out; have hnc133 := NB450_456.out; obtain ⟨hcz134_0, hcz134_1, hcz134_2, hcz134_3⟩ := b4 BK456.out; obtain ⟨hfz134_0, hfz134_1, hfz134_2, hfz134_3⟩ := f4 BK456.out; obtain ⟨hcz135_0, hcz135_1, hcz135_2, hcz135_3⟩ := b4 BK450.out; obtain ⟨hfz135_0, hfz135_1, hfz135_2, hfz135_3⟩ := f4 BK450.out))
           go_ret
           exact (rq (bq HB.out (by simp (maxDischargeDepth := 40) only [ba, bs, bn, bd, HB.out, GE412.out, GE418.out, GE423.out, GE437.out, GE443.out, GE450.out, GE456.out])))
         rw [if_neg c117] at H
         have c117b0 : (t449 != t455) = false := by simpa using c117
         (try (have c117b1 : decide (t449 = t455) = true := by simpa using c117))
         (try (have c117b2 : (t449 == t455) = true := by simpa using c117))
         clear c117
         have H' := am H
         clear H
         go_wp2_with (first | (refine gl 134 Try.func6 #[.slice Ao11 t403.length co11, .int .i64 x23_4] rfl ?_; (with_reducible refine (impl_FindLast.calls _ _ t403 x23_4 t445 t446 t447 t448 t449 _ ?side1 ?side2 A78.out).mono ?_); (case side1 => exact pc ((Kd.V_reads' HO_5.out).2.2)); (case side2 => exact (Kd.V_reads' HO_5.out).2.1); rintro e w136 ⟨rfl, hb⟩; refine ⟨_, rfl, ?_⟩; replace HO_5 := am (Kd.V_below (pv HO_5.out) hb); replace HO_15 := am (Kd.V_below (pv HO_15.out) hb); replace BK412 := am (blk_below (pb BK412.out) hb); replace BK418 := am (blk_below (pb BK418.out) hb); replace BK423 := am (blk_below (pb BK423.out) hb); replace BK437 := am (blk_below (pb BK437.out) hb); replace BK443 := am (blk_below (pb BK443.out) hb); replace HB := am (below_step (bq HB.out (by simp (maxDischargeDepth := 40) only [ba, bs, bn, bd, HB.out, GE412.out, GE418.out, GE423.out, GE437.out, GE443.out])) hb); clear hb) | ((with_reducible refine gate_dst (N := 24) rfl ?_); (try (refine gate_guard (by rfl) ?_; dsimp only)); refine box_event ?hg (N := 24) ?hd (cs := #[.int .i64 0, .int .i64 0, .int .i64 0, .int .i64 0]) (t := 27) ?hr ?_; (case hd => rfl); (case hg => rfl); (case hr => first | (go_simp; done) | (go_simp; rfl)); intro gb450 hg w137 hbox hb; replace HO_5 := am (Kd.V_below (Kd.V_elderB (pv HO_5.out) gb450 (Nat.le_of_eq hg.symm)) hb); replace HO_15 := am (Kd.V_below (Kd.V_elderB (pv HO_15.out) gb450 (Nat.le_of_eq hg.symm)) hb); have BK450 := am (hbox); have GW450 := am ((by rw [hg]; exact (below_size (bq HB.out (by simp (maxDischargeDepth := 40) only [ba, bs, bn, bd, HB.out, GE412.out, GE418.out, GE423.out, GE437.out, GE443.out]))) : w.heap.size ≤ gb450)); have GE450 := GW450; replace HB := am (below_step (bq HB.out (by simp (maxDischargeDepth := 40) only [ba, bs, bn, bd, HB.out, GE412.out, GE418.out, GE423.out, GE437.out, GE443.out])) hb); have NB412_450 := am (nb hg (pb BK412.out)); have NB450_412 := am (Ne.symm NB412_450.out); replace BK412 := am (blk_below (pb BK412.out) hb); have NB418_450 := am (nb hg (pb BK418.out)); have NB450_418 := am (Ne.symm NB418_450.out); replace BK418 := am (blk_below (pb BK418.out) hb); have NB423_450 := am (nb hg (pb BK423.out)); have NB450_423 := am (Ne.symm NB423_450.out); replace BK423 := am (blk_below (pb BK423.out) hb); have NB437_450 := am (nb hg (pb BK437.out)); have NB450_437 := am (Ne.symm NB437_450.out); replace BK437 := am (blk_below (pb BK437.out) hb); have NB443_450 := am (nb hg (pb BK443.out)); have NB450_443 := am (Ne.symm NB443_450.out); replace BK443 := am (blk_below (pb BK443.out) hb); clear hb hbox hg; have hnb138 := NB450_412.out; have hnc138 := NB412_450.out; have hnb139 := NB450_418.out; have hnc139 := NB418_450.out; have hnb140 := NB450_423.out; have hnc140 := NB423_450.out; have hnb141 := NB450_437.out; have hnc141 := NB437_450.out; have hnb142 := NB450_443.out; have hnc142 := NB443_450.out; obtain ⟨hcz143_0, hcz143_1, hcz143_2, hcz143_3⟩ := b4 BK450.out; obtain ⟨hfz143_0, hfz143_1, hfz143_2, hfz143_3⟩ := f4 BK450.out) | (refine gl 140 Try.func6 #[.slice Ao62 t424.length co62, .int .i64 x23_4] rfl ?_; (with_reducible refine (impl_FindLast.calls _ _ t424 x23_4 t451 t452 t453 t454 t455 _ ?side1 ?side2 A79.out).mono ?_); (case side1 => refine (Kd.V_reads' (e := 53) (base := w.heap.size) (ok := fun k_ => ((k_ ≠ gb412 ∧ (k_ ≠ gb418 ∧ (k_ ≠ gb423 ∧ (k_ ≠ gb437 ∧ k_ ≠ gb443)))) ∧ k_ ≠ gb450)) (n := t424.length) (c := co62) ?_).2.2; exact (pv ((Kd.V_mono (Kd.V_far (p := ⟨gb450, 3, none⟩) (Kd.V_far (p := ⟨gb450, 2, none⟩) (Kd.V_far (p := ⟨gb450, 1, none⟩) (Kd.V_far (p := ⟨gb450, 0, none⟩) (Kd.V_mono HO_15.out (fun k_ hk => (⟨hk, hk.2⟩ : _ ∧ k_ ≠ gb450))) (fun _ hk => hk.2) (.int .i64 t445)) (fun _ hk => hk.2) (.int .i64 t446)) (fun _ hk => hk.2) (.int .i64 t447)) (fun _ hk => hk.2) (.int .i64 t448)) (fun _ h_ => h_.1))))); (case side2 => exact (Kd.V_reads' HO_15.out).2.1); rintro e w144 ⟨rfl, hb⟩; refine ⟨_, rfl, ?_⟩; replace HO_5 := am (Kd.V_below (pv ((Kd.V_mono (Kd.V_far (p := ⟨gb450, 3, none⟩) (Kd.V_far (p := ⟨gb450, 2, none⟩) (Kd.V_far (p := ⟨gb450, 1, none⟩) (Kd.V_far (p := ⟨gb450, 0, none⟩) (Kd.V_mono HO_5.out (fun k_ hk => (⟨hk, hk.2⟩ : _ ∧ k_ ≠ gb450))) (fun _ hk => hk.2) (.int .i64 t445)) (fun _ hk => hk.2) (.int .i64 t446)) (fun _ hk => hk.2) (.int .i64 t447)) (fun _ hk => hk.2) (.int .i64 t448)) (fun _ h_ => h_.1)))) hb); replace HO_15 := am (Kd.V_below (pv ((Kd.V_mono (Kd.V_far (p := ⟨gb450, 3, none⟩) (Kd.V_far (p := ⟨gb450, 2, none⟩) (Kd.V_far (p := ⟨gb450, 1, none⟩) (Kd.V_far (p := ⟨gb450, 0, none⟩) (Kd.V_mono HO_15.out (fun k_ hk => (⟨hk, hk.2⟩ : _ ∧ k_ ≠ gb450))) (fun _ hk => hk.2) (.int .i64 t445)) (fun _ hk => hk.2) (.int .i64 t446)) (fun _ hk => hk.2) (.int .i64 t447)) (fun _ hk => hk.2) (.int .i64 t448)) (fun _ h_ => h_.1)))) hb); replace BK412 := am (blk_below (bf4 (pb BK412.out) NB412_450.out) hb); replace BK418 := am (blk_below (bf4 (pb BK418.out) NB418_450.out) hb); replace BK423 := am (blk_below (bf4 (pb BK423.out) NB423_450.out) hb); replace BK437 := am (blk_below (bf4 (pb BK437.out) NB437_450.out) hb); replace BK443 := am (blk_below (bf4 (pb BK443.out) NB443_450.out) hb); replace BK450 := am (blk_below (bp4 (pb BK450.out)) hb); replace HB := am (below_step (bq HB.out (by simp (maxDischargeDepth := 40) only [ba, bs, bn, bd, HB.out, GE412.out, GE418.out, GE423.out, GE437.out, GE443.out, GE450.out])) hb); clear hb) | ((with_reducible refine gate_dst (N := 26) rfl ?_); (try (refine gate_guard (by rfl) ?_; dsimp only)); refine box_event ?hg (N := 26) ?hd (cs := #[.int .i64 0, .int .i64 0, .int .i64 0, .int .i64 0]) (t := 27) ?hr ?_; (case hd => rfl); (case hg => rfl); (case hr => first | (go_simp; done) | (go_simp; rfl)); intro gb456 hg w145 hbox hb; replace HO_5 := am (Kd.V_below (Kd.V_elderB (pv HO_5.out) gb456 (Nat.le_of_eq hg.symm)) hb); replace HO_15 := am (Kd.V_below (Kd.V_elderB (pv HO_15.out) gb456 (Nat.le_of_eq hg.symm)) hb); have BK456 := am (hbox); have GW456 := am ((by rw [hg]; exact (below_size (bq HB.out (by simp (maxDischargeDepth := 40) only [ba, bs, bn, bd, HB.out, GE412.out, GE418.out, GE423.out, GE437.out, GE443.out, GE450.out]))) : w.heap.size ≤ gb456)); have GE456 := GW456; replace HB := am (below_step (bq HB.out (by simp (maxDischargeDepth := 40) only [ba, bs, bn, bd, HB.out, GE412.out, GE418.out, GE423.out, GE437.out, GE443.out, GE450.out])) hb); have NB412_456 := am (nb hg (pb BK412.out)); have NB456_412 := am (Ne.symm NB412_456.out); replace BK412 := am (blk_below (pb BK412.out) hb); have NB418_456 := am (nb hg (pb BK418.out)); have NB456_418 := am (Ne.symm NB418_456.out); replace BK418 := am (blk_below (pb BK418.out) hb); have NB423_456 := am (nb hg (pb BK423.out)); have NB456_423 := am (Ne.symm NB423_456.out); replace BK423 := am (blk_below (pb BK423.out) hb); have NB437_456 := am (nb hg (pb BK437.out)); have NB456_437 := am (Ne.symm NB437_456.out); replace BK437 := am (blk_below (pb BK437.out) hb); have NB443_456 := am (nb hg (pb BK443.out)); have NB456_443 := am (Ne.symm NB443_456.out); replace BK443 := am (blk_below (pb BK443.out) hb); have NB450_456 := am (nb hg (pb BK450.out)); have NB456_450 := am (Ne.symm NB450_456.out); replace BK450 := am (blk_below (pb BK450.out) hb); clear hb hbox hg; have hnb146 := NB456_412.out; have hnc146 := NB412_456.out; have hnb147 := NB456_418.out; have hnc147 := NB418_456.out; have hnb148 := NB456_423.out; have hnc148 := NB423_456.out; have hnb149 := NB456_437.out; have hnc149 := NB437_456.out; have hnb150 := NB456_443.out; have hnc150 := NB443_456.out; have hnb151 := NB456_450.out; have hnc151 := NB450_456.out; obtain ⟨hcz152_0, hcz152_1, hcz152_2, hcz152_3⟩ := b4 BK456.out; obtain ⟨hfz152_0, hfz152_1, hfz152_2, hfz152_3⟩ := f4 BK456.out; obtain ⟨hcz153_0, hcz153_1, hcz153_2, hcz153_3⟩ := b4 BK450.out; obtain ⟨hfz153_0, hfz153_1, hfz153_2, hfz153_3⟩ := f4 BK450.out))
         go_roundg k4
         case measure => have := HJ2.out; have := HJ8.out; have := HJ45.out; have := HK4.out; omega
         case rel => exact ⟨(wrap64 (x23_4 + 1)), rf, H', ⟨by have := HJ2.out; have := HJ8.out; have := HJ45.out; have := HK4.out; omega⟩, ⟨pv (Kd.V_mono (Kd.V_far (p := ⟨gb456, 3, none⟩) (Kd.V_far (p := ⟨gb456, 2, none⟩) (Kd.V_far (p := ⟨gb456, 1, none⟩) (Kd.V_far (p := ⟨gb456, 0, none⟩) (Kd.V_mono HO_5.out (fun k_ hk => (⟨hk, hk.2⟩ : _ ∧ k_ ≠ gb456))) (fun _ hk => hk.2) (.int .i64 t451)) (fun _ hk => hk.2) (.int .i64 t452)) (fun _ hk => hk.2) (.int .i64 t453)) (fun _ hk => hk.2) (.int .i64 t454)) (fun _ hk => ⟨hk.1.1.1.1, ⟨hk.1.1.1.2.1, ⟨hk.1.1.1.2.2.1, ⟨hk.1.1.1.2.2.2.1, hk.1.1.1.2.2.2.2⟩⟩⟩⟩))⟩, ⟨pv (Kd.V_mono (Kd.V_far (p := ⟨gb456, 3, none⟩) (Kd.V_far (p := ⟨gb456, 2, none⟩) (Kd.V_far (p := ⟨gb456, 1, none⟩) (Kd.V_far (p := ⟨gb456, 0, none⟩) (Kd.V_mono HO_15.out (fun k_ hk => (⟨hk, hk.2⟩ : _ ∧ k_ ≠ gb456))) (fun _ hk => hk.2) (.int .i64 t451)) (fun _ hk => hk.2) (.int .i64 t452)) (fun _ hk => hk.2) (.int .i64 t453)) (fun _ hk => hk.2) (.int .i64 t454)) (fun _ hk => ⟨hk.1.1.1.1, ⟨hk.1.1.1.2.1, ⟨hk.1.1.1.2.2.1, ⟨hk.1.1.1.2.2.2.1, hk.1.1.1.2.2.2.2⟩⟩⟩⟩))⟩, ⟨bf4 (pb BK412.out) NB412_456.out⟩, ⟨bf4 (pb BK418.out) NB418_456.out⟩, ⟨bf4 (pb BK423.out) NB423_456.out⟩, ⟨bf4 (pb BK437.out) NB437_456.out⟩, ⟨bf4 (pb BK443.out) NB443_456.out⟩, ⟨bq HB.out (by simp (maxDischargeDepth := 40) only [ba, bs, bn, bd, HB.out, GE412.out, GE418.out, GE423.out, GE437.out, GE443.out, GE450.out, GE456.out])⟩⟩
def laws_FnLastWrite.Pure : Prop := ∀ (l0 : List Int) (l1 : List Int), l0.length ≤ maxLen → l0.length * 1 ≤ 140737488351232 → (∀ x ∈ l0, (Lit.int .u8 x).wf = true) → l1.length ≤ maxLen → l1.length * 1 ≤ 140737488351232 → (∀ x ∈ l1, (Lit.int .u8 x).wf = true) → ∃ k, laws_FnLastWrite.f k l0 l1 = some true
theorem laws_FnLastWrite.walk (P : laws_FnLastWrite.Pure) (a0 : Option Addr) (len0 cap0 : Nat) (z0 : List Int) (a1 : Option Addr) (len1 cap1 : Nat) (z1 : List Int) (w : World) (w0 : (a0 = none ∧ len0 = 0 ∧ cap0 = 0 ∧ z0 = []) ∨ ∃ x, a0 = some x ∧ len0 ≤ cap0 ∧ cap0 ≤ maxLen ∧ z0.length = cap0 ∧ (∀ i, i < z0.length → w.cell? (x.add i) = some (.int .u8 (z0.getD i 0))) ∧ ∀ n ∈ z0, (Lit.int .u8 n).wf = true) (y0 : len0 * 1 ≤ 140737488351232) (w1 : (a1 = none ∧ len1 = 0 ∧ cap1 = 0 ∧ z1 = []) ∨ ∃ x, a1 = some x ∧ len1 ≤ cap1 ∧ cap1 ≤ maxLen ∧ z1.length = cap1 ∧ (∀ i, i < z1.length → w.cell? (x.add i) = some (.int .u8 (z1.getD i 0))) ∧ ∀ n ∈ z1, (Lit.int .u8 n).wf = true) (y1 : len1 * 1 ≤ 140737488351232) :
 Calls Try.prog 3 #[.slice a0 len0 cap0, .slice a1 len1 cap1] w fun e w' => e = .returned (.bool true) ∧ Below w.heap.size w w' := by
 obtain ⟨l0, rfl, hr0, hm0, hw0, hc0⟩ := ReadsInt.ofRowC w0
 obtain ⟨l1, rfl, hr1, hm1, hw1, hc1⟩ := ReadsInt.ofRowC w1
 obtain ⟨k, h⟩ := P l0 l1 hm0 y0 hw0 hm1 y1 hw1
 refine (laws_FnLastWrite.calls k _ _ l0 _ _ l1 true w (Kd.C_of_reads (d := (0 : Int)) (h1 := fun _ => rfl) hr0) hc0 (Kd.C_of_reads (d := (0 : Int)) (h1 := fun _ => rfl) hr1) hc1 h).mono ?_
 rintro e w' ⟨rfl, hd⟩
 exact ⟨rfl, hd⟩
end Go.Proofs.Ytplbiahehondaaa.Rx
