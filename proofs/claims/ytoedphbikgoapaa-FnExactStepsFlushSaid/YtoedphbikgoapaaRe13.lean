-- printed by wip/pp/pp.py
import Derived.Test.YtoedphbikgoapaaRe0
import Derived.Test.YtoedphbikgoapaaRe9
import Derived.Test.YtoedphbikgoapaaRe11
import Derived.Test.YtoedphbikgoapaaRe12
namespace Go.Proofs.Ytoedphbikgoapaa.Re
open Go.RowKit Go.Proofs.YtoedphbikgoapaaW.PrintWords Go.Proofs.YtoedphbikgoapaaW.PrintLast Go.Proofs.YtoedphbikgoapaaW.PrintMore
attribute [local go_sem] max2_int min2_int max_two min_two max_three min_three max_four min_four
set_option linter.unusedVariables false
set_option linter.unusedSimpArgs false
def impl_stepsWrite.l0 : Nat → List (S65) → Int → List (S85) → List (S71) → Int → Int → Int → Int → Int → Int → Option ((List (S85)))
 | 0, _, _, _, _, _, _, _, _, _, _ => none
 | k + 1, x0, x12, x13, x47, x48, x49, x355000, x355001, x355002, x355003 => if x49 < x48 then (if 0 ≤ x49 then (if x49 < (x47.length : Int) then ((impl_Rec_isDirty.f ((rd_T71 x47 x49).f1.f0) ((rd_T71 x47 x49).f1.f1) ((rd_T71 x47 x49).f1.f2) ((rd_T71 x47 x49).f1.f3)).bind fun t372 => (if t372 = true then ((impl_FindLive.f k x0 x12 x49).bind fun t373 => (if t373 = true then ((impl_diskStep.f ((rd_T71 x47 x49).f1.f0) ((rd_T71 x47 x49).f1.f1) ((rd_T71 x47 x49).f1.f2) ((rd_T71 x47 x49).f1.f3)).bind fun bt374 => (if x13.length < 2199023255552 then (impl_stepsWrite.l0 k x0 x12 (x13 ++ [(⟨bt374.1, bt374.2.1, bt374.2.2.1, bt374.2.2.2.1, (⟨bt374.2.2.2.2.1, bt374.2.2.2.2.2.1, bt374.2.2.2.2.2.2.1, bt374.2.2.2.2.2.2.2⟩ : S30)⟩ : S85)]) x47 x48 (wrap64 (x49 + 1)) x355000 x355001 x355002 x355003) else (none))) else (impl_stepsWrite.l0 k x0 x12 x13 x47 x48 (wrap64 (x49 + 1)) x355000 x355001 x355002 x355003))) else (impl_stepsWrite.l0 k x0 x12 x13 x47 x48 (wrap64 (x49 + 1)) x355000 x355001 x355002 x355003))) else (none)) else (none)) else (if x13.length < 2199023255552 then ((some (x13 ++ [(⟨2, 0, 0, x12, (⟨0, 0, 0, 0⟩ : S30)⟩ : S85)] : List (S85))).bind fun y364 => (if y364.length < 2199023255552 then (some (y364 ++ [(⟨3, 0, 0, x12, (⟨x355000, x355001, x355002, x355003⟩ : S30)⟩ : S85)])) else (none))) else (none))
def impl_stepsWrite.f (k : Nat) (l0 : List (S65)) (a1 : Int) (a2 : Int) (a3 : Int) : Option ((List (S85))) := (impl_FindNext.f l0).bind fun t353 => ((impl_RecOk.f a1 t353 a2 a3).bind fun t355 => (if t355 = true then ((impl_FindOpen.f k l0).bind fun bt356 => (if bt356.2 = true then (some (([(⟨3, 0, 0, bt356.1, (⟨a1, t353, a2, a3⟩ : S30)⟩ : S85)] : List (S85)))) else ((impl_FindOld.f l0).bind fun t361 => (if 0 ≤ t361 then (if t361 < (l0.length : Int) then (if ((rd_T65 l0 t361).f1) = 200 then (some ([] : List (S85))) else (impl_stepsWrite.l0 k l0 t361 ([] : List (S85)) ((rd_T65 l0 t361).f0) (((rd_T65 l0 t361).f0).length : Int) 0 a1 t353 a2 a3)) else (none)) else (none))))) else (some ([] : List (S85)))))
theorem impl_stepsWrite.mono_l : ∀ k, (∀ y0 y1 y2 y3 y4 y5 y6 y7 y8 y9, LeO (impl_stepsWrite.l0 k y0 y1 y2 y3 y4 y5 y6 y7 y8 y9) (impl_stepsWrite.l0 (k + 1) y0 y1 y2 y3 y4 y5 y6 y7 y8 y9))
 | 0 => fun _ _ _ _ _ _ _ _ _ _ r h => by simp [impl_stepsWrite.l0] at h
 | k + 1 => by
  have ih0 := impl_stepsWrite.mono_l k
  · intro y0 y1 y2 y3 y4 y5 y6 y7 y8 y9
    unfold impl_stepsWrite.l0
    repeat' first
    | (with_reducible exact ih0 _ _ _ _ _ _ _ _ _ _)
    | (with_reducible exact impl_FindLive.mono _ _ _ _)
    | (with_reducible exact impl_FindOpen.mono _ _)
    | (with_reducible exact LeO.refl _)
    | (with_reducible exact LeO.none _)
    | (with_reducible refine LeO.ite ?_ ?_)
    | (with_reducible refine LeO.bind ?_ (fun _ => ?_))
    | exact ih0 _ _ _ _ _ _ _ _ _ _
    | exact impl_FindLive.mono _ _ _ _
    | exact impl_FindOpen.mono _ _
    | exact LeO.none _
    | refine LeO.ite ?_ ?_
    | refine LeO.bind ?_ (fun _ => ?_)
theorem impl_stepsWrite.mono : ∀ a0 a1 a2 a3 k, LeO (impl_stepsWrite.f k a0 a1 a2 a3) (impl_stepsWrite.f (k + 1) a0 a1 a2 a3) := by
 intro a0 a1 a2 a3 k
 have ih0 := impl_stepsWrite.mono_l k
 unfold impl_stepsWrite.f
 repeat' first
  | (with_reducible exact ih0 _ _ _ _ _ _ _ _ _ _)
  | (with_reducible exact impl_FindLive.mono _ _ _ _)
  | (with_reducible exact impl_FindOpen.mono _ _)
  | (with_reducible exact LeO.refl _)
  | (with_reducible exact LeO.none _)
  | (with_reducible refine LeO.ite ?_ ?_)
  | (with_reducible refine LeO.bind ?_ (fun _ => ?_))
  | exact ih0 _ _ _ _ _ _ _ _ _ _
  | exact impl_FindLive.mono _ _ _ _
  | exact impl_FindOpen.mono _ _
  | exact LeO.none _
  | refine LeO.ite ?_ ?_
  | refine LeO.bind ?_ (fun _ => ?_)
set_option maxHeartbeats 8000000 in
set_option maxRecDepth 100000 in
theorem impl_stepsWrite.calls (k : Nat) (A0 : Option Addr) (c0 : Nat) (l0 : List (S65)) (a1 : Int) (a2 : Int) (a3 : Int) (r : List (S85)) (w : World) (hr0 : Kd.C k65 w A0 l0.length l0) (hc0 : l0.length ≤ c0) (h : impl_stepsWrite.f k l0 a1 a2 a3 = some r) :
 Calls Try.prog 62 #[.slice A0 l0.length c0, .int .i64 a1, .int .i64 a2, .int .i64 a3] w fun e w' => ∃ v0_ : Value, e = .returned (v0_) ∧ Kd.R k85 85 w' w.heap.size (fun _ => True) v0_ r ∧ Below w.heap.size w w' := by
 have hu30 := Try.underlying30
 have hu85 := Try.underlying85
 have hu71 := Try.underlying71
 have HR0 := am hr0
 have HC0 := am hc0
 clear hr0 hc0
 have HB := am (Below.refl w.heap.size w)
 have H : ((impl_FindNext.f l0).bind fun t353 => ((impl_RecOk.f a1 t353 a2 a3).bind fun t355 => (if t355 = true then ((impl_FindOpen.f k l0).bind fun bt356 => (if bt356.2 = true then (some (([(⟨3, 0, 0, bt356.1, (⟨a1, t353, a2, a3⟩ : S30)⟩ : S85)] : List (S85)))) else ((impl_FindOld.f l0).bind fun t361 => (if 0 ≤ t361 then (if t361 < (l0.length : Int) then (if ((rd_T65 l0 t361).f1) = 200 then (some ([] : List (S85))) else (impl_stepsWrite.l0 k l0 t361 ([] : List (S85)) ((rd_T65 l0 t361).f0) (((rd_T65 l0 t361).f0).length : Int) 0 a1 t353 a2 a3)) else (none)) else (none))))) else (some ([] : List (S85)))))) = some r := h
 clear h
 replace H := Option.bind_eq_some_iff.mp H
 obtain ⟨t353, A50, H⟩ := H
 replace H : ((impl_RecOk.f a1 t353 a2 a3).bind fun t355 => (if t355 = true then ((impl_FindOpen.f k l0).bind fun bt356 => (if bt356.2 = true then (some (([(⟨3, 0, 0, bt356.1, (⟨a1, t353, a2, a3⟩ : S30)⟩ : S85)] : List (S85)))) else ((impl_FindOld.f l0).bind fun t361 => (if 0 ≤ t361 then (if t361 < (l0.length : Int) then (if ((rd_T65 l0 t361).f1) = 200 then (some ([] : List (S85))) else (impl_stepsWrite.l0 k l0 t361 ([] : List (S85)) ((rd_T65 l0 t361).f0) (((rd_T65 l0 t361).f0).length : Int) 0 a1 t353 a2 a3)) else (none)) else (none))))) else (some ([] : List (S85))))) = some r := H
 have A5 := am A50
 clear A50
 replace H := Option.bind_eq_some_iff.mp H
 obtain ⟨t355, A60, H⟩ := H
 replace H : (if t355 = true then ((impl_FindOpen.f k l0).bind fun bt356 => (if bt356.2 = true then (some (([(⟨3, 0, 0, bt356.1, (⟨a1, t353, a2, a3⟩ : S30)⟩ : S85)] : List (S85)))) else ((impl_FindOld.f l0).bind fun t361 => (if 0 ≤ t361 then (if t361 < (l0.length : Int) then (if ((rd_T65 l0 t361).f1) = 200 then (some ([] : List (S85))) else (impl_stepsWrite.l0 k l0 t361 ([] : List (S85)) ((rd_T65 l0 t361).f0) (((rd_T65 l0 t361).f0).length : Int) 0 a1 t353 a2 a3)) else (none)) else (none))))) else (some ([] : List (S85)))) = some r := H
 have A6 := am A60
 clear A60
 by_cases c7 : t355 = true
 rotate_left
 · replace c7 := Bool.eq_false_iff.mpr c7
   subst c7
   have H1 : (some ([] : List (S85))) = some r := by rw [if_neg (show ¬ (false = true) by decide)] at H; exact H
   clear H
   have H := H1
   clear H1
   obtain rfl := Option.some.inj H
   go_enter Try.func62, Try.ntmps62
   go_wp2_with (first | (refine gl 18 Try.func86 #[.slice A0 l0.length c0] rfl ?_; (with_reducible refine (impl_FindNext.calls _ _ l0 t353 _ ?side1 ?side2 A5.out).mono ?_); (case side1 => repeat (first | exact HR0.out | (with_reducible refine Kd.C_alloc ?_ _) | (with_reducible refine Kd.C_drewN ?_ _) | (with_reducible refine Kd.C_drew ?_))); (case side2 => exact HC0.out); rintro e w65 ⟨rfl, hb⟩; refine ⟨_, rfl, ?_⟩; replace HB := am (below_step (ph HB.out) hb); (try clear hb); (try clear hb2); (try clear hk); (try clear hi)) | (refine bx 9 #[.int .i64 0, .int .i64 0, .int .i64 0, .int .i64 0] 30 rfl ?_; intro gb354 hg w66 hbox hb; have BK354 := am (hbox); have GW354 := am ((by rw [hg]; exact (below_size (ph HB.out)) : w.heap.size ≤ gb354)); have GE354 := GW354; replace HB := am (below_step (ph HB.out) hb); clear hb hbox hg; obtain ⟨hcz67_0, hcz67_1, hcz67_2, hcz67_3⟩ := b4 BK354.out; obtain ⟨hfz67_0, hfz67_1, hfz67_2, hfz67_3⟩ := f4 BK354.out) | (refine gl 23 Try.func46 #[.agg #[.int .i64 a1, .int .i64 t353, .int .i64 a2, .int .i64 a3]] rfl ?_; (with_reducible refine (impl_RecOk.calls a1 t353 a2 a3 false _ A6.out).mono ?_); rintro e w68 ⟨rfl, hb⟩; refine ⟨_, rfl, ?_⟩; replace BK354 := am (blk_below (g := gb354) (o := .cells #[.int .i64 a1, .int .i64 t353, .int .i64 a2, .int .i64 a3] 30 (0, 0)) (by (with_reducible repeat (first | refine blk_drewN ?_ _ | refine blk_drew ?_ | refine blk_alloc ?_ _)); refine blk_put (cs := #[.int .i64 a1, .int .i64 t353, .int .i64 a2, .int .i64 0]) ?_ 3 _ rfl; (with_reducible repeat (first | refine blk_drewN ?_ _ | refine blk_drew ?_ | refine blk_alloc ?_ _)); refine blk_put (cs := #[.int .i64 a1, .int .i64 t353, .int .i64 0, .int .i64 0]) ?_ 2 _ rfl; (with_reducible repeat (first | refine blk_drewN ?_ _ | refine blk_drew ?_ | refine blk_alloc ?_ _)); refine blk_put (cs := #[.int .i64 a1, .int .i64 0, .int .i64 0, .int .i64 0]) ?_ 1 _ rfl; (with_reducible repeat (first | refine blk_drewN ?_ _ | refine blk_drew ?_ | refine blk_alloc ?_ _)); refine blk_put (cs := #[.int .i64 0, .int .i64 0, .int .i64 0, .int .i64 0]) ?_ 0 _ rfl; (with_reducible repeat (first | refine blk_drewN ?_ _ | refine blk_drew ?_ | refine blk_alloc ?_ _)); exact BK354.out) hb); replace HB := am (below_step (bg1 HB.out GE354.out) hb); (try clear hb); (try clear hb2); (try clear hk); (try clear hi)))
   go_ret
   exact ⟨_, rq ⟨by first | exact Kd.R_nil _ _ _ _ _ | exact Kd.N_nil _ _ _ _ _ | exact Kd.V_nil _ _ _ _ _ | exact Kd.Q_nil _ _ _ _ _ | exact Kd.S_nil _ _ _ _ _, bg1 HB.out GE354.out⟩⟩
 subst c7
 have H1 : ((impl_FindOpen.f k l0).bind fun bt356 => (if bt356.2 = true then (some (([(⟨3, 0, 0, bt356.1, (⟨a1, t353, a2, a3⟩ : S30)⟩ : S85)] : List (S85)))) else ((impl_FindOld.f l0).bind fun t361 => (if 0 ≤ t361 then (if t361 < (l0.length : Int) then (if ((rd_T65 l0 t361).f1) = 200 then (some ([] : List (S85))) else (impl_stepsWrite.l0 k l0 t361 ([] : List (S85)) ((rd_T65 l0 t361).f0) (((rd_T65 l0 t361).f0).length : Int) 0 a1 t353 a2 a3)) else (none)) else (none))))) = some r := by rw [if_pos rfl] at H; exact H
 clear H
 have H := H1
 clear H1
 replace H := Option.bind_eq_some_iff.mp H
 obtain ⟨⟨t356, t357⟩, A80, H⟩ := H
 replace H : (if t357 = true then (some (([(⟨3, 0, 0, t356, (⟨a1, t353, a2, a3⟩ : S30)⟩ : S85)] : List (S85)))) else ((impl_FindOld.f l0).bind fun t361 => (if 0 ≤ t361 then (if t361 < (l0.length : Int) then (if ((rd_T65 l0 t361).f1) = 200 then (some ([] : List (S85))) else (impl_stepsWrite.l0 k l0 t361 ([] : List (S85)) ((rd_T65 l0 t361).f0) (((rd_T65 l0 t361).f0).length : Int) 0 a1 t353 a2 a3)) else (none)) else (none)))) = some r := H
 have A8 := am A80
 clear A80
 by_cases c9 : t357 = true
 · subst c9
   have H1 : (some (([(⟨3, 0, 0, t356, (⟨a1, t353, a2, a3⟩ : S30)⟩ : S85)] : List (S85)))) = some r := by rw [if_pos rfl] at H; exact H
   clear H
   have H := H1
   clear H1
   obtain ⟨y358, hy358⟩ : ∃ y_ : List (S85), y_ = (([(⟨3, 0, 0, t356, (⟨a1, t353, a2, a3⟩ : S30)⟩ : S85)] : List (S85))) := ⟨_, rfl⟩
   replace H : (some y358) = some r := by first | (rw [hy358]; with_reducible exact H) | (have H2_ := (Option.bind_some _ _).symm.trans H; rw [hy358]; with_reducible exact H2_) | (have H2_ := (Option.bind_some _ _).symm.trans H; with_reducible exact H2_) | with_reducible exact H | (rw [hy358]; exact H) | exact H
   have Ny358 := am hy358
   clear hy358
   obtain rfl := Option.some.inj H
   go_enter Try.func62, Try.ntmps62
   go_wp2_with (first | (refine gl 18 Try.func86 #[.slice A0 l0.length c0] rfl ?_; (with_reducible refine (impl_FindNext.calls _ _ l0 t353 _ ?side1 ?side2 A5.out).mono ?_); (case side1 => repeat (first | exact HR0.out | (with_reducible refine Kd.C_alloc ?_ _) | (with_reducible refine Kd.C_drewN ?_ _) | (with_reducible refine Kd.C_drew ?_))); (case side2 => exact HC0.out); rintro e w10 ⟨rfl, hb⟩; refine ⟨_, rfl, ?_⟩; replace HB := am (below_step (ph HB.out) hb); (try clear hb); (try clear hb2); (try clear hk); (try clear hi)) | (refine bx 9 #[.int .i64 0, .int .i64 0, .int .i64 0, .int .i64 0] 30 rfl ?_; intro gb354 hg w11 hbox hb; have BK354 := am (hbox); have GW354 := am ((by rw [hg]; exact (below_size (ph HB.out)) : w.heap.size ≤ gb354)); have GE354 := GW354; replace HB := am (below_step (ph HB.out) hb); clear hb hbox hg; obtain ⟨hcz12_0, hcz12_1, hcz12_2, hcz12_3⟩ := b4 BK354.out; obtain ⟨hfz12_0, hfz12_1, hfz12_2, hfz12_3⟩ := f4 BK354.out) | (refine gl 23 Try.func46 #[.agg #[.int .i64 a1, .int .i64 t353, .int .i64 a2, .int .i64 a3]] rfl ?_; (with_reducible refine (impl_RecOk.calls a1 t353 a2 a3 true _ A6.out).mono ?_); rintro e w13 ⟨rfl, hb⟩; refine ⟨_, rfl, ?_⟩; replace BK354 := am (blk_below (g := gb354) (o := .cells #[.int .i64 a1, .int .i64 t353, .int .i64 a2, .int .i64 a3] 30 (0, 0)) (by (with_reducible repeat (first | refine blk_drewN ?_ _ | refine blk_drew ?_ | refine blk_alloc ?_ _)); refine blk_put (cs := #[.int .i64 a1, .int .i64 t353, .int .i64 a2, .int .i64 0]) ?_ 3 _ rfl; (with_reducible repeat (first | refine blk_drewN ?_ _ | refine blk_drew ?_ | refine blk_alloc ?_ _)); refine blk_put (cs := #[.int .i64 a1, .int .i64 t353, .int .i64 0, .int .i64 0]) ?_ 2 _ rfl; (with_reducible repeat (first | refine blk_drewN ?_ _ | refine blk_drew ?_ | refine blk_alloc ?_ _)); refine blk_put (cs := #[.int .i64 a1, .int .i64 0, .int .i64 0, .int .i64 0]) ?_ 1 _ rfl; (with_reducible repeat (first | refine blk_drewN ?_ _ | refine blk_drew ?_ | refine blk_alloc ?_ _)); refine blk_put (cs := #[.int .i64 0, .int .i64 0, .int .i64 0, .int .i64 0]) ?_ 0 _ rfl; (with_reducible repeat (first | refine blk_drewN ?_ _ | refine blk_drew ?_ | refine blk_alloc ?_ _)); exact BK354.out) hb); replace HB := am (below_step (bg1 HB.out GE354.out) hb); (try clear hb); (try clear hb2); (try clear hk); (try clear hi)) | (refine gl 27 Try.func87 #[.slice A0 l0.length c0] rfl ?_; (with_reducible refine (impl_FindOpen.calls k _ _ l0 t356 true _ ?side1 ?side2 A8.out).mono ?_); (case side1 => exact pc (Kd.C_below HR0.out HB.out)); (case side2 => exact HC0.out); rintro e w14 ⟨rfl, hb⟩; refine ⟨_, rfl, ?_⟩; replace BK354 := am (blk_below (pb BK354.out) hb); replace HB := am (below_step (bg1 HB.out GE354.out) hb); (try clear hb); (try clear hb2); (try clear hk); (try clear hi); obtain ⟨hcz15_0, hcz15_1, hcz15_2, hcz15_3⟩ := b4 BK354.out; obtain ⟨hfz15_0, hfz15_1, hfz15_2, hfz15_3⟩ := f4 BK354.out) | ((with_reducible refine gate_dst (N := 34) rfl ?_); refine Kd.R_lit k85 _ 85 ?hg (N := 34) ?hd (xs := ([(⟨3, 0, 0, t356, (⟨a1, t353, a2, a3⟩ : S30)⟩ : S85)] : List (S85))) (inner := [.int .i64 3, .int .i64 0, .int .i64 0, .int .i64 t356, .int .i64 a1, .int .i64 t353, .int .i64 a2, .int .i64 a3]) (ok := fun _ => True) (okp := fun _ => True) ?hr ?hp (fun _ hk => hk) trivial (Below.refl _ _) (Nat.le_refl _) (by simp) ?_; (case hd => rfl); (case hg => rfl); (case hr => first | (go_simp; done) | (go_simp; rfl)); (case hp => exact (Reps.c8 (show Kd.M k85 _ _ _ (⟨3, 0, 0, t356, (⟨a1, t353, a2, a3⟩ : S30)⟩ : S85) [.int .i64 3, .int .i64 0, .int .i64 0, .int .i64 t356, .int .i64 a1, .int .i64 t353, .int .i64 a2, .int .i64 a3] from (k85_mkM _ _ _ (⟨3, 0, 0, t356, (⟨a1, t353, a2, a3⟩ : S30)⟩ : S85) )) (Reps.none _ _))); intro v359 w16 ho17 hb hg_ hnew_; clear hg_ hnew_; (first | rw [← Ny358.out] at ho17 | (simp only [Int.reduceToNat] at ho17; rw [← Ny358.out] at ho17)); have HO360 := am (Kd.R_lower ho17 (below_size (bg1 HB.out GE354.out))); replace BK354 := am (blk_below (pb BK354.out) hb); replace HB := am (below_step (bg1 HB.out GE354.out) hb); clear hb ho17))
   go_ret
   exact ⟨_, rq ⟨pr HO360.out, bg1 HB.out GE354.out⟩⟩
 replace c9 := Bool.eq_false_iff.mpr c9
 subst c9
 have H1 : ((impl_FindOld.f l0).bind fun t361 => (if 0 ≤ t361 then (if t361 < (l0.length : Int) then (if ((rd_T65 l0 t361).f1) = 200 then (some ([] : List (S85))) else (impl_stepsWrite.l0 k l0 t361 ([] : List (S85)) ((rd_T65 l0 t361).f0) (((rd_T65 l0 t361).f0).length : Int) 0 a1 t353 a2 a3)) else (none)) else (none))) = some r := by rw [if_neg (show ¬ (false = true) by decide)] at H; exact H
 clear H
 have H := H1
 clear H1
 replace H := Option.bind_eq_some_iff.mp H
 obtain ⟨t361, A180, H⟩ := H
 replace H : (if 0 ≤ t361 then (if t361 < (l0.length : Int) then (if ((rd_T65 l0 t361).f1) = 200 then (some ([] : List (S85))) else (impl_stepsWrite.l0 k l0 t361 ([] : List (S85)) ((rd_T65 l0 t361).f0) (((rd_T65 l0 t361).f0).length : Int) 0 a1 t353 a2 a3)) else (none)) else (none)) = some r := H
 have A18 := am A180
 clear A180
 by_cases c19 : 0 ≤ t361
 rotate_left
 · rw [if_neg c19] at H
   exact absurd H (by simp)
 rw [if_pos c19] at H
 have c19b0 := decide_eq_true c19
 clear c19
 by_cases c20 : t361 < (l0.length : Int)
 rotate_left
 · rw [if_neg c20] at H
   exact absurd H (by simp)
 rw [if_pos c20] at H
 have c20b0 := decide_eq_true c20
 clear c20
 by_cases c21 : ((rd_T65 l0 t361).f1) = 200
 · rw [if_pos c21] at H
   have c21b0 : (((rd_T65 l0 t361).f1) == 200) = true := beq_iff_eq.mpr c21
   have c21b1 : (((rd_T65 l0 t361).f1) != 200) = false := bne_eq_false_iff_eq.mpr c21
   clear c21
   obtain rfl := Option.some.inj H
   go_enter Try.func62, Try.ntmps62
   go_wp2_with (first | (refine gl 18 Try.func86 #[.slice A0 l0.length c0] rfl ?_; (with_reducible refine (impl_FindNext.calls _ _ l0 t353 _ ?side1 ?side2 A5.out).mono ?_); (case side1 => repeat (first | exact HR0.out | (with_reducible refine Kd.C_alloc ?_ _) | (with_reducible refine Kd.C_drewN ?_ _) | (with_reducible refine Kd.C_drew ?_))); (case side2 => exact HC0.out); rintro e w22 ⟨rfl, hb⟩; refine ⟨_, rfl, ?_⟩; replace HB := am (below_step (ph HB.out) hb); (try clear hb); (try clear hb2); (try clear hk); (try clear hi)) | (refine bx 9 #[.int .i64 0, .int .i64 0, .int .i64 0, .int .i64 0] 30 rfl ?_; intro gb354 hg w23 hbox hb; have BK354 := am (hbox); have GW354 := am ((by rw [hg]; exact (below_size (ph HB.out)) : w.heap.size ≤ gb354)); have GE354 := GW354; replace HB := am (below_step (ph HB.out) hb); clear hb hbox hg; obtain ⟨hcz24_0, hcz24_1, hcz24_2, hcz24_3⟩ := b4 BK354.out; obtain ⟨hfz24_0, hfz24_1, hfz24_2, hfz24_3⟩ := f4 BK354.out) | (refine gl 23 Try.func46 #[.agg #[.int .i64 a1, .int .i64 t353, .int .i64 a2, .int .i64 a3]] rfl ?_; (with_reducible refine (impl_RecOk.calls a1 t353 a2 a3 true _ A6.out).mono ?_); rintro e w25 ⟨rfl, hb⟩; refine ⟨_, rfl, ?_⟩; replace BK354 := am (blk_below (g := gb354) (o := .cells #[.int .i64 a1, .int .i64 t353, .int .i64 a2, .int .i64 a3] 30 (0, 0)) (by (with_reducible repeat (first | refine blk_drewN ?_ _ | refine blk_drew ?_ | refine blk_alloc ?_ _)); refine blk_put (cs := #[.int .i64 a1, .int .i64 t353, .int .i64 a2, .int .i64 0]) ?_ 3 _ rfl; (with_reducible repeat (first | refine blk_drewN ?_ _ | refine blk_drew ?_ | refine blk_alloc ?_ _)); refine blk_put (cs := #[.int .i64 a1, .int .i64 t353, .int .i64 0, .int .i64 0]) ?_ 2 _ rfl; (with_reducible repeat (first | refine blk_drewN ?_ _ | refine blk_drew ?_ | refine blk_alloc ?_ _)); refine blk_put (cs := #[.int .i64 a1, .int .i64 0, .int .i64 0, .int .i64 0]) ?_ 1 _ rfl; (with_reducible repeat (first | refine blk_drewN ?_ _ | refine blk_drew ?_ | refine blk_alloc ?_ _)); refine blk_put (cs := #[.int .i64 0, .int .i64 0, .int .i64 0, .int .i64 0]) ?_ 0 _ rfl; (with_reducible repeat (first | refine blk_drewN ?_ _ | refine blk_drew ?_ | refine blk_alloc ?_ _)); exact BK354.out) hb); replace HB := am (below_step (bg1 HB.out GE354.out) hb); (try clear hb); (try clear hb2); (try clear hk); (try clear hi)) | (refine gl 27 Try.func87 #[.slice A0 l0.length c0] rfl ?_; (with_reducible refine (impl_FindOpen.calls k _ _ l0 t356 false _ ?side1 ?side2 A8.out).mono ?_); (case side1 => exact pc (Kd.C_below HR0.out HB.out)); (case side2 => exact HC0.out); rintro e w26 ⟨rfl, hb⟩; refine ⟨_, rfl, ?_⟩; replace BK354 := am (blk_below (pb BK354.out) hb); replace HB := am (below_step (bg1 HB.out GE354.out) hb); (try clear hb); (try clear hb2); (try clear hk); (try clear hi)) | (refine gl 36 Try.func88 #[.slice A0 l0.length c0] rfl ?_; (with_reducible refine (impl_FindOld.calls _ _ l0 t361 _ ?side1 ?side2 A18.out).mono ?_); (case side1 => exact pc (Kd.C_below HR0.out HB.out)); (case side2 => exact HC0.out); rintro e w27 ⟨rfl, hb⟩; refine ⟨_, rfl, ?_⟩; replace BK354 := am (blk_below (pb BK354.out) hb); replace HB := am (below_step (bg1 HB.out GE354.out) hb); (try clear hb); (try clear hb2); (try clear hk); (try clear hi); have p362 : 0 ≤ (t361 : Int) := ofb; have q362 : t361 < (l0.length : Int) := ofb; obtain ⟨ad362, A362_0, c362_0, e362, hx362_0, hx362_1, hl362_0, hi362_0⟩ := at_T65 HR0.out t361 p362 q362; cases e362; replace hx362_0 := up HB.out hx362_0; replace hx362_1 := up HB.out hx362_1; have HR362_0 := am hi362_0; have HC362_0 := am hl362_0; clear hi362_0 hl362_0; replace p362 := eq_true p362; replace q362 := eq_true q362))
   go_ret
   exact ⟨_, rq ⟨by first | exact Kd.R_nil _ _ _ _ _ | exact Kd.N_nil _ _ _ _ _ | exact Kd.V_nil _ _ _ _ _ | exact Kd.Q_nil _ _ _ _ _ | exact Kd.S_nil _ _ _ _ _, bg1 HB.out GE354.out⟩⟩
 rw [if_neg c21] at H
 have c21b0 : (((rd_T65 l0 t361).f1) == 200) = false := beq_eq_false_iff_ne.mpr c21
 have c21b1 : (((rd_T65 l0 t361).f1) != 200) = true := bne_iff_ne.mpr c21
 have H' := am H
 clear H
 go_enter Try.func62, Try.ntmps62
 go_wp2_with (first | (refine gl 18 Try.func86 #[.slice A0 l0.length c0] rfl ?_; (with_reducible refine (impl_FindNext.calls _ _ l0 t353 _ ?side1 ?side2 A5.out).mono ?_); (case side1 => repeat (first | exact HR0.out | (with_reducible refine Kd.C_alloc ?_ _) | (with_reducible refine Kd.C_drewN ?_ _) | (with_reducible refine Kd.C_drew ?_))); (case side2 => exact HC0.out); rintro e w28 ⟨rfl, hb⟩; refine ⟨_, rfl, ?_⟩; replace HB := am (below_step (ph HB.out) hb); (try clear hb); (try clear hb2); (try clear hk); (try clear hi)) | (refine bx 9 #[.int .i64 0, .int .i64 0, .int .i64 0, .int .i64 0] 30 rfl ?_; intro gb354 hg w29 hbox hb; have BK354 := am (hbox); have GW354 := am ((by rw [hg]; exact (below_size (ph HB.out)) : w.heap.size ≤ gb354)); have GE354 := GW354; replace HB := am (below_step (ph HB.out) hb); clear hb hbox hg; obtain ⟨hcz30_0, hcz30_1, hcz30_2, hcz30_3⟩ := b4 BK354.out; obtain ⟨hfz30_0, hfz30_1, hfz30_2, hfz30_3⟩ := f4 BK354.out) | (refine gl 23 Try.func46 #[.agg #[.int .i64 a1, .int .i64 t353, .int .i64 a2, .int .i64 a3]] rfl ?_; (with_reducible refine (impl_RecOk.calls a1 t353 a2 a3 true _ A6.out).mono ?_); rintro e w31 ⟨rfl, hb⟩; refine ⟨_, rfl, ?_⟩; replace BK354 := am (blk_below (g := gb354) (o := .cells #[.int .i64 a1, .int .i64 t353, .int .i64 a2, .int .i64 a3] 30 (0, 0)) (by (with_reducible repeat (first | refine blk_drewN ?_ _ | refine blk_drew ?_ | refine blk_alloc ?_ _)); refine blk_put (cs := #[.int .i64 a1, .int .i64 t353, .int .i64 a2, .int .i64 0]) ?_ 3 _ rfl; (with_reducible repeat (first | refine blk_drewN ?_ _ | refine blk_drew ?_ | refine blk_alloc ?_ _)); refine blk_put (cs := #[.int .i64 a1, .int .i64 t353, .int .i64 0, .int .i64 0]) ?_ 2 _ rfl; (with_reducible repeat (first | refine blk_drewN ?_ _ | refine blk_drew ?_ | refine blk_alloc ?_ _)); refine blk_put (cs := #[.int .i64 a1, .int .i64 0, .int .i64 0, .int .i64 0]) ?_ 1 _ rfl; (with_reducible repeat (first | refine blk_drewN ?_ _ | refine blk_drew ?_ | refine blk_alloc ?_ _)); refine blk_put (cs := #[.int .i64 0, .int .i64 0, .int .i64 0, .int .i64 0]) ?_ 0 _ rfl; (with_reducible repeat (first | refine blk_drewN ?_ _ | refine blk_drew ?_ | refine blk_alloc ?_ _)); exact BK354.out) hb); replace HB := am (below_step (bg1 HB.out GE354.out) hb); (try clear hb); (try clear hb2); (try clear hk); (try clear hi)) | (refine gl 27 Try.func87 #[.slice A0 l0.length c0] rfl ?_; (with_reducible refine (impl_FindOpen.calls k _ _ l0 t356 false _ ?side1 ?side2 A8.out).mono ?_); (case side1 => exact pc (Kd.C_below HR0.out HB.out)); (case side2 => exact HC0.out); rintro e w32 ⟨rfl, hb⟩; refine ⟨_, rfl, ?_⟩; replace BK354 := am (blk_below (pb BK354.out) hb); replace HB := am (below_step (bg1 HB.out GE354.out) hb); (try clear hb); (try clear hb2); (try clear hk); (try clear hi)) | (refine gl 36 Try.func88 #[.slice A0 l0.length c0] rfl ?_; (with_reducible refine (impl_FindOld.calls _ _ l0 t361 _ ?side1 ?side2 A18.out).mono ?_); (case side1 => exact pc (Kd.C_below HR0.out HB.out)); (case side2 => exact HC0.out); rintro e w33 ⟨rfl, hb⟩; refine ⟨_, rfl, ?_⟩; replace BK354 := am (blk_below (pb BK354.out) hb); replace HB := am (below_step (bg1 HB.out GE354.out) hb); (try clear hb); (try clear hb2); (try clear hk); (try clear hi); have p362 : 0 ≤ (t361 : Int) := ofb; have q362 : t361 < (l0.length : Int) := ofb; obtain ⟨ad362, A362_0, c362_0, e362, hx362_0, hx362_1, hl362_0, hi362_0⟩ := at_T65 HR0.out t361 p362 q362; cases e362; replace hx362_0 := up HB.out hx362_0; replace hx362_1 := up HB.out hx362_1; have HR362_0 := am hi362_0; have HC362_0 := am hl362_0; clear hi362_0 hl362_0; replace p362 := eq_true p362; replace q362 := eq_true q362; have p363 : 0 ≤ (t361 : Int) := ofb; have q363 : t361 < (l0.length : Int) := ofb; obtain ⟨ad363, A363_0, c363_0, e363, hx363_0, hx363_1, hl363_0, hi363_0⟩ := at_T65 HR0.out t361 p363 q363; obtain rfl : ad362 = ad363 := (by injection e363); replace hx363_0 := up HB.out hx363_0; replace hx363_1 := up HB.out hx363_1; have HR363_0 := am hi363_0; have HC363_0 := am hl363_0; clear hi363_0 hl363_0; replace p363 := eq_true p363; replace q363 := eq_true q363; have ea_ := Option.some.inj (hx362_0.symm.trans hx363_0); injection ea_ with ea_ en_ ec_; subst ea_; subst ec_; clear en_))
 go_loopg [13, 49] k (fun kq v13 v49 w' => ∃ (x13_1 : List (S85)) (x49_1 : Int), v49 = .int .i64 x49_1 ∧ Aside0 (impl_stepsWrite.l0 kq l0 t361 x13_1 ((rd_T65 l0 t361).f0) (((rd_T65 l0 t361).f0).length : Int) x49_1 a1 t353 a2 a3 = some r) ∧ Aside0 (kq ≤ k) ∧ Aside0 (Kd.R k85 85 w' w.heap.size (fun _ => True) v13 x13_1) ∧ Aside0 (w'.heap[gb354]? = some (.cells #[.int .i64 a1, .int .i64 t353, .int .i64 a2, .int .i64 a3] 30 (0, 0))) ∧ Aside0 (Below w.heap.size w w'))
 case atStart => exact ⟨(([] : List (S85))), (0), rf, H', ⟨Nat.le_refl _⟩, ⟨by first | exact Kd.R_nil _ _ _ _ _ | exact Kd.N_nil _ _ _ _ _ | exact Kd.V_nil _ _ _ _ _ | exact Kd.Q_nil _ _ _ _ _ | exact Kd.S_nil _ _ _ _ _⟩, ⟨pb BK354.out⟩, ⟨bg1 HB.out GE354.out⟩⟩
 case round =>
  clear H'
  obtain ⟨x13_1, x49_1, rfl, HA, HK1, HO_13, BK354, HB⟩ := hrel
  cases gk with
  | zero => exact absurd HA.out (by simp [impl_stepsWrite.l0])
  | succ k1 =>
   have H := HA.out
   clear HA
   simp only [impl_stepsWrite.l0] at H
   by_cases c34 : x49_1 < (((rd_T65 l0 t361).f0).length : Int)
   rotate_left
   · rw [if_neg c34] at H
     have c34b0 := decide_eq_false c34
     clear c34
     by_cases c60 : x13_1.length < 2199023255552
     rotate_left
     · rw [if_neg c60] at H
       exact absurd H (by simp)
     rw [if_pos c60] at H
     have LMc60 := am c60
     clear c60
     obtain ⟨y364, hy364⟩ : ∃ y_ : List (S85), y_ = (x13_1 ++ [(⟨2, 0, 0, t361, (⟨0, 0, 0, 0⟩ : S30)⟩ : S85)]) := ⟨_, rfl⟩
     replace H : (if y364.length < 2199023255552 then (some (y364 ++ [(⟨3, 0, 0, t361, (⟨a1, t353, a2, a3⟩ : S30)⟩ : S85)])) else (none)) = some r := by first | (rw [hy364]; with_reducible exact H) | (have H2_ := (Option.bind_some _ _).symm.trans H; rw [hy364]; with_reducible exact H2_) | (have H2_ := (Option.bind_some _ _).symm.trans H; with_reducible exact H2_) | with_reducible exact H | (rw [hy364]; exact H) | exact H
     have Ny364 := am hy364
     clear hy364
     by_cases c61 : y364.length < 2199023255552
     rotate_left
     · rw [if_neg c61] at H
       exact absurd H (by simp)
     rw [if_pos c61] at H
     have LMc61 := am c61
     clear c61
     obtain ⟨y367, hy367⟩ : ∃ y_ : List (S85), y_ = (y364 ++ [(⟨3, 0, 0, t361, (⟨a1, t353, a2, a3⟩ : S30)⟩ : S85)]) := ⟨_, rfl⟩
     replace H : (some y367) = some r := by first | (rw [hy367]; with_reducible exact H) | (have H2_ := (Option.bind_some _ _).symm.trans H; rw [hy367]; with_reducible exact H2_) | (have H2_ := (Option.bind_some _ _).symm.trans H; with_reducible exact H2_) | with_reducible exact H | (rw [hy367]; exact H) | exact H
     have Ny367 := am hy367
     clear hy367
     obtain rfl := Option.some.inj H
     go_wp2_with (first | ((with_reducible refine gate_builtin (b := .append) (xs := #[.tmp 70, .tmp 73]) rfl ?_); at_builtin; refine Kd.R_append k85 (w0 := w) w.heap.size rfl (.tmp 70) (.tmp 73) 48 85 (.agg #[(.int .i64 0), (.int .i64 0), (.int .i64 0), (.int .i64 0), (.int .i64 0), (.int .i64 0), (.int .i64 0), (.int .i64 0)]) 64 rfl Try.underlying48 info85 rfl (by decide) (by omega) u13 x13_1 (⟨2, 0, 0, t361, (⟨0, 0, 0, 0⟩ : S30)⟩ : S85) [.int .i64 2, .int .i64 0, .int .i64 0, .int .i64 t361, .int .i64 0, .int .i64 0, .int .i64 0, .int .i64 0] (fun _ => True) (fun _ => False) rfl rfl ?aP (fun _ hk => hk.elim) ?aF ?aO ?aB ?aS ?aL ?_; (case aP => exact k85_mkM _ _ _ (⟨2, 0, 0, t361, (⟨0, 0, 0, 0⟩ : S30)⟩ : S85)); (case aB => exact (bg1 HB.out GE354.out)); (case aF => exact (fun _ _ => trivial)); (case aO => exact (pr HO_13.out)); (case aS => exact (below_size (bg1 HB.out GE354.out))); (case aL => have := LMc60.out; omega); intro v365 w62 ho hb hg hat; rw [← Ny364.out] at ho; replace BK354 := am (blk_grown (g := gb354) (o := .cells #[.int .i64 a1, .int .i64 t353, .int .i64 a2, .int .i64 a3] 30 (0, 0)) (pb BK354.out) hg (Kd.R_ne HO_13.out BK354.out (by decide))); replace HB := am (hb); have HO366 := am (ho); clear HO_13; clear ho hb hg hat; obtain ⟨hcz63_0, hcz63_1, hcz63_2, hcz63_3⟩ := b4 BK354.out; obtain ⟨hfz63_0, hfz63_1, hfz63_2, hfz63_3⟩ := f4 BK354.out) | ((with_reducible refine gate_builtin (b := .append) (xs := #[.tmp 75, .tmp 79]) rfl ?_); at_builtin; refine Kd.R_append k85 (w0 := w) w.heap.size rfl (.tmp 75) (.tmp 79) 48 85 (.agg #[(.int .i64 0), (.int .i64 0), (.int .i64 0), (.int .i64 0), (.int .i64 0), (.int .i64 0), (.int .i64 0), (.int .i64 0)]) 64 rfl Try.underlying48 info85 rfl (by decide) (by omega) v365 y364 (⟨3, 0, 0, t361, (⟨a1, t353, a2, a3⟩ : S30)⟩ : S85) [.int .i64 3, .int .i64 0, .int .i64 0, .int .i64 t361, .int .i64 a1, .int .i64 t353, .int .i64 a2, .int .i64 a3] (fun _ => True) (fun _ => False) rfl rfl ?aP (fun _ hk => hk.elim) ?aF ?aO ?aB ?aS ?aL ?_; (case aP => exact k85_mkM _ _ _ (⟨3, 0, 0, t361, (⟨a1, t353, a2, a3⟩ : S30)⟩ : S85)); (case aB => exact (bg1 HB.out GE354.out)); (case aF => exact (fun _ _ => trivial)); (case aO => exact (pr HO366.out)); (case aS => exact (below_size (bg1 HB.out GE354.out))); (case aL => have := LMc61.out; omega); intro v368 w64 ho hb hg hat; rw [← Ny367.out] at ho; replace BK354 := am (blk_grown (g := gb354) (o := .cells #[.int .i64 a1, .int .i64 t353, .int .i64 a2, .int .i64 a3] 30 (0, 0)) (pb BK354.out) hg (Kd.R_ne HO366.out BK354.out (by decide))); replace HB := am (hb); have HO369 := am (ho); clear HO366; clear ho hb hg hat))
     go_ret
     exact ⟨_, rq ⟨pr HO369.out, bg1 HB.out GE354.out⟩⟩
   rw [if_pos c34] at H
   have c34b0 := decide_eq_true c34
   clear c34
   by_cases c35 : 0 ≤ x49_1
   rotate_left
   · rw [if_neg c35] at H
     exact absurd H (by simp)
   rw [if_pos c35] at H
   have c35b0 := decide_eq_true c35
   clear c35
   by_cases c36 : x49_1 < (((rd_T65 l0 t361).f0).length : Int)
   rotate_left
   · rw [if_neg c36] at H
     exact absurd H (by simp)
   rw [if_pos c36] at H
   have c36b0 := decide_eq_true c36
   clear c36
   replace H := Option.bind_eq_some_iff.mp H
   obtain ⟨t372, A370, H⟩ := H
   replace H : (if t372 = true then ((impl_FindLive.f k1 l0 t361 x49_1).bind fun t373 => (if t373 = true then ((impl_diskStep.f ((rd_T71 ((rd_T65 l0 t361).f0) x49_1).f1.f0) ((rd_T71 ((rd_T65 l0 t361).f0) x49_1).f1.f1) ((rd_T71 ((rd_T65 l0 t361).f0) x49_1).f1.f2) ((rd_T71 ((rd_T65 l0 t361).f0) x49_1).f1.f3)).bind fun bt374 => (if x13_1.length < 2199023255552 then (impl_stepsWrite.l0 k1 l0 t361 (x13_1 ++ [(⟨bt374.1, bt374.2.1, bt374.2.2.1, bt374.2.2.2.1, (⟨bt374.2.2.2.2.1, bt374.2.2.2.2.2.1, bt374.2.2.2.2.2.2.1, bt374.2.2.2.2.2.2.2⟩ : S30)⟩ : S85)]) ((rd_T65 l0 t361).f0) (((rd_T65 l0 t361).f0).length : Int) (wrap64 (x49_1 + 1)) a1 t353 a2 a3) else (none))) else (impl_stepsWrite.l0 k1 l0 t361 x13_1 ((rd_T65 l0 t361).f0) (((rd_T65 l0 t361).f0).length : Int) (wrap64 (x49_1 + 1)) a1 t353 a2 a3))) else (impl_stepsWrite.l0 k1 l0 t361 x13_1 ((rd_T65 l0 t361).f0) (((rd_T65 l0 t361).f0).length : Int) (wrap64 (x49_1 + 1)) a1 t353 a2 a3)) = some r := H
   have A37 := am A370
   clear A370
   by_cases c38 : t372 = true
   rotate_left
   · replace c38 := Bool.eq_false_iff.mpr c38
     subst c38
     have H1 : (impl_stepsWrite.l0 k1 l0 t361 x13_1 ((rd_T65 l0 t361).f0) (((rd_T65 l0 t361).f0).length : Int) (wrap64 (x49_1 + 1)) a1 t353 a2 a3) = some r := by rw [if_neg (show ¬ (false = true) by decide)] at H; exact H
     clear H
     have H := H1
     clear H1
     have H' := am H
     clear H
     have p370 : 0 ≤ (x49_1 : Int) := ofb
     have q370 : x49_1 < (((rd_T65 l0 t361).f0).length : Int) := ofb
     obtain ⟨ad370, e370, hx370_0, hx370_1, hx370_2, hx370_3, hx370_4⟩ := at_T71 HR363_0.out x49_1 p370 q370
     cases e370
     replace hx370_0 := up HB.out hx370_0
     replace hx370_1 := up HB.out hx370_1
     replace hx370_2 := up HB.out hx370_2
     replace hx370_3 := up HB.out hx370_3
     replace hx370_4 := up HB.out hx370_4
     replace p370 := eq_true p370
     replace q370 := eq_true q370
     go_wp2_with (first | (refine bx 15 #[.int .i64 0, .int .i64 0, .int .i64 0, .int .i64 0, .int .i64 0] 71 rfl ?_; intro gb371 hg w56 hbox hb; replace HO_13 := am (Kd.R_below (pr HO_13.out) hb); have BK371 := am (hbox); have GW371 := am ((by rw [hg]; exact (below_size (bg1 HB.out GE354.out)) : w.heap.size ≤ gb371)); have GE371 := GW371; replace HB := am (below_step (bg1 HB.out GE354.out) hb); have NB354_371 := am ((by rw [hg]; exact Nat.ne_of_lt (blk_lt (pb BK354.out)) : gb354 ≠ gb371)); have NB371_354 := am (Ne.symm NB354_371.out); replace BK354 := am (blk_below (pb BK354.out) hb); clear hb hbox hg; have hnb57 := NB371_354.out; have hnc57 := NB354_371.out; obtain ⟨hcz58_0, hcz58_1, hcz58_2, hcz58_3, hcz58_4⟩ := b5 BK371.out; obtain ⟨hfz58_0, hfz58_1, hfz58_2, hfz58_3, hfz58_4⟩ := f5 BK371.out) | (refine gl 56 Try.func59 #[.agg #[.int .i64 ((rd_T71 ((rd_T65 l0 t361).f0) x49_1).f1.f0), .int .i64 ((rd_T71 ((rd_T65 l0 t361).f0) x49_1).f1.f1), .int .i64 ((rd_T71 ((rd_T65 l0 t361).f0) x49_1).f1.f2), .int .i64 ((rd_T71 ((rd_T65 l0 t361).f0) x49_1).f1.f3)]] rfl ?_; (with_reducible refine (impl_Rec_isDirty.calls ((rd_T71 ((rd_T65 l0 t361).f0) x49_1).f1.f0) ((rd_T71 ((rd_T65 l0 t361).f0) x49_1).f1.f1) ((rd_T71 ((rd_T65 l0 t361).f0) x49_1).f1.f2) ((rd_T71 ((rd_T65 l0 t361).f0) x49_1).f1.f3) false _ A37.out).mono ?_); rintro e w59 ⟨rfl, hb⟩; refine ⟨_, rfl, ?_⟩; replace HO_13 := am (Kd.R_below (by (with_reducible repeat (first | apply Kd.R_alloc | apply Kd.R_drewN | apply Kd.R_drew)); exact (Kd.R_mono (Kd.R_far (p := ⟨gb371, 4, none⟩) (Kd.R_far (p := ⟨gb371, 3, none⟩) (Kd.R_far (p := ⟨gb371, 2, none⟩) (Kd.R_far (p := ⟨gb371, 1, none⟩) (Kd.R_far (p := ⟨gb371, 0, none⟩) (Kd.R_types HO_13.out BK371.out (by decide)) (fun _ hk => hk.2) (.int .i64 ((rd_T71 ((rd_T65 l0 t361).f0) x49_1).f0))) (fun _ hk => hk.2) (.int .i64 ((rd_T71 ((rd_T65 l0 t361).f0) x49_1).f1.f0))) (fun _ hk => hk.2) (.int .i64 ((rd_T71 ((rd_T65 l0 t361).f0) x49_1).f1.f1))) (fun _ hk => hk.2) (.int .i64 ((rd_T71 ((rd_T65 l0 t361).f0) x49_1).f1.f2))) (fun _ hk => hk.2) (.int .i64 ((rd_T71 ((rd_T65 l0 t361).f0) x49_1).f1.f3))) (fun _ h_ => h_.1))) hb); replace BK354 := am (blk_below (g := gb354) (o := .cells #[.int .i64 a1, .int .i64 t353, .int .i64 a2, .int .i64 a3] 30 (0, 0)) (by (with_reducible repeat (first | refine blk_drewN ?_ _ | refine blk_drew ?_ | refine blk_alloc ?_ _)); refine blk_far ?_ NB354_371.out _; (with_reducible repeat (first | refine blk_drewN ?_ _ | refine blk_drew ?_ | refine blk_alloc ?_ _)); refine blk_far ?_ NB354_371.out _; (with_reducible repeat (first | refine blk_drewN ?_ _ | refine blk_drew ?_ | refine blk_alloc ?_ _)); refine blk_far ?_ NB354_371.out _; (with_reducible repeat (first | refine blk_drewN ?_ _ | refine blk_drew ?_ | refine blk_alloc ?_ _)); refine blk_far ?_ NB354_371.out _; (with_reducible repeat (first | refine blk_drewN ?_ _ | refine blk_drew ?_ | refine blk_alloc ?_ _)); refine blk_far ?_ NB354_371.out _; (with_reducible repeat (first | refine blk_drewN ?_ _ | refine blk_drew ?_ | refine blk_alloc ?_ _)); exact BK354.out) hb); replace BK371 := am (blk_below (g := gb371) (o := .cells #[.int .i64 ((rd_T71 ((rd_T65 l0 t361).f0) x49_1).f0), .int .i64 ((rd_T71 ((rd_T65 l0 t361).f0) x49_1).f1.f0), .int .i64 ((rd_T71 ((rd_T65 l0 t361).f0) x49_1).f1.f1), .int .i64 ((rd_T71 ((rd_T65 l0 t361).f0) x49_1).f1.f2), .int .i64 ((rd_T71 ((rd_T65 l0 t361).f0) x49_1).f1.f3)] 71 (0, 0)) (by (with_reducible repeat (first | refine blk_drewN ?_ _ | refine blk_drew ?_ | refine blk_alloc ?_ _)); refine blk_put (cs := #[.int .i64 ((rd_T71 ((rd_T65 l0 t361).f0) x49_1).f0), .int .i64 ((rd_T71 ((rd_T65 l0 t361).f0) x49_1).f1.f0), .int .i64 ((rd_T71 ((rd_T65 l0 t361).f0) x49_1).f1.f1), .int .i64 ((rd_T71 ((rd_T65 l0 t361).f0) x49_1).f1.f2), .int .i64 0]) ?_ 4 _ rfl; (with_reducible repeat (first | refine blk_drewN ?_ _ | refine blk_drew ?_ | refine blk_alloc ?_ _)); refine blk_put (cs := #[.int .i64 ((rd_T71 ((rd_T65 l0 t361).f0) x49_1).f0), .int .i64 ((rd_T71 ((rd_T65 l0 t361).f0) x49_1).f1.f0), .int .i64 ((rd_T71 ((rd_T65 l0 t361).f0) x49_1).f1.f1), .int .i64 0, .int .i64 0]) ?_ 3 _ rfl; (with_reducible repeat (first | refine blk_drewN ?_ _ | refine blk_drew ?_ | refine blk_alloc ?_ _)); refine blk_put (cs := #[.int .i64 ((rd_T71 ((rd_T65 l0 t361).f0) x49_1).f0), .int .i64 ((rd_T71 ((rd_T65 l0 t361).f0) x49_1).f1.f0), .int .i64 0, .int .i64 0, .int .i64 0]) ?_ 2 _ rfl; (with_reducible repeat (first | refine blk_drewN ?_ _ | refine blk_drew ?_ | refine blk_alloc ?_ _)); refine blk_put (cs := #[.int .i64 ((rd_T71 ((rd_T65 l0 t361).f0) x49_1).f0), .int .i64 0, .int .i64 0, .int .i64 0, .int .i64 0]) ?_ 1 _ rfl; (with_reducible repeat (first | refine blk_drewN ?_ _ | refine blk_drew ?_ | refine blk_alloc ?_ _)); refine blk_put (cs := #[.int .i64 0, .int .i64 0, .int .i64 0, .int .i64 0, .int .i64 0]) ?_ 0 _ rfl; (with_reducible repeat (first | refine blk_drewN ?_ _ | refine blk_drew ?_ | refine blk_alloc ?_ _)); exact BK371.out) hb); replace HB := am (below_step (bg2 HB.out GE354.out GE371.out) hb); (try clear hb); (try clear hb2); (try clear hk); (try clear hi)))
     go_roundg k1
     case measure => have := HK1.out; omega
     case rel => exact ⟨(x13_1), (wrap64 (x49_1 + 1)), rf, H', ⟨by have := HK1.out; omega⟩, ⟨pr HO_13.out⟩, ⟨pb BK354.out⟩, ⟨bg2 HB.out GE354.out GE371.out⟩⟩
   subst c38
   have H1 : ((impl_FindLive.f k1 l0 t361 x49_1).bind fun t373 => (if t373 = true then ((impl_diskStep.f ((rd_T71 ((rd_T65 l0 t361).f0) x49_1).f1.f0) ((rd_T71 ((rd_T65 l0 t361).f0) x49_1).f1.f1) ((rd_T71 ((rd_T65 l0 t361).f0) x49_1).f1.f2) ((rd_T71 ((rd_T65 l0 t361).f0) x49_1).f1.f3)).bind fun bt374 => (if x13_1.length < 2199023255552 then (impl_stepsWrite.l0 k1 l0 t361 (x13_1 ++ [(⟨bt374.1, bt374.2.1, bt374.2.2.1, bt374.2.2.2.1, (⟨bt374.2.2.2.2.1, bt374.2.2.2.2.2.1, bt374.2.2.2.2.2.2.1, bt374.2.2.2.2.2.2.2⟩ : S30)⟩ : S85)]) ((rd_T65 l0 t361).f0) (((rd_T65 l0 t361).f0).length : Int) (wrap64 (x49_1 + 1)) a1 t353 a2 a3) else (none))) else (impl_stepsWrite.l0 k1 l0 t361 x13_1 ((rd_T65 l0 t361).f0) (((rd_T65 l0 t361).f0).length : Int) (wrap64 (x49_1 + 1)) a1 t353 a2 a3))) = some r := by rw [if_pos rfl] at H; exact H
   clear H
   have H := H1
   clear H1
   replace H := Option.bind_eq_some_iff.mp H
   obtain ⟨t373, A390, H⟩ := H
   replace H : (if t373 = true then ((impl_diskStep.f ((rd_T71 ((rd_T65 l0 t361).f0) x49_1).f1.f0) ((rd_T71 ((rd_T65 l0 t361).f0) x49_1).f1.f1) ((rd_T71 ((rd_T65 l0 t361).f0) x49_1).f1.f2) ((rd_T71 ((rd_T65 l0 t361).f0) x49_1).f1.f3)).bind fun bt374 => (if x13_1.length < 2199023255552 then (impl_stepsWrite.l0 k1 l0 t361 (x13_1 ++ [(⟨bt374.1, bt374.2.1, bt374.2.2.1, bt374.2.2.2.1, (⟨bt374.2.2.2.2.1, bt374.2.2.2.2.2.1, bt374.2.2.2.2.2.2.1, bt374.2.2.2.2.2.2.2⟩ : S30)⟩ : S85)]) ((rd_T65 l0 t361).f0) (((rd_T65 l0 t361).f0).length : Int) (wrap64 (x49_1 + 1)) a1 t353 a2 a3) else (none))) else (impl_stepsWrite.l0 k1 l0 t361 x13_1 ((rd_T65 l0 t361).f0) (((rd_T65 l0 t361).f0).length : Int) (wrap64 (x49_1 + 1)) a1 t353 a2 a3)) = some r := H
   have A39 := am A390
   clear A390
   by_cases c40 : t373 = true
   rotate_left
   · replace c40 := Bool.eq_false_iff.mpr c40
     subst c40
     have H1 : (impl_stepsWrite.l0 k1 l0 t361 x13_1 ((rd_T65 l0 t361).f0) (((rd_T65 l0 t361).f0).length : Int) (wrap64 (x49_1 + 1)) a1 t353 a2 a3) = some r := by rw [if_neg (show ¬ (false = true) by decide)] at H; exact H
     clear H
     have H := H1
     clear H1
     have H' := am H
     clear H
     have p370 : 0 ≤ (x49_1 : Int) := ofb
     have q370 : x49_1 < (((rd_T65 l0 t361).f0).length : Int) := ofb
     obtain ⟨ad370, e370, hx370_0, hx370_1, hx370_2, hx370_3, hx370_4⟩ := at_T71 HR363_0.out x49_1 p370 q370
     cases e370
     replace hx370_0 := up HB.out hx370_0
     replace hx370_1 := up HB.out hx370_1
     replace hx370_2 := up HB.out hx370_2
     replace hx370_3 := up HB.out hx370_3
     replace hx370_4 := up HB.out hx370_4
     replace p370 := eq_true p370
     replace q370 := eq_true q370
     go_wp2_with (first | (refine bx 15 #[.int .i64 0, .int .i64 0, .int .i64 0, .int .i64 0, .int .i64 0] 71 rfl ?_; intro gb371 hg w51 hbox hb; replace HO_13 := am (Kd.R_below (pr HO_13.out) hb); have BK371 := am (hbox); have GW371 := am ((by rw [hg]; exact (below_size (bg1 HB.out GE354.out)) : w.heap.size ≤ gb371)); have GE371 := GW371; replace HB := am (below_step (bg1 HB.out GE354.out) hb); have NB354_371 := am ((by rw [hg]; exact Nat.ne_of_lt (blk_lt (pb BK354.out)) : gb354 ≠ gb371)); have NB371_354 := am (Ne.symm NB354_371.out); replace BK354 := am (blk_below (pb BK354.out) hb); clear hb hbox hg; have hnb52 := NB371_354.out; have hnc52 := NB354_371.out; obtain ⟨hcz53_0, hcz53_1, hcz53_2, hcz53_3, hcz53_4⟩ := b5 BK371.out; obtain ⟨hfz53_0, hfz53_1, hfz53_2, hfz53_3, hfz53_4⟩ := f5 BK371.out) | (refine gl 56 Try.func59 #[.agg #[.int .i64 ((rd_T71 ((rd_T65 l0 t361).f0) x49_1).f1.f0), .int .i64 ((rd_T71 ((rd_T65 l0 t361).f0) x49_1).f1.f1), .int .i64 ((rd_T71 ((rd_T65 l0 t361).f0) x49_1).f1.f2), .int .i64 ((rd_T71 ((rd_T65 l0 t361).f0) x49_1).f1.f3)]] rfl ?_; (with_reducible refine (impl_Rec_isDirty.calls ((rd_T71 ((rd_T65 l0 t361).f0) x49_1).f1.f0) ((rd_T71 ((rd_T65 l0 t361).f0) x49_1).f1.f1) ((rd_T71 ((rd_T65 l0 t361).f0) x49_1).f1.f2) ((rd_T71 ((rd_T65 l0 t361).f0) x49_1).f1.f3) true _ A37.out).mono ?_); rintro e w54 ⟨rfl, hb⟩; refine ⟨_, rfl, ?_⟩; replace HO_13 := am (Kd.R_below (by (with_reducible repeat (first | apply Kd.R_alloc | apply Kd.R_drewN | apply Kd.R_drew)); exact (Kd.R_mono (Kd.R_far (p := ⟨gb371, 4, none⟩) (Kd.R_far (p := ⟨gb371, 3, none⟩) (Kd.R_far (p := ⟨gb371, 2, none⟩) (Kd.R_far (p := ⟨gb371, 1, none⟩) (Kd.R_far (p := ⟨gb371, 0, none⟩) (Kd.R_types HO_13.out BK371.out (by decide)) (fun _ hk => hk.2) (.int .i64 ((rd_T71 ((rd_T65 l0 t361).f0) x49_1).f0))) (fun _ hk => hk.2) (.int .i64 ((rd_T71 ((rd_T65 l0 t361).f0) x49_1).f1.f0))) (fun _ hk => hk.2) (.int .i64 ((rd_T71 ((rd_T65 l0 t361).f0) x49_1).f1.f1))) (fun _ hk => hk.2) (.int .i64 ((rd_T71 ((rd_T65 l0 t361).f0) x49_1).f1.f2))) (fun _ hk => hk.2) (.int .i64 ((rd_T71 ((rd_T65 l0 t361).f0) x49_1).f1.f3))) (fun _ h_ => h_.1))) hb); replace BK354 := am (blk_below (g := gb354) (o := .cells #[.int .i64 a1, .int .i64 t353, .int .i64 a2, .int .i64 a3] 30 (0, 0)) (by (with_reducible repeat (first | refine blk_drewN ?_ _ | refine blk_drew ?_ | refine blk_alloc ?_ _)); refine blk_far ?_ NB354_371.out _; (with_reducible repeat (first | refine blk_drewN ?_ _ | refine blk_drew ?_ | refine blk_alloc ?_ _)); refine blk_far ?_ NB354_371.out _; (with_reducible repeat (first | refine blk_drewN ?_ _ | refine blk_drew ?_ | refine blk_alloc ?_ _)); refine blk_far ?_ NB354_371.out _; (with_reducible repeat (first | refine blk_drewN ?_ _ | refine blk_drew ?_ | refine blk_alloc ?_ _)); refine blk_far ?_ NB354_371.out _; (with_reducible repeat (first | refine blk_drewN ?_ _ | refine blk_drew ?_ | refine blk_alloc ?_ _)); refine blk_far ?_ NB354_371.out _; (with_reducible repeat (first | refine blk_drewN ?_ _ | refine blk_drew ?_ | refine blk_alloc ?_ _)); exact BK354.out) hb); replace BK371 := am (blk_below (g := gb371) (o := .cells #[.int .i64 ((rd_T71 ((rd_T65 l0 t361).f0) x49_1).f0), .int .i64 ((rd_T71 ((rd_T65 l0 t361).f0) x49_1).f1.f0), .int .i64 ((rd_T71 ((rd_T65 l0 t361).f0) x49_1).f1.f1), .int .i64 ((rd_T71 ((rd_T65 l0 t361).f0) x49_1).f1.f2), .int .i64 ((rd_T71 ((rd_T65 l0 t361).f0) x49_1).f1.f3)] 71 (0, 0)) (by (with_reducible repeat (first | refine blk_drewN ?_ _ | refine blk_drew ?_ | refine blk_alloc ?_ _)); refine blk_put (cs := #[.int .i64 ((rd_T71 ((rd_T65 l0 t361).f0) x49_1).f0), .int .i64 ((rd_T71 ((rd_T65 l0 t361).f0) x49_1).f1.f0), .int .i64 ((rd_T71 ((rd_T65 l0 t361).f0) x49_1).f1.f1), .int .i64 ((rd_T71 ((rd_T65 l0 t361).f0) x49_1).f1.f2), .int .i64 0]) ?_ 4 _ rfl; (with_reducible repeat (first | refine blk_drewN ?_ _ | refine blk_drew ?_ | refine blk_alloc ?_ _)); refine blk_put (cs := #[.int .i64 ((rd_T71 ((rd_T65 l0 t361).f0) x49_1).f0), .int .i64 ((rd_T71 ((rd_T65 l0 t361).f0) x49_1).f1.f0), .int .i64 ((rd_T71 ((rd_T65 l0 t361).f0) x49_1).f1.f1), .int .i64 0, .int .i64 0]) ?_ 3 _ rfl; (with_reducible repeat (first | refine blk_drewN ?_ _ | refine blk_drew ?_ | refine blk_alloc ?_ _)); refine blk_put (cs := #[.int .i64 ((rd_T71 ((rd_T65 l0 t361).f0) x49_1).f0), .int .i64 ((rd_T71 ((rd_T65 l0 t361).f0) x49_1).f1.f0), .int .i64 0, .int .i64 0, .int .i64 0]) ?_ 2 _ rfl; (with_reducible repeat (first | refine blk_drewN ?_ _ | refine blk_drew ?_ | refine blk_alloc ?_ _)); refine blk_put (cs := #[.int .i64 ((rd_T71 ((rd_T65 l0 t361).f0) x49_1).f0), .int .i64 0, .int .i64 0, .int .i64 0, .int .i64 0]) ?_ 1 _ rfl; (with_reducible repeat (first | refine blk_drewN ?_ _ | refine blk_drew ?_ | refine blk_alloc ?_ _)); refine blk_put (cs := #[.int .i64 0, .int .i64 0, .int .i64 0, .int .i64 0, .int .i64 0]) ?_ 0 _ rfl; (with_reducible repeat (first | refine blk_drewN ?_ _ | refine blk_drew ?_ | refine blk_alloc ?_ _)); exact BK371.out) hb); replace HB := am (below_step (bg2 HB.out GE354.out GE371.out) hb); (try clear hb); (try clear hb2); (try clear hk); (try clear hi)) | (go_at_call 89; (with_reducible refine (impl_FindLive.calls k1 _ _ l0 t361 x49_1 false _ ?side1 ?side2 A39.out).mono ?_); (case side1 => exact pc (Kd.C_below HR0.out HB.out)); (case side2 => exact HC0.out); rintro e w55 ⟨rfl, hb⟩; replace HO_13 := am (Kd.R_below (pr HO_13.out) hb); replace BK354 := am (blk_below (pb BK354.out) hb); replace BK371 := am (blk_below (pb BK371.out) hb); replace HB := am (below_step (bg2 HB.out GE354.out GE371.out) hb); (try clear hb); (try clear hb2); (try clear hk); (try clear hi)))
     go_roundg k1
     case measure => have := HK1.out; omega
     case rel => exact ⟨(x13_1), (wrap64 (x49_1 + 1)), rf, H', ⟨by have := HK1.out; omega⟩, ⟨pr HO_13.out⟩, ⟨pb BK354.out⟩, ⟨bg2 HB.out GE354.out GE371.out⟩⟩
   subst c40
   have H1 : ((impl_diskStep.f ((rd_T71 ((rd_T65 l0 t361).f0) x49_1).f1.f0) ((rd_T71 ((rd_T65 l0 t361).f0) x49_1).f1.f1) ((rd_T71 ((rd_T65 l0 t361).f0) x49_1).f1.f2) ((rd_T71 ((rd_T65 l0 t361).f0) x49_1).f1.f3)).bind fun bt374 => (if x13_1.length < 2199023255552 then (impl_stepsWrite.l0 k1 l0 t361 (x13_1 ++ [(⟨bt374.1, bt374.2.1, bt374.2.2.1, bt374.2.2.2.1, (⟨bt374.2.2.2.2.1, bt374.2.2.2.2.2.1, bt374.2.2.2.2.2.2.1, bt374.2.2.2.2.2.2.2⟩ : S30)⟩ : S85)]) ((rd_T65 l0 t361).f0) (((rd_T65 l0 t361).f0).length : Int) (wrap64 (x49_1 + 1)) a1 t353 a2 a3) else (none))) = some r := by rw [if_pos rfl] at H; exact H
   clear H
   have H := H1
   clear H1
   replace H := Option.bind_eq_some_iff.mp H
   obtain ⟨⟨t374, t375, t376, t377, t378, t379, t380, t381⟩, A410, H⟩ := H
   replace H : (if x13_1.length < 2199023255552 then (impl_stepsWrite.l0 k1 l0 t361 (x13_1 ++ [(⟨t374, t375, t376, t377, (⟨t378, t379, t380, t381⟩ : S30)⟩ : S85)]) ((rd_T65 l0 t361).f0) (((rd_T65 l0 t361).f0).length : Int) (wrap64 (x49_1 + 1)) a1 t353 a2 a3) else (none)) = some r := H
   have A41 := am A410
   clear A410
   by_cases c42 : x13_1.length < 2199023255552
   rotate_left
   · rw [if_neg c42] at H
     exact absurd H (by simp)
   rw [if_pos c42] at H
   have LMc42 := am c42
   clear c42
   obtain ⟨y382, hy382⟩ : ∃ y_ : List (S85), y_ = (x13_1 ++ [(⟨t374, t375, t376, t377, (⟨t378, t379, t380, t381⟩ : S30)⟩ : S85)]) := ⟨_, rfl⟩
   replace H : (impl_stepsWrite.l0 k1 l0 t361 y382 ((rd_T65 l0 t361).f0) (((rd_T65 l0 t361).f0).length : Int) (wrap64 (x49_1 + 1)) a1 t353 a2 a3) = some r := by first | (rw [hy382]; with_reducible exact H) | (have H2_ := (Option.bind_some _ _).symm.trans H; rw [hy382]; with_reducible exact H2_) | (have H2_ := (Option.bind_some _ _).symm.trans H; with_reducible exact H2_) | with_reducible exact H | (rw [hy382]; exact H) | exact H
   have Ny382 := am hy382
   clear hy382
   have H' := am H
   clear H
   have p370 : 0 ≤ (x49_1 : Int) := ofb
   have q370 : x49_1 < (((rd_T65 l0 t361).f0).length : Int) := ofb
   obtain ⟨ad370, e370, hx370_0, hx370_1, hx370_2, hx370_3, hx370_4⟩ := at_T71 HR363_0.out x49_1 p370 q370
   cases e370
   replace hx370_0 := up HB.out hx370_0
   replace hx370_1 := up HB.out hx370_1
   replace hx370_2 := up HB.out hx370_2
   replace hx370_3 := up HB.out hx370_3
   replace hx370_4 := up HB.out hx370_4
   replace p370 := eq_true p370
   replace q370 := eq_true q370
   go_wp2_with (first | (refine bx 15 #[.int .i64 0, .int .i64 0, .int .i64 0, .int .i64 0, .int .i64 0] 71 rfl ?_; intro gb371 hg w43 hbox hb; replace HO_13 := am (Kd.R_below (pr HO_13.out) hb); have BK371 := am (hbox); have GW371 := am ((by rw [hg]; exact (below_size (bg1 HB.out GE354.out)) : w.heap.size ≤ gb371)); have GE371 := GW371; replace HB := am (below_step (bg1 HB.out GE354.out) hb); have NB354_371 := am ((by rw [hg]; exact Nat.ne_of_lt (blk_lt (pb BK354.out)) : gb354 ≠ gb371)); have NB371_354 := am (Ne.symm NB354_371.out); replace BK354 := am (blk_below (pb BK354.out) hb); clear hb hbox hg; have hnb44 := NB371_354.out; have hnc44 := NB354_371.out; obtain ⟨hcz45_0, hcz45_1, hcz45_2, hcz45_3, hcz45_4⟩ := b5 BK371.out; obtain ⟨hfz45_0, hfz45_1, hfz45_2, hfz45_3, hfz45_4⟩ := f5 BK371.out) | (refine gl 56 Try.func59 #[.agg #[.int .i64 ((rd_T71 ((rd_T65 l0 t361).f0) x49_1).f1.f0), .int .i64 ((rd_T71 ((rd_T65 l0 t361).f0) x49_1).f1.f1), .int .i64 ((rd_T71 ((rd_T65 l0 t361).f0) x49_1).f1.f2), .int .i64 ((rd_T71 ((rd_T65 l0 t361).f0) x49_1).f1.f3)]] rfl ?_; (with_reducible refine (impl_Rec_isDirty.calls ((rd_T71 ((rd_T65 l0 t361).f0) x49_1).f1.f0) ((rd_T71 ((rd_T65 l0 t361).f0) x49_1).f1.f1) ((rd_T71 ((rd_T65 l0 t361).f0) x49_1).f1.f2) ((rd_T71 ((rd_T65 l0 t361).f0) x49_1).f1.f3) true _ A37.out).mono ?_); rintro e w46 ⟨rfl, hb⟩; refine ⟨_, rfl, ?_⟩; replace HO_13 := am (Kd.R_below (by (with_reducible repeat (first | apply Kd.R_alloc | apply Kd.R_drewN | apply Kd.R_drew)); exact (Kd.R_mono (Kd.R_far (p := ⟨gb371, 4, none⟩) (Kd.R_far (p := ⟨gb371, 3, none⟩) (Kd.R_far (p := ⟨gb371, 2, none⟩) (Kd.R_far (p := ⟨gb371, 1, none⟩) (Kd.R_far (p := ⟨gb371, 0, none⟩) (Kd.R_types HO_13.out BK371.out (by decide)) (fun _ hk => hk.2) (.int .i64 ((rd_T71 ((rd_T65 l0 t361).f0) x49_1).f0))) (fun _ hk => hk.2) (.int .i64 ((rd_T71 ((rd_T65 l0 t361).f0) x49_1).f1.f0))) (fun _ hk => hk.2) (.int .i64 ((rd_T71 ((rd_T65 l0 t361).f0) x49_1).f1.f1))) (fun _ hk => hk.2) (.int .i64 ((rd_T71 ((rd_T65 l0 t361).f0) x49_1).f1.f2))) (fun _ hk => hk.2) (.int .i64 ((rd_T71 ((rd_T65 l0 t361).f0) x49_1).f1.f3))) (fun _ h_ => h_.1))) hb); replace BK354 := am (blk_below (g := gb354) (o := .cells #[.int .i64 a1, .int .i64 t353, .int .i64 a2, .int .i64 a3] 30 (0, 0)) (by (with_reducible repeat (first | refine blk_drewN ?_ _ | refine blk_drew ?_ | refine blk_alloc ?_ _)); refine blk_far ?_ NB354_371.out _; (with_reducible repeat (first | refine blk_drewN ?_ _ | refine blk_drew ?_ | refine blk_alloc ?_ _)); refine blk_far ?_ NB354_371.out _; (with_reducible repeat (first | refine blk_drewN ?_ _ | refine blk_drew ?_ | refine blk_alloc ?_ _)); refine blk_far ?_ NB354_371.out _; (with_reducible repeat (first | refine blk_drewN ?_ _ | refine blk_drew ?_ | refine blk_alloc ?_ _)); refine blk_far ?_ NB354_371.out _; (with_reducible repeat (first | refine blk_drewN ?_ _ | refine blk_drew ?_ | refine blk_alloc ?_ _)); refine blk_far ?_ NB354_371.out _; (with_reducible repeat (first | refine blk_drewN ?_ _ | refine blk_drew ?_ | refine blk_alloc ?_ _)); exact BK354.out) hb); replace BK371 := am (blk_below (g := gb371) (o := .cells #[.int .i64 ((rd_T71 ((rd_T65 l0 t361).f0) x49_1).f0), .int .i64 ((rd_T71 ((rd_T65 l0 t361).f0) x49_1).f1.f0), .int .i64 ((rd_T71 ((rd_T65 l0 t361).f0) x49_1).f1.f1), .int .i64 ((rd_T71 ((rd_T65 l0 t361).f0) x49_1).f1.f2), .int .i64 ((rd_T71 ((rd_T65 l0 t361).f0) x49_1).f1.f3)] 71 (0, 0)) (by (with_reducible repeat (first | refine blk_drewN ?_ _ | refine blk_drew ?_ | refine blk_alloc ?_ _)); refine blk_put (cs := #[.int .i64 ((rd_T71 ((rd_T65 l0 t361).f0) x49_1).f0), .int .i64 ((rd_T71 ((rd_T65 l0 t361).f0) x49_1).f1.f0), .int .i64 ((rd_T71 ((rd_T65 l0 t361).f0) x49_1).f1.f1), .int .i64 ((rd_T71 ((rd_T65 l0 t361).f0) x49_1).f1.f2), .int .i64 0]) ?_ 4 _ rfl; (with_reducible repeat (first | refine blk_drewN ?_ _ | refine blk_drew ?_ | refine blk_alloc ?_ _)); refine blk_put (cs := #[.int .i64 ((rd_T71 ((rd_T65 l0 t361).f0) x49_1).f0), .int .i64 ((rd_T71 ((rd_T65 l0 t361).f0) x49_1).f1.f0), .int .i64 ((rd_T71 ((rd_T65 l0 t361).f0) x49_1).f1.f1), .int .i64 0, .int .i64 0]) ?_ 3 _ rfl; (with_reducible repeat (first | refine blk_drewN ?_ _ | refine blk_drew ?_ | refine blk_alloc ?_ _)); refine blk_put (cs := #[.int .i64 ((rd_T71 ((rd_T65 l0 t361).f0) x49_1).f0), .int .i64 ((rd_T71 ((rd_T65 l0 t361).f0) x49_1).f1.f0), .int .i64 0, .int .i64 0, .int .i64 0]) ?_ 2 _ rfl; (with_reducible repeat (first | refine blk_drewN ?_ _ | refine blk_drew ?_ | refine blk_alloc ?_ _)); refine blk_put (cs := #[.int .i64 ((rd_T71 ((rd_T65 l0 t361).f0) x49_1).f0), .int .i64 0, .int .i64 0, .int .i64 0, .int .i64 0]) ?_ 1 _ rfl; (with_reducible repeat (first | refine blk_drewN ?_ _ | refine blk_drew ?_ | refine blk_alloc ?_ _)); refine blk_put (cs := #[.int .i64 0, .int .i64 0, .int .i64 0, .int .i64 0, .int .i64 0]) ?_ 0 _ rfl; (with_reducible repeat (first | refine blk_drewN ?_ _ | refine blk_drew ?_ | refine blk_alloc ?_ _)); exact BK371.out) hb); replace HB := am (below_step (bg2 HB.out GE354.out GE371.out) hb); (try clear hb); (try clear hb2); (try clear hk); (try clear hi)) | (go_at_call 89; (with_reducible refine (impl_FindLive.calls k1 _ _ l0 t361 x49_1 true _ ?side1 ?side2 A39.out).mono ?_); (case side1 => exact pc (Kd.C_below HR0.out HB.out)); (case side2 => exact HC0.out); rintro e w47 ⟨rfl, hb⟩; replace HO_13 := am (Kd.R_below (pr HO_13.out) hb); replace BK354 := am (blk_below (pb BK354.out) hb); replace BK371 := am (blk_below (pb BK371.out) hb); replace HB := am (below_step (bg2 HB.out GE354.out GE371.out) hb); (try clear hb); (try clear hb2); (try clear hk); (try clear hi); have hcz48_0 : w47.cell? ⟨gb371, 0, none⟩ = some (.int .i64 ((rd_T71 ((rd_T65 l0 t361).f0) x49_1).f0)) := (blk_cell BK371.out 0).trans rfl; have hcz48_1 : w47.cell? ⟨gb371, 1, none⟩ = some (.int .i64 ((rd_T71 ((rd_T65 l0 t361).f0) x49_1).f1.f0)) := (blk_cell BK371.out 1).trans rfl; have hcz48_2 : w47.cell? ⟨gb371, 2, none⟩ = some (.int .i64 ((rd_T71 ((rd_T65 l0 t361).f0) x49_1).f1.f1)) := (blk_cell BK371.out 2).trans rfl; have hcz48_3 : w47.cell? ⟨gb371, 3, none⟩ = some (.int .i64 ((rd_T71 ((rd_T65 l0 t361).f0) x49_1).f1.f2)) := (blk_cell BK371.out 3).trans rfl; have hcz48_4 : w47.cell? ⟨gb371, 4, none⟩ = some (.int .i64 ((rd_T71 ((rd_T65 l0 t361).f0) x49_1).f1.f3)) := (blk_cell BK371.out 4).trans rfl; obtain ⟨hfz48_0, hfz48_1, hfz48_2, hfz48_3, hfz48_4⟩ := f5 BK371.out) | (refine gl 66 Try.func68 #[.agg #[.int .i64 ((rd_T71 ((rd_T65 l0 t361).f0) x49_1).f1.f0), .int .i64 ((rd_T71 ((rd_T65 l0 t361).f0) x49_1).f1.f1), .int .i64 ((rd_T71 ((rd_T65 l0 t361).f0) x49_1).f1.f2), .int .i64 ((rd_T71 ((rd_T65 l0 t361).f0) x49_1).f1.f3)]] rfl ?_; (with_reducible refine (impl_diskStep.calls ((rd_T71 ((rd_T65 l0 t361).f0) x49_1).f1.f0) ((rd_T71 ((rd_T65 l0 t361).f0) x49_1).f1.f1) ((rd_T71 ((rd_T65 l0 t361).f0) x49_1).f1.f2) ((rd_T71 ((rd_T65 l0 t361).f0) x49_1).f1.f3) t374 t375 t376 t377 t378 t379 t380 t381 _ A41.out).mono ?_); rintro e w49 ⟨rfl, hb⟩; refine ⟨_, rfl, ?_⟩; replace HO_13 := am (Kd.R_below (pr HO_13.out) hb); replace BK354 := am (blk_below (pb BK354.out) hb); replace BK371 := am (blk_below (pb BK371.out) hb); replace HB := am (below_step (bg2 HB.out GE354.out GE371.out) hb); (try clear hb); (try clear hb2); (try clear hk); (try clear hi)) | ((with_reducible refine gate_builtin (b := .append) (xs := #[.tmp 63, .tmp 67]) rfl ?_); at_builtin; refine Kd.R_append k85 (w0 := w) w.heap.size rfl (.tmp 63) (.tmp 67) 48 85 (.agg #[(.int .i64 0), (.int .i64 0), (.int .i64 0), (.int .i64 0), (.int .i64 0), (.int .i64 0), (.int .i64 0), (.int .i64 0)]) 64 rfl Try.underlying48 info85 rfl (by decide) (by omega) u13 x13_1 (⟨t374, t375, t376, t377, (⟨t378, t379, t380, t381⟩ : S30)⟩ : S85) [.int .i64 t374, .int .i64 t375, .int .i64 t376, .int .i64 t377, .int .i64 t378, .int .i64 t379, .int .i64 t380, .int .i64 t381] (fun _ => True) (fun _ => False) rfl rfl ?aP (fun _ hk => hk.elim) ?aF ?aO ?aB ?aS ?aL ?_; (case aP => exact k85_mkM _ _ _ (⟨t374, t375, t376, t377, (⟨t378, t379, t380, t381⟩ : S30)⟩ : S85)); (case aB => exact (bg2 HB.out GE354.out GE371.out)); (case aF => exact (fun _ _ => trivial)); (case aO => exact (pr HO_13.out)); (case aS => exact (below_size (bg2 HB.out GE354.out GE371.out))); (case aL => have := LMc42.out; omega); intro v383 w50 ho hb hg hat; rw [← Ny382.out] at ho; replace BK354 := am (blk_grown (g := gb354) (o := .cells #[.int .i64 a1, .int .i64 t353, .int .i64 a2, .int .i64 a3] 30 (0, 0)) (pb BK354.out) hg (Kd.R_ne HO_13.out BK354.out (by decide))); replace BK371 := am (blk_grown (g := gb371) (o := .cells #[.int .i64 ((rd_T71 ((rd_T65 l0 t361).f0) x49_1).f0), .int .i64 ((rd_T71 ((rd_T65 l0 t361).f0) x49_1).f1.f0), .int .i64 ((rd_T71 ((rd_T65 l0 t361).f0) x49_1).f1.f1), .int .i64 ((rd_T71 ((rd_T65 l0 t361).f0) x49_1).f1.f2), .int .i64 ((rd_T71 ((rd_T65 l0 t361).f0) x49_1).f1.f3)] 71 (0, 0)) (pb BK371.out) hg (Kd.R_ne HO_13.out BK371.out (by decide))); replace HB := am (hb); have HO384 := am (ho); clear HO_13; clear ho hb hg hat))
   go_roundg k1
   case measure => have := HK1.out; omega
   case rel => exact ⟨(y382), (wrap64 (x49_1 + 1)), rf, H', ⟨by have := HK1.out; omega⟩, ⟨pr HO384.out⟩, ⟨pb BK354.out⟩, ⟨bg2 HB.out GE354.out GE371.out⟩⟩
def impl_StepsFlush.j0 : Nat → Int → Bool → List (S65) → List Int → Int → Int → Int → Int → Option ((List (S85)))
 | 0, _, _, _, _, _, _, _, _ => none
 | k + 1, x1, x24, x386000, x386001, x393000, x393001, x393002, x393003 => if x24 = true then (some ([] : List (S85))) else ((impl_stepsWrite.f k x386000 2 x1 x393003).bind fun t394 => (if (t394.length : Int) = 0 then (some ([] : List (S85))) else ((impl_diskStep.f x393000 x393001 x393002 x393003).bind fun bt397 => ((some (([(⟨bt397.1, bt397.2.1, bt397.2.2.1, bt397.2.2.2.1, (⟨bt397.2.2.2.2.1, bt397.2.2.2.2.2.1, bt397.2.2.2.2.2.2.1, bt397.2.2.2.2.2.2.2⟩ : S30)⟩ : S85)] : List (S85)) : List (S85))).bind fun y405 => (if y405.length + t394.length < 2199023255552 then (some (y405 ++ t394)) else (none))))))
def impl_StepsFlush.f (k : Nat) (l0_0 : List (S65)) (l0_1 : List Int) (a1 : Int) : Option ((List (S85))) := (impl_StoreOk.f l0_0 l0_1).bind fun t386 => (if t386 = true then ((impl_FindLast.f l0_0 a1).bind fun bt387 => (if bt387.2.2.2.2 = true then ((impl_Rec_isDirty.f bt387.1 bt387.2.1 bt387.2.2.1 bt387.2.2.2.1).bind fun t393 => (impl_StepsFlush.j0 k a1 (!t393) l0_0 l0_1 bt387.1 bt387.2.1 bt387.2.2.1 bt387.2.2.2.1)) else (impl_StepsFlush.j0 k a1 true l0_0 l0_1 bt387.1 bt387.2.1 bt387.2.2.1 bt387.2.2.2.1))) else (some ([] : List (S85))))
theorem impl_StepsFlush.mono_l : ∀ k, (∀ y0 y1 y2 y3 y4 y5 y6 y7, LeO (impl_StepsFlush.j0 k y0 y1 y2 y3 y4 y5 y6 y7) (impl_StepsFlush.j0 (k + 1) y0 y1 y2 y3 y4 y5 y6 y7))
 | 0 => fun _ _ _ _ _ _ _ _ r h => by simp [impl_StepsFlush.j0] at h
 | k + 1 => by
  have ih0 := impl_StepsFlush.mono_l k
  · intro y0 y1 y2 y3 y4 y5 y6 y7
    unfold impl_StepsFlush.j0
    repeat' first
    | (with_reducible exact ih0 _ _ _ _ _ _ _ _)
    | (with_reducible exact impl_stepsWrite.mono _ _ _ _ _)
    | (with_reducible exact LeO.refl _)
    | (with_reducible exact LeO.none _)
    | (with_reducible refine LeO.ite ?_ ?_)
    | (with_reducible refine LeO.bind ?_ (fun _ => ?_))
    | exact ih0 _ _ _ _ _ _ _ _
    | exact impl_stepsWrite.mono _ _ _ _ _
    | exact LeO.none _
    | refine LeO.ite ?_ ?_
    | refine LeO.bind ?_ (fun _ => ?_)
theorem impl_StepsFlush.mono : ∀ a0 a1 a2 k, LeO (impl_StepsFlush.f k a0 a1 a2) (impl_StepsFlush.f (k + 1) a0 a1 a2) := by
 intro a0 a1 a2 k
 have ih0 := impl_StepsFlush.mono_l k
 unfold impl_StepsFlush.f
 repeat' first
  | (with_reducible exact ih0 _ _ _ _ _ _ _ _)
  | (with_reducible exact impl_stepsWrite.mono _ _ _ _ _)
  | (with_reducible exact LeO.refl _)
  | (with_reducible exact LeO.none _)
  | (with_reducible refine LeO.ite ?_ ?_)
  | (with_reducible refine LeO.bind ?_ (fun _ => ?_))
  | exact ih0 _ _ _ _ _ _ _ _
  | exact impl_stepsWrite.mono _ _ _ _ _
  | exact LeO.none _
  | refine LeO.ite ?_ ?_
  | refine LeO.bind ?_ (fun _ => ?_)
set_option maxHeartbeats 8000000 in
set_option maxRecDepth 100000 in
theorem impl_StepsFlush.calls (k : Nat) (A0_0 : Option Addr) (c0_0 : Nat) (l0_0 : List (S65)) (A0_1 : Option Addr) (c0_1 : Nat) (l0_1 : List Int) (a1 : Int) (r : List (S85)) (w : World) (hr0_0 : Kd.C k65 w A0_0 l0_0.length l0_0) (hc0_0 : l0_0.length ≤ c0_0) (hr0_1 : Kd.C (Kd.int .i64) w A0_1 l0_1.length l0_1) (hc0_1 : l0_1.length ≤ c0_1) (h : impl_StepsFlush.f k l0_0 l0_1 a1 = some r) :
 Calls Try.prog 36 #[.agg #[.slice A0_0 l0_0.length c0_0, .slice A0_1 l0_1.length c0_1], .int .i64 a1] w fun e w' => ∃ v0_ : Value, e = .returned (v0_) ∧ Kd.R k85 85 w' w.heap.size (fun _ => True) v0_ r ∧ Below w.heap.size w w' := by
 have hu41 := Try.underlying41
 have hu30 := Try.underlying30
 have HR0_0 := am hr0_0
 have HC0_0 := am hc0_0
 clear hr0_0 hc0_0
 have HR0_1 := am hr0_1
 have HC0_1 := am hc0_1
 clear hr0_1 hc0_1
 have HB := am (Below.refl w.heap.size w)
 have H : ((impl_StoreOk.f l0_0 l0_1).bind fun t386 => (if t386 = true then ((impl_FindLast.f l0_0 a1).bind fun bt387 => (if bt387.2.2.2.2 = true then ((impl_Rec_isDirty.f bt387.1 bt387.2.1 bt387.2.2.1 bt387.2.2.2.1).bind fun t393 => (impl_StepsFlush.j0 k a1 (!t393) l0_0 l0_1 bt387.1 bt387.2.1 bt387.2.2.1 bt387.2.2.2.1)) else (impl_StepsFlush.j0 k a1 true l0_0 l0_1 bt387.1 bt387.2.1 bt387.2.2.1 bt387.2.2.2.1))) else (some ([] : List (S85))))) = some r := h
 clear h
 replace H := Option.bind_eq_some_iff.mp H
 obtain ⟨t386, A30, H⟩ := H
 replace H : (if t386 = true then ((impl_FindLast.f l0_0 a1).bind fun bt387 => (if bt387.2.2.2.2 = true then ((impl_Rec_isDirty.f bt387.1 bt387.2.1 bt387.2.2.1 bt387.2.2.2.1).bind fun t393 => (impl_StepsFlush.j0 k a1 (!t393) l0_0 l0_1 bt387.1 bt387.2.1 bt387.2.2.1 bt387.2.2.2.1)) else (impl_StepsFlush.j0 k a1 true l0_0 l0_1 bt387.1 bt387.2.1 bt387.2.2.1 bt387.2.2.2.1))) else (some ([] : List (S85)))) = some r := H
 have A3 := am A30
 clear A30
 by_cases c4 : t386 = true
 rotate_left
 · replace c4 := Bool.eq_false_iff.mpr c4
   subst c4
   have H1 : (some ([] : List (S85))) = some r := by rw [if_neg (show ¬ (false = true) by decide)] at H; exact H
   clear H
   have H := H1
   clear H1
   obtain rfl := Option.some.inj H
   go_enter Try.func36, Try.ntmps36
   go_wp2_with (first | (refine bx 2 #[.slice A0_0 l0_0.length c0_0, .slice A0_1 l0_1.length c0_1] 41 rfl ?_; intro gb385 hg w40 hbox hb; have BK385 := am (hbox); have GW385 := am ((by rw [hg]; exact (below_size (ph HB.out)) : w.heap.size ≤ gb385)); have GE385 := GW385; replace HB := am (below_step (ph HB.out) hb); clear hb hbox hg; obtain ⟨hcz41_0, hcz41_1⟩ := b2 BK385.out; obtain ⟨hfz41_0, hfz41_1⟩ := f2 BK385.out) | (refine gl 9 Try.func57 #[.agg #[.slice A0_0 l0_0.length c0_0, .slice A0_1 l0_1.length c0_1]] rfl ?_; (with_reducible refine (impl_StoreOk.calls _ _ l0_0 _ _ l0_1 false _ ?side1 ?side2 ?side3 ?side4 A3.out).mono ?_); (case side1 => exact pc (Kd.C_below HR0_0.out HB.out)); (case side2 => exact HC0_0.out); (case side3 => exact pc (Kd.C_below HR0_1.out HB.out)); (case side4 => exact HC0_1.out); rintro e w42 ⟨rfl, hb⟩; refine ⟨_, rfl, ?_⟩; replace BK385 := am (blk_below (pb BK385.out) hb); replace HB := am (below_step (bg1 HB.out GE385.out) hb); (try clear hb); (try clear hb2); (try clear hk); (try clear hi)))
   go_ret
   exact ⟨_, rq ⟨by first | exact Kd.R_nil _ _ _ _ _ | exact Kd.N_nil _ _ _ _ _ | exact Kd.V_nil _ _ _ _ _ | exact Kd.Q_nil _ _ _ _ _ | exact Kd.S_nil _ _ _ _ _, bg1 HB.out GE385.out⟩⟩
 subst c4
 have H1 : ((impl_FindLast.f l0_0 a1).bind fun bt387 => (if bt387.2.2.2.2 = true then ((impl_Rec_isDirty.f bt387.1 bt387.2.1 bt387.2.2.1 bt387.2.2.2.1).bind fun t393 => (impl_StepsFlush.j0 k a1 (!t393) l0_0 l0_1 bt387.1 bt387.2.1 bt387.2.2.1 bt387.2.2.2.1)) else (impl_StepsFlush.j0 k a1 true l0_0 l0_1 bt387.1 bt387.2.1 bt387.2.2.1 bt387.2.2.2.1))) = some r := by rw [if_pos rfl] at H; exact H
 clear H
 have H := H1
 clear H1
 replace H := Option.bind_eq_some_iff.mp H
 obtain ⟨⟨t387, t388, t389, t390, t391⟩, A50, H⟩ := H
 replace H : (if t391 = true then ((impl_Rec_isDirty.f t387 t388 t389 t390).bind fun t393 => (impl_StepsFlush.j0 k a1 (!t393) l0_0 l0_1 t387 t388 t389 t390)) else (impl_StepsFlush.j0 k a1 true l0_0 l0_1 t387 t388 t389 t390)) = some r := H
 have A5 := am A50
 clear A50
 have HC6 := am H
 clear H
 go_enter Try.func36, Try.ntmps36
 go_upto_region 4 with (first | (refine bx 2 #[.slice A0_0 l0_0.length c0_0, .slice A0_1 l0_1.length c0_1] 41 rfl ?_; intro gb385 hg w7 hbox hb; have BK385 := am (hbox); have GW385 := am ((by rw [hg]; exact (below_size (ph HB.out)) : w.heap.size ≤ gb385)); have GE385 := GW385; replace HB := am (below_step (ph HB.out) hb); clear hb hbox hg; obtain ⟨hcz8_0, hcz8_1⟩ := b2 BK385.out; obtain ⟨hfz8_0, hfz8_1⟩ := f2 BK385.out) | (refine gl 9 Try.func57 #[.agg #[.slice A0_0 l0_0.length c0_0, .slice A0_1 l0_1.length c0_1]] rfl ?_; (with_reducible refine (impl_StoreOk.calls _ _ l0_0 _ _ l0_1 true _ ?side1 ?side2 ?side3 ?side4 A3.out).mono ?_); (case side1 => exact pc (Kd.C_below HR0_0.out HB.out)); (case side2 => exact HC0_0.out); (case side3 => exact pc (Kd.C_below HR0_1.out HB.out)); (case side4 => exact HC0_1.out); rintro e w9 ⟨rfl, hb⟩; refine ⟨_, rfl, ?_⟩; replace BK385 := am (blk_below (pb BK385.out) hb); replace HB := am (below_step (bg1 HB.out GE385.out) hb); (try clear hb); (try clear hb2); (try clear hk); (try clear hi); obtain ⟨hcz10_0, hcz10_1⟩ := b2 BK385.out; obtain ⟨hfz10_0, hfz10_1⟩ := f2 BK385.out) | (refine gl 15 Try.func66 #[.slice A0_0 l0_0.length c0_0, .int .i64 a1] rfl ?_; (with_reducible refine (impl_FindLast.calls _ _ l0_0 a1 t387 t388 t389 t390 t391 _ ?side1 ?side2 A5.out).mono ?_); (case side1 => exact pc (Kd.C_below HR0_0.out HB.out)); (case side2 => exact HC0_0.out); rintro e w11 ⟨rfl, hb⟩; refine ⟨_, rfl, ?_⟩; replace BK385 := am (blk_below (pb BK385.out) hb); replace HB := am (below_step (bg1 HB.out GE385.out) hb); (try clear hb); (try clear hb2); (try clear hk); (try clear hi)) | (refine bx 5 #[.int .i64 0, .int .i64 0, .int .i64 0, .int .i64 0] 30 rfl ?_; intro gb392 hg w12 hbox hb; have BK392 := am (hbox); have GW392 := am ((by rw [hg]; exact (below_size (bg1 HB.out GE385.out)) : w.heap.size ≤ gb392)); have GE392 := GW392; replace HB := am (below_step (bg1 HB.out GE385.out) hb); have NB385_392 := am ((by rw [hg]; exact Nat.ne_of_lt (blk_lt (pb BK385.out)) : gb385 ≠ gb392)); have NB392_385 := am (Ne.symm NB385_392.out); replace BK385 := am (blk_below (pb BK385.out) hb); clear hb hbox hg; have hnb13 := NB392_385.out; have hnc13 := NB385_392.out; obtain ⟨hcz14_0, hcz14_1, hcz14_2, hcz14_3⟩ := b4 BK392.out; obtain ⟨hfz14_0, hfz14_1, hfz14_2, hfz14_3⟩ := f4 BK392.out))
 (try simp only [Act.put, List.setIfInBounds_toArray, List.set_cons_zero, List.set_cons_succ])
 go_cut [24] (fun v24 wc => ∃ (kq : Nat) (x24_5 : Bool), v24 = .bool x24_5 ∧ Aside0 (impl_StepsFlush.j0 kq a1 x24_5 l0_0 l0_1 t387 t388 t389 t390 = some r) ∧ Aside0 (kq ≤ k) ∧ Aside0 (wc.heap[gb385]? = some (.cells #[(.slice A0_0 l0_0.length c0_0), (.slice A0_1 l0_1.length c0_1)] 41 (0, 0))) ∧ Aside0 (wc.heap[gb392]? = some (.cells #[.int .i64 t387, .int .i64 t388, .int .i64 t389, .int .i64 t390] 30 (0, 0))) ∧ Aside0 (Below w.heap.size w wc))
 case first =>
  have H := HC6.out
  clear HC6
  by_cases c15 : t391 = true
  rotate_left
  · replace c15 := Bool.eq_false_iff.mpr c15
    subst c15
    have H1 : (impl_StepsFlush.j0 k a1 true l0_0 l0_1 t387 t388 t389 t390) = some r := by rw [if_neg (show ¬ (false = true) by decide)] at H; exact H
    clear H
    have H := H1
    clear H1
    have H' := am H
    clear H
    go_wp2
    go_meet
    case rel => exact ⟨_, (true), rf, H', ⟨by first | omega | exact Nat.le_refl _⟩, ⟨by (with_reducible repeat (first | refine blk_drewN ?_ _ | refine blk_drew ?_ | refine blk_alloc ?_ _)); refine blk_far ?_ NB385_392.out _; (with_reducible repeat (first | refine blk_drewN ?_ _ | refine blk_drew ?_ | refine blk_alloc ?_ _)); refine blk_far ?_ NB385_392.out _; (with_reducible repeat (first | refine blk_drewN ?_ _ | refine blk_drew ?_ | refine blk_alloc ?_ _)); refine blk_far ?_ NB385_392.out _; (with_reducible repeat (first | refine blk_drewN ?_ _ | refine blk_drew ?_ | refine blk_alloc ?_ _)); refine blk_far ?_ NB385_392.out _; (with_reducible repeat (first | refine blk_drewN ?_ _ | refine blk_drew ?_ | refine blk_alloc ?_ _)); exact BK385.out⟩, ⟨by (with_reducible repeat (first | refine blk_drewN ?_ _ | refine blk_drew ?_ | refine blk_alloc ?_ _)); refine blk_put (cs := #[.int .i64 t387, .int .i64 t388, .int .i64 t389, .int .i64 0]) ?_ 3 _ rfl; (with_reducible repeat (first | refine blk_drewN ?_ _ | refine blk_drew ?_ | refine blk_alloc ?_ _)); refine blk_put (cs := #[.int .i64 t387, .int .i64 t388, .int .i64 0, .int .i64 0]) ?_ 2 _ rfl; (with_reducible repeat (first | refine blk_drewN ?_ _ | refine blk_drew ?_ | refine blk_alloc ?_ _)); refine blk_put (cs := #[.int .i64 t387, .int .i64 0, .int .i64 0, .int .i64 0]) ?_ 1 _ rfl; (with_reducible repeat (first | refine blk_drewN ?_ _ | refine blk_drew ?_ | refine blk_alloc ?_ _)); refine blk_put (cs := #[.int .i64 0, .int .i64 0, .int .i64 0, .int .i64 0]) ?_ 0 _ rfl; (with_reducible repeat (first | refine blk_drewN ?_ _ | refine blk_drew ?_ | refine blk_alloc ?_ _)); exact BK392.out⟩, ⟨bg2 HB.out GE385.out GE392.out⟩⟩
  subst c15
  have H1 : ((impl_Rec_isDirty.f t387 t388 t389 t390).bind fun t393 => (impl_StepsFlush.j0 k a1 (!t393) l0_0 l0_1 t387 t388 t389 t390)) = some r := by rw [if_pos rfl] at H; exact H
  clear H
  have H := H1
  clear H1
  replace H := Option.bind_eq_some_iff.mp H
  obtain ⟨t393, A160, H⟩ := H
  replace H : (impl_StepsFlush.j0 k a1 (!t393) l0_0 l0_1 t387 t388 t389 t390) = some r := H
  have A16 := am A160
  clear A160
  have H' := am H
  clear H
  have hnb17 := NB392_385.out
  have hnc17 := NB385_392.out
  obtain ⟨hcz18_0, hcz18_1, hcz18_2, hcz18_3⟩ := b4 BK392.out
  obtain ⟨hfz18_0, hfz18_1, hfz18_2, hfz18_3⟩ := f4 BK392.out
  go_wp2_with (first | (go_at_call 59; (with_reducible refine (impl_Rec_isDirty.calls t387 t388 t389 t390 t393 _ A16.out).mono ?_); rintro e w19 ⟨rfl, hb⟩; replace BK385 := am (blk_below (g := gb385) (o := .cells #[.slice A0_0 l0_0.length c0_0, .slice A0_1 l0_1.length c0_1] 41 (0, 0)) (by (with_reducible repeat (first | refine blk_drewN ?_ _ | refine blk_drew ?_ | refine blk_alloc ?_ _)); refine blk_far ?_ NB385_392.out _; (with_reducible repeat (first | refine blk_drewN ?_ _ | refine blk_drew ?_ | refine blk_alloc ?_ _)); refine blk_far ?_ NB385_392.out _; (with_reducible repeat (first | refine blk_drewN ?_ _ | refine blk_drew ?_ | refine blk_alloc ?_ _)); refine blk_far ?_ NB385_392.out _; (with_reducible repeat (first | refine blk_drewN ?_ _ | refine blk_drew ?_ | refine blk_alloc ?_ _)); refine blk_far ?_ NB385_392.out _; (with_reducible repeat (first | refine blk_drewN ?_ _ | refine blk_drew ?_ | refine blk_alloc ?_ _)); exact BK385.out) hb); replace BK392 := am (blk_below (g := gb392) (o := .cells #[.int .i64 t387, .int .i64 t388, .int .i64 t389, .int .i64 t390] 30 (0, 0)) (by (with_reducible repeat (first | refine blk_drewN ?_ _ | refine blk_drew ?_ | refine blk_alloc ?_ _)); refine blk_put (cs := #[.int .i64 t387, .int .i64 t388, .int .i64 t389, .int .i64 0]) ?_ 3 _ rfl; (with_reducible repeat (first | refine blk_drewN ?_ _ | refine blk_drew ?_ | refine blk_alloc ?_ _)); refine blk_put (cs := #[.int .i64 t387, .int .i64 t388, .int .i64 0, .int .i64 0]) ?_ 2 _ rfl; (with_reducible repeat (first | refine blk_drewN ?_ _ | refine blk_drew ?_ | refine blk_alloc ?_ _)); refine blk_put (cs := #[.int .i64 t387, .int .i64 0, .int .i64 0, .int .i64 0]) ?_ 1 _ rfl; (with_reducible repeat (first | refine blk_drewN ?_ _ | refine blk_drew ?_ | refine blk_alloc ?_ _)); refine blk_put (cs := #[.int .i64 0, .int .i64 0, .int .i64 0, .int .i64 0]) ?_ 0 _ rfl; (with_reducible repeat (first | refine blk_drewN ?_ _ | refine blk_drew ?_ | refine blk_alloc ?_ _)); exact BK392.out) hb); replace HB := am (below_step (bg2 HB.out GE385.out GE392.out) hb); (try clear hb); (try clear hb2); (try clear hk); (try clear hi)))
  go_meet
  case rel => exact ⟨_, (!t393), rf, H', ⟨by first | omega | exact Nat.le_refl _⟩, ⟨pb BK385.out⟩, ⟨pb BK392.out⟩, ⟨bg2 HB.out GE385.out GE392.out⟩⟩
 case rest =>
  clear HC6
  obtain ⟨kq, x24_5, rfl, HA, HJ5, BK385, BK392, HB⟩ := hcut
  cases kq with
  | zero => exact absurd HA.out (by simp [impl_StepsFlush.j0])
  | succ kj5 =>
   have H := HA.out
   clear HA
   simp only [impl_StepsFlush.j0] at H
   by_cases c20 : x24_5 = true
   · subst c20
     have H1 : (some ([] : List (S85))) = some r := by rw [if_pos rfl] at H; exact H
     clear H
     have H := H1
     clear H1
     obtain rfl := Option.some.inj H
     go_wp2
     go_ret
     exact ⟨_, rq ⟨by first | exact Kd.R_nil _ _ _ _ _ | exact Kd.N_nil _ _ _ _ _ | exact Kd.V_nil _ _ _ _ _ | exact Kd.Q_nil _ _ _ _ _ | exact Kd.S_nil _ _ _ _ _, bg2 HB.out GE385.out GE392.out⟩⟩
   replace c20 := Bool.eq_false_iff.mpr c20
   subst c20
   have H1 : ((impl_stepsWrite.f kj5 l0_0 2 a1 t390).bind fun t394 => (if (t394.length : Int) = 0 then (some ([] : List (S85))) else ((impl_diskStep.f t387 t388 t389 t390).bind fun bt397 => ((some (([(⟨bt397.1, bt397.2.1, bt397.2.2.1, bt397.2.2.2.1, (⟨bt397.2.2.2.2.1, bt397.2.2.2.2.2.1, bt397.2.2.2.2.2.2.1, bt397.2.2.2.2.2.2.2⟩ : S30)⟩ : S85)] : List (S85)) : List (S85))).bind fun y405 => (if y405.length + t394.length < 2199023255552 then (some (y405 ++ t394)) else (none)))))) = some r := by rw [if_neg (show ¬ (false = true) by decide)] at H; exact H
   clear H
   have H := H1
   clear H1
   replace H := Option.bind_eq_some_iff.mp H
   obtain ⟨t394, A210, H⟩ := H
   replace H : (if (t394.length : Int) = 0 then (some ([] : List (S85))) else ((impl_diskStep.f t387 t388 t389 t390).bind fun bt397 => ((some (([(⟨bt397.1, bt397.2.1, bt397.2.2.1, bt397.2.2.2.1, (⟨bt397.2.2.2.2.1, bt397.2.2.2.2.2.1, bt397.2.2.2.2.2.2.1, bt397.2.2.2.2.2.2.2⟩ : S30)⟩ : S85)] : List (S85)) : List (S85))).bind fun y405 => (if y405.length + t394.length < 2199023255552 then (some (y405 ++ t394)) else (none))))) = some r := H
   have A21 := am A210
   clear A210
   by_cases c22 : (t394.length : Int) = 0
   · rw [if_pos c22] at H
     have c22b0 : ((t394.length : Int) == 0) = true := beq_iff_eq.mpr c22
     have c22b1 : ((t394.length : Int) != 0) = false := bne_eq_false_iff_eq.mpr c22
     clear c22
     obtain rfl := Option.some.inj H
     have hnb23 := NB385_392.out
     have hnc23 := NB392_385.out
     obtain ⟨hcz24_0, hcz24_1⟩ := b2 BK385.out
     obtain ⟨hfz24_0, hfz24_1⟩ := f2 BK385.out
     obtain ⟨hcz25_0, hcz25_1, hcz25_2, hcz25_3⟩ := b4 BK392.out
     obtain ⟨hfz25_0, hfz25_1, hfz25_2, hfz25_3⟩ := f4 BK392.out
     go_wp2_with (first | (refine gl 30 Try.func62 #[.slice A0_0 l0_0.length c0_0, .int .i64 2, .int .i64 a1, .int .i64 t390] rfl ?_; (with_reducible refine (impl_stepsWrite.calls kj5 _ _ l0_0 2 a1 t390 t394 _ ?side1 ?side2 A21.out).mono ?_); (case side1 => exact pc (Kd.C_below HR0_0.out HB.out)); (case side2 => exact HC0_0.out); rintro e w26 ⟨v395, rfl, ho0, hb⟩; refine ⟨_, rfl, ?_⟩; have HO396 := am (Kd.R_lower ho0 (below_size (bg2 HB.out GE385.out GE392.out))); replace BK385 := am (blk_below (pb BK385.out) hb); replace BK392 := am (blk_below (pb BK392.out) hb); replace HB := am (below_step (bg2 HB.out GE385.out GE392.out) hb); (try clear hb); (try clear hb2); (try clear hk); (try clear hi); (try clear ho0); obtain ⟨Ao27, co27, eo27⟩ := Kd.R_slice HO396.out; subst eo27))
     go_ret
     exact ⟨_, rq ⟨by first | exact Kd.R_nil _ _ _ _ _ | exact Kd.N_nil _ _ _ _ _ | exact Kd.V_nil _ _ _ _ _ | exact Kd.Q_nil _ _ _ _ _ | exact Kd.S_nil _ _ _ _ _, bg2 HB.out GE385.out GE392.out⟩⟩
   rw [if_neg c22] at H
   have c22b0 : ((t394.length : Int) == 0) = false := beq_eq_false_iff_ne.mpr c22
   have c22b1 : ((t394.length : Int) != 0) = true := bne_iff_ne.mpr c22
   have c22b2 : ¬ (t394 = []) := fun h_ => c22 (by rw [h_]; rfl)
   replace H := Option.bind_eq_some_iff.mp H
   obtain ⟨⟨t397, t398, t399, t400, t401, t402, t403, t404⟩, A280, H⟩ := H
   replace H : ((some (([(⟨t397, t398, t399, t400, (⟨t401, t402, t403, t404⟩ : S30)⟩ : S85)] : List (S85)) : List (S85))).bind fun y405 => (if y405.length + t394.length < 2199023255552 then (some (y405 ++ t394)) else (none))) = some r := H
   have A28 := am A280
   clear A280
   obtain ⟨y405, hy405⟩ : ∃ y_ : List (S85), y_ = (([(⟨t397, t398, t399, t400, (⟨t401, t402, t403, t404⟩ : S30)⟩ : S85)] : List (S85))) := ⟨_, rfl⟩
   replace H : (if y405.length + t394.length < 2199023255552 then (some (y405 ++ t394)) else (none)) = some r := by first | (rw [hy405]; with_reducible exact H) | (have H2_ := (Option.bind_some _ _).symm.trans H; rw [hy405]; with_reducible exact H2_) | (have H2_ := (Option.bind_some _ _).symm.trans H; with_reducible exact H2_) | with_reducible exact H | (rw [hy405]; exact H) | exact H
   have Ny405 := am hy405
   clear hy405
   by_cases c29 : y405.length + t394.length < 2199023255552
   rotate_left
   · rw [if_neg c29] at H
     exact absurd H (by simp)
   rw [if_pos c29] at H
   have LMc29 := am c29
   clear c29
   obtain ⟨y408, hy408⟩ : ∃ y_ : List (S85), y_ = (y405 ++ t394) := ⟨_, rfl⟩
   replace H : (some y408) = some r := by first | (rw [hy408]; with_reducible exact H) | (have H2_ := (Option.bind_some _ _).symm.trans H; rw [hy408]; with_reducible exact H2_) | (have H2_ := (Option.bind_some _ _).symm.trans H; with_reducible exact H2_) | with_reducible exact H | (rw [hy408]; exact H) | exact H
   have Ny408 := am hy408
   clear hy408
   obtain rfl := Option.some.inj H
   have hnb30 := NB385_392.out
   have hnc30 := NB392_385.out
   obtain ⟨hcz31_0, hcz31_1⟩ := b2 BK385.out
   obtain ⟨hfz31_0, hfz31_1⟩ := f2 BK385.out
   obtain ⟨hcz32_0, hcz32_1, hcz32_2, hcz32_3⟩ := b4 BK392.out
   obtain ⟨hfz32_0, hfz32_1, hfz32_2, hfz32_3⟩ := f4 BK392.out
   go_wp2_with (first | (refine gl 30 Try.func62 #[.slice A0_0 l0_0.length c0_0, .int .i64 2, .int .i64 a1, .int .i64 t390] rfl ?_; (with_reducible refine (impl_stepsWrite.calls kj5 _ _ l0_0 2 a1 t390 t394 _ ?side1 ?side2 A21.out).mono ?_); (case side1 => exact pc (Kd.C_below HR0_0.out HB.out)); (case side2 => exact HC0_0.out); rintro e w33 ⟨v395, rfl, ho0, hb⟩; refine ⟨_, rfl, ?_⟩; have HO396 := am (Kd.R_lower ho0 (below_size (bg2 HB.out GE385.out GE392.out))); replace BK385 := am (blk_below (pb BK385.out) hb); replace BK392 := am (blk_below (pb BK392.out) hb); replace HB := am (below_step (bg2 HB.out GE385.out GE392.out) hb); (try clear hb); (try clear hb2); (try clear hk); (try clear hi); (try clear ho0); obtain ⟨Ao34, co34, eo34⟩ := Kd.R_slice HO396.out; subst eo34; obtain ⟨hcz35_0, hcz35_1, hcz35_2, hcz35_3⟩ := b4 BK392.out; obtain ⟨hfz35_0, hfz35_1, hfz35_2, hfz35_3⟩ := f4 BK392.out) | (refine gl 35 Try.func68 #[.agg #[.int .i64 t387, .int .i64 t388, .int .i64 t389, .int .i64 t390]] rfl ?_; (with_reducible refine (impl_diskStep.calls t387 t388 t389 t390 t397 t398 t399 t400 t401 t402 t403 t404 _ A28.out).mono ?_); rintro e w36 ⟨rfl, hb⟩; refine ⟨_, rfl, ?_⟩; replace HO396 := am (Kd.R_below (pr HO396.out) hb); replace BK385 := am (blk_below (pb BK385.out) hb); replace BK392 := am (blk_below (pb BK392.out) hb); replace HB := am (below_step (bg2 HB.out GE385.out GE392.out) hb); (try clear hb); (try clear hb2); (try clear hk); (try clear hi)) | ((with_reducible refine gate_dst (N := 36) rfl ?_); refine Kd.R_lit k85 _ 85 ?hg (N := 36) ?hd (xs := ([(⟨t397, t398, t399, t400, (⟨t401, t402, t403, t404⟩ : S30)⟩ : S85)] : List (S85))) (inner := [.int .i64 t397, .int .i64 t398, .int .i64 t399, .int .i64 t400, .int .i64 t401, .int .i64 t402, .int .i64 t403, .int .i64 t404]) (ok := fun _ => True) (okp := fun _ => True) ?hr ?hp (fun _ hk => hk) trivial (Below.refl _ _) (Nat.le_refl _) (by simp) ?_; (case hd => rfl); (case hg => rfl); (case hr => first | (go_simp; done) | (go_simp; rfl)); (case hp => exact (Reps.c8 (show Kd.M k85 _ _ _ (⟨t397, t398, t399, t400, (⟨t401, t402, t403, t404⟩ : S30)⟩ : S85) [.int .i64 t397, .int .i64 t398, .int .i64 t399, .int .i64 t400, .int .i64 t401, .int .i64 t402, .int .i64 t403, .int .i64 t404] from (k85_mkM _ _ _ (⟨t397, t398, t399, t400, (⟨t401, t402, t403, t404⟩ : S30)⟩ : S85) )) (Reps.none _ _))); intro v406 w37 ho38 hb hg_ hnew_; clear hg_ hnew_; (first | rw [← Ny405.out] at ho38 | (simp only [Int.reduceToNat] at ho38; rw [← Ny405.out] at ho38)); have HO407 := am (Kd.R_lower (Kd.R_new' ho38 (Kd.R_lt (pr HO396.out))) (below_size (bg2 HB.out GE385.out GE392.out))); replace HO396 := am (Kd.R_elder' (pr HO396.out) (Kd.R_base ho38) hb); replace BK385 := am (blk_below (pb BK385.out) hb); replace BK392 := am (blk_below (pb BK392.out) hb); replace HB := am (below_step (bg2 HB.out GE385.out GE392.out) hb); clear hb ho38) | ((with_reducible refine gate_builtin (b := .append) (xs := #[.tmp 36, .tmp 37]) rfl ?_); at_builtin; refine Kd.R_append_rows k85 (w0 := w) w.heap.size rfl (.tmp 36) (.tmp 37) 48 85 (.agg #[(.int .i64 0), (.int .i64 0), (.int .i64 0), (.int .i64 0), (.int .i64 0), (.int .i64 0), (.int .i64 0), (.int .i64 0)]) 64 rfl Try.underlying48 info85 rfl (by decide) (by omega) v406 y405 t394 _ _ _ (fun k_ => some k_ ≠ (.slice Ao34 t394.length co34 : Value).ownBlock) (fun _ => False) rfl rfl ?aO ?aR (fun _ _ h => h) (fun _ h => h.elim) ?aF ?aB ?aS ?aL ?_; (case aR => repeat (first | exact (Kd.R_reads' HO396.out).2.2 | (with_reducible refine Kd.C_alloc ?_ _) | (with_reducible refine Kd.C_drewN ?_ _) | (with_reducible refine Kd.C_drew ?_))); (case aB => exact (bg2 HB.out GE385.out GE392.out)); (case aF => exact (fun k_ hk => Kd.fresh' (Kd.R_lt (pr HO396.out)) k_ hk)); (case aO => exact (by (with_reducible repeat (first | apply Kd.R_alloc | apply Kd.R_drewN | apply Kd.R_drew)); exact Kd.R_mono HO407.out (fun _ hk => hk.2))); (case aS => exact (below_size (bg2 HB.out GE385.out GE392.out))); (case aL => have := LMc29.out; omega); intro v409 w39 ho hb hg hat; rw [← Ny408.out] at ho; replace BK385 := am (blk_grown (g := gb385) (o := .cells #[.slice A0_0 l0_0.length c0_0, .slice A0_1 l0_1.length c0_1] 41 (0, 0)) (pb BK385.out) hg (Kd.R_ne HO407.out BK385.out (by decide))); replace BK392 := am (blk_grown (g := gb392) (o := .cells #[.int .i64 t387, .int .i64 t388, .int .i64 t389, .int .i64 t390] 30 (0, 0)) (pb BK392.out) hg (Kd.R_ne HO407.out BK392.out (by decide))); replace HO396 := am (Kd.R_after (ok := (fun _ => True)) (pr HO396.out) hg hat); replace HB := am (hb); have HO410 := am (ho); clear HO407; clear ho hb hg hat))
   go_ret
   exact ⟨_, rq ⟨by (with_reducible repeat (first | apply Kd.R_alloc | apply Kd.R_drewN | apply Kd.R_drew)); exact Kd.R_mono HO410.out (fun _ hk => trivial), bg2 HB.out GE385.out GE392.out⟩⟩
def laws_FnExactStepsFlush.f (k : Nat) (_l0 : List S58) (_l1 : List Int) (_a0 : Int) : Option Bool := some true
end Go.Proofs.Ytoedphbikgoapaa.Re
