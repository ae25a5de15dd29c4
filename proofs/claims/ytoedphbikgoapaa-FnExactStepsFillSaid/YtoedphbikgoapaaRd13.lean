-- printed by wip/pp/pp.py
import Derived.Test.YtoedphbikgoapaaRd0
import Derived.Test.YtoedphbikgoapaaRd9
import Derived.Test.YtoedphbikgoapaaRd11
import Derived.Test.YtoedphbikgoapaaRd12
namespace Go.Proofs.Ytoedphbikgoapaa.Rd
open Go.RowKit Go.Proofs.YtoedphbikgoapaaW.PrintWords Go.Proofs.YtoedphbikgoapaaW.PrintLast Go.Proofs.YtoedphbikgoapaaW.PrintMore
attribute [local go_sem] max2_int min2_int max_two min_two max_three min_three max_four min_four
set_option linter.unusedVariables false
set_option linter.unusedSimpArgs false
def impl_stepsWrite.l0 : Nat → List (S65) → Int → List (S85) → List (S71) → Int → Int → Int → Int → Int → Int → Option ((List (S85)))
 | 0, _, _, _, _, _, _, _, _, _, _ => none
 | k + 1, x0, x12, x13, x47, x48, x49, x342000, x342001, x342002, x342003 => if x49 < x48 then (if 0 ≤ x49 then (if x49 < (x47.length : Int) then ((impl_Rec_isDirty.f ((rd_T71 x47 x49).f1.f0) ((rd_T71 x47 x49).f1.f1) ((rd_T71 x47 x49).f1.f2) ((rd_T71 x47 x49).f1.f3)).bind fun t359 => (if t359 = true then ((impl_FindLive.f k x0 x12 x49).bind fun t360 => (if t360 = true then ((impl_diskStep.f ((rd_T71 x47 x49).f1.f0) ((rd_T71 x47 x49).f1.f1) ((rd_T71 x47 x49).f1.f2) ((rd_T71 x47 x49).f1.f3)).bind fun bt361 => (if x13.length < 2199023255552 then (impl_stepsWrite.l0 k x0 x12 (x13 ++ [(⟨bt361.1, bt361.2.1, bt361.2.2.1, bt361.2.2.2.1, (⟨bt361.2.2.2.2.1, bt361.2.2.2.2.2.1, bt361.2.2.2.2.2.2.1, bt361.2.2.2.2.2.2.2⟩ : S30)⟩ : S85)]) x47 x48 (wrap64 (x49 + 1)) x342000 x342001 x342002 x342003) else (none))) else (impl_stepsWrite.l0 k x0 x12 x13 x47 x48 (wrap64 (x49 + 1)) x342000 x342001 x342002 x342003))) else (impl_stepsWrite.l0 k x0 x12 x13 x47 x48 (wrap64 (x49 + 1)) x342000 x342001 x342002 x342003))) else (none)) else (none)) else (if x13.length < 2199023255552 then ((some (x13 ++ [(⟨2, 0, 0, x12, (⟨0, 0, 0, 0⟩ : S30)⟩ : S85)] : List (S85))).bind fun y351 => (if y351.length < 2199023255552 then (some (y351 ++ [(⟨3, 0, 0, x12, (⟨x342000, x342001, x342002, x342003⟩ : S30)⟩ : S85)])) else (none))) else (none))
def impl_stepsWrite.f (k : Nat) (l0 : List (S65)) (a1 : Int) (a2 : Int) (a3 : Int) : Option ((List (S85))) := (impl_FindNext.f l0).bind fun t340 => ((impl_RecOk.f a1 t340 a2 a3).bind fun t342 => (if t342 = true then ((impl_FindOpen.f k l0).bind fun bt343 => (if bt343.2 = true then (some (([(⟨3, 0, 0, bt343.1, (⟨a1, t340, a2, a3⟩ : S30)⟩ : S85)] : List (S85)))) else ((impl_FindOld.f l0).bind fun t348 => (if 0 ≤ t348 then (if t348 < (l0.length : Int) then (if ((rd_T65 l0 t348).f1) = 200 then (some ([] : List (S85))) else (impl_stepsWrite.l0 k l0 t348 ([] : List (S85)) ((rd_T65 l0 t348).f0) (((rd_T65 l0 t348).f0).length : Int) 0 a1 t340 a2 a3)) else (none)) else (none))))) else (some ([] : List (S85)))))
theorem impl_stepsWrite.mono_l : ∀ k, (∀ y0 y1 y2 y3 y4 y5 y6 y7 y8 y9, LeO (impl_stepsWrite.l0 k y0 y1 y2 y3 y4 y5 y6 y7 y8 y9) (impl_stepsWrite.l0 (k + 1) y0 y1 y2 y3 y4 y5 y6 y7 y8 y9))
 | 0 => fun _ _ _ _ _ _ _ _ _ _ r h => by simp [impl_stepsWrite.l0] at h
 | k + 1 => by
  have ih0 := impl_stepsWrite.mono_l k
  · intro y0 y1 y2 y3 y4 y5 y6 y7 y8 y9
    unfold impl_stepsWrite.l0
    repeat' first
    | (with_reducible exact ih0 _ _ _ _ _ _ _ _ _ _)
    | (with_reducible exact impl_FindLive.mono _ _ _ _)
    | (with_reducible exact impl_FindOpen.mono _ _)
    | (with_reducible exact LeO.refl _)
    | (with_reducible exact LeO.none _)
    | (with_reducible refine LeO.ite ?_ ?_)
    | (with_reducible refine LeO.bind ?_ (fun _ => ?_))
    | exact ih0 _ _ _ _ _ _ _ _ _ _
    | exact impl_FindLive.mono _ _ _ _
    | exact impl_FindOpen.mono _ _
    | exact LeO.none _
    | refine LeO.ite ?_ ?_
    | refine LeO.bind ?_ (fun _ => ?_)
theorem impl_stepsWrite.mono : ∀ a0 a1 a2 a3 k, LeO (impl_stepsWrite.f k a0 a1 a2 a3) (impl_stepsWrite.f (k + 1) a0 a1 a2 a3) := by
 intro a0 a1 a2 a3 k
 have ih0 := impl_stepsWrite.mono_l k
 unfold impl_stepsWrite.f
 repeat' first
  | (with_reducible exact ih0 _ _ _ _ _ _ _ _ _ _)
  | (with_reducible exact impl_FindLive.mono _ _ _ _)
  | (with_reducible exact impl_FindOpen.mono _ _)
  | (with_reducible exact LeO.refl _)
  | (with_reducible exact LeO.none _)
  | (with_reducible refine LeO.ite ?_ ?_)
  | (with_reducible refine LeO.bind ?_ (fun _ => ?_))
  | exact ih0 _ _ _ _ _ _ _ _ _ _
  | exact impl_FindLive.mono _ _ _ _
  | exact impl_FindOpen.mono _ _
  | exact LeO.none _
  | refine LeO.ite ?_ ?_
  | refine LeO.bind ?_ (fun _ => ?_)
set_option maxHeartbeats 8000000 in
set_option maxRecDepth 100000 in
theorem impl_stepsWrite.calls (k : Nat) (A0 : Option Addr) (c0 : Nat) (l0 : List (S65)) (a1 : Int) (a2 : Int) (a3 : Int) (r : List (S85)) (w : World) (hr0 : Kd.C k65 w A0 l0.length l0) (hc0 : l0.length ≤ c0) (h : impl_stepsWrite.f k l0 a1 a2 a3 = some r) :
 Calls Try.prog 62 #[.slice A0 l0.length c0, .int .i64 a1, .int .i64 a2, .int .i64 a3] w fun e w' => ∃ v0_ : Value, e = .returned (v0_) ∧ Kd.R k85 85 w' w.heap.size (fun _ => True) v0_ r ∧ Below w.heap.size w w' := by
 have hu30 := Try.underlying30
 have hu85 := Try.underlying85
 have hu71 := Try.underlying71
 have HR0 := am hr0
 have HC0 := am hc0
 clear hr0 hc0
 have HB := am (Below.refl w.heap.size w)
 have H : ((impl_FindNext.f l0).bind fun t340 => ((impl_RecOk.f a1 t340 a2 a3).bind fun t342 => (if t342 = true then ((impl_FindOpen.f k l0).bind fun bt343 => (if bt343.2 = true then (some (([(⟨3, 0, 0, bt343.1, (⟨a1, t340, a2, a3⟩ : S30)⟩ : S85)] : List (S85)))) else ((impl_FindOld.f l0).bind fun t348 => (if 0 ≤ t348 then (if t348 < (l0.length : Int) then (if ((rd_T65 l0 t348).f1) = 200 then (some ([] : List (S85))) else (impl_stepsWrite.l0 k l0 t348 ([] : List (S85)) ((rd_T65 l0 t348).f0) (((rd_T65 l0 t348).f0).length : Int) 0 a1 t340 a2 a3)) else (none)) else (none))))) else (some ([] : List (S85)))))) = some r := h
 clear h
 replace H := Option.bind_eq_some_iff.mp H
 obtain ⟨t340, A50, H⟩ := H
 replace H : ((impl_RecOk.f a1 t340 a2 a3).bind fun t342 => (if t342 = true then ((impl_FindOpen.f k l0).bind fun bt343 => (if bt343.2 = true then (some (([(⟨3, 0, 0, bt343.1, (⟨a1, t340, a2, a3⟩ : S30)⟩ : S85)] : List (S85)))) else ((impl_FindOld.f l0).bind fun t348 => (if 0 ≤ t348 then (if t348 < (l0.length : Int) then (if ((rd_T65 l0 t348).f1) = 200 then (some ([] : List (S85))) else (impl_stepsWrite.l0 k l0 t348 ([] : List (S85)) ((rd_T65 l0 t348).f0) (((rd_T65 l0 t348).f0).length : Int) 0 a1 t340 a2 a3)) else (none)) else (none))))) else (some ([] : List (S85))))) = some r := H
 have A5 := am A50
 clear A50
 replace H := Option.bind_eq_some_iff.mp H
 obtain ⟨t342, A60, H⟩ := H
 replace H : (if t342 = true then ((impl_FindOpen.f k l0).bind fun bt343 => (if bt343.2 = true then (some (([(⟨3, 0, 0, bt343.1, (⟨a1, t340, a2, a3⟩ : S30)⟩ : S85)] : List (S85)))) else ((impl_FindOld.f l0).bind fun t348 => (if 0 ≤ t348 then (if t348 < (l0.length : Int) then (if ((rd_T65 l0 t348).f1) = 200 then (some ([] : List (S85))) else (impl_stepsWrite.l0 k l0 t348 ([] : List (S85)) ((rd_T65 l0 t348).f0) (((rd_T65 l0 t348).f0).length : Int) 0 a1 t340 a2 a3)) else (none)) else (none))))) else (some ([] : List (S85)))) = some r := H
 have A6 := am A60
 clear A60
 by_cases c7 : t342 = true
 rotate_left
 · replace c7 := Bool.eq_false_iff.mpr c7
   subst c7
   have H1 : (some ([] : List (S85))) = some r := by rw [if_neg (show ¬ (false = true) by decide)] at H; exact H
   clear H
   have H := H1
   clear H1
   obtain rfl := Option.some.inj H
   go_enter Try.func62, Try.ntmps62
   go_wp2_with (first | (refine gl 18 Try.func86 #[.slice A0 l0.length c0] rfl ?_; (with_reducible refine (impl_FindNext.calls _ _ l0 t340 _ ?side1 ?side2 A5.out).mono ?_); (case side1 => repeat (first | exact HR0.out | (with_reducible refine Kd.C_alloc ?_ _) | (with_reducible refine Kd.C_drewN ?_ _) | (with_reducible refine Kd.C_drew ?_))); (case side2 => exact HC0.out); rintro e w65 ⟨rfl, hb⟩; refine ⟨_, rfl, ?_⟩; replace HB := am (below_step (ph HB.out) hb); (try clear hb); (try clear hb2); (try clear hk); (try clear hi)) | (refine bx 9 #[.int .i64 0, .int .i64 0, .int .i64 0, .int .i64 0] 30 rfl ?_; intro gb341 hg w66 hbox hb; have BK341 := am (hbox); have GW341 := am ((by rw [hg]; exact (below_size (ph HB.out)) : w.heap.size ≤ gb341)); have GE341 := GW341; replace HB := am (below_step (ph HB.out) hb); clear hb hbox hg; obtain ⟨hcz67_0, hcz67_1, hcz67_2, hcz67_3⟩ := b4 BK341.out; obtain ⟨hfz67_0, hfz67_1, hfz67_2, hfz67_3⟩ := f4 BK341.out) | (refine gl 23 Try.func46 #[.agg #[.int .i64 a1, .int .i64 t340, .int .i64 a2, .int .i64 a3]] rfl ?_; (with_reducible refine (impl_RecOk.calls a1 t340 a2 a3 false _ A6.out).mono ?_); rintro e w68 ⟨rfl, hb⟩; refine ⟨_, rfl, ?_⟩; replace BK341 := am (blk_below (g := gb341) (o := .cells #[.int .i64 a1, .int .i64 t340, .int .i64 a2, .int .i64 a3] 30 (0, 0)) (by (with_reducible repeat (first | refine blk_drewN ?_ _ | refine blk_drew ?_ | refine blk_alloc ?_ _)); refine blk_put (cs := #[.int .i64 a1, .int .i64 t340, .int .i64 a2, .int .i64 0]) ?_ 3 _ rfl; (with_reducible repeat (first | refine blk_drewN ?_ _ | refine blk_drew ?_ | refine blk_alloc ?_ _)); refine blk_put (cs := #[.int .i64 a1, .int .i64 t340, .int .i64 0, .int .i64 0]) ?_ 2 _ rfl; (with_reducible repeat (first | refine blk_drewN ?_ _ | refine blk_drew ?_ | refine blk_alloc ?_ _)); refine blk_put (cs := #[.int .i64 a1, .int .i64 0, .int .i64 0, .int .i64 0]) ?_ 1 _ rfl; (with_reducible repeat (first | refine blk_drewN ?_ _ | refine blk_drew ?_ | refine blk_alloc ?_ _)); refine blk_put (cs := #[.int .i64 0, .int .i64 0, .int .i64 0, .int .i64 0]) ?_ 0 _ rfl; (with_reducible repeat (first | refine blk_drewN ?_ _ | refine blk_drew ?_ | refine blk_alloc ?_ _)); exact BK341.out) hb); replace HB := am (below_step (bg1 HB.out GE341.out) hb); (try clear hb); (try clear hb2); (try clear hk); (try clear hi)))
   go_ret
   exact ⟨_, rq ⟨by first | exact Kd.R_nil _ _ _ _ _ | exact Kd.N_nil _ _ _ _ _ | exact Kd.V_nil _ _ _ _ _ | exact Kd.Q_nil _ _ _ _ _ | exact Kd.S_nil _ _ _ _ _, bg1 HB.out GE341.out⟩⟩
 subst c7
 have H1 : ((impl_FindOpen.f k l0).bind fun bt343 => (if bt343.2 = true then (some (([(⟨3, 0, 0, bt343.1, (⟨a1, t340, a2, a3⟩ : S30)⟩ : S85)] : List (S85)))) else ((impl_FindOld.f l0).bind fun t348 => (if 0 ≤ t348 then (if t348 < (l0.length : Int) then (if ((rd_T65 l0 t348).f1) = 200 then (some ([] : List (S85))) else (impl_stepsWrite.l0 k l0 t348 ([] : List (S85)) ((rd_T65 l0 t348).f0) (((rd_T65 l0 t348).f0).length : Int) 0 a1 t340 a2 a3)) else (none)) else (none))))) = some r := by rw [if_pos rfl] at H; exact H
 clear H
 have H := H1
 clear H1
 replace H := Option.bind_eq_some_iff.mp H
 obtain ⟨⟨t343, t344⟩, A80, H⟩ := H
 replace H : (if t344 = true then (some (([(⟨3, 0, 0, t343, (⟨a1, t340, a2, a3⟩ : S30)⟩ : S85)] : List (S85)))) else ((impl_FindOld.f l0).bind fun t348 => (if 0 ≤ t348 then (if t348 < (l0.length : Int) then (if ((rd_T65 l0 t348).f1) = 200 then (some ([] : List (S85))) else (impl_stepsWrite.l0 k l0 t348 ([] : List (S85)) ((rd_T65 l0 t348).f0) (((rd_T65 l0 t348).f0).length : Int) 0 a1 t340 a2 a3)) else (none)) else (none)))) = some r := H
 have A8 := am A80
 clear A80
 by_cases c9 : t344 = true
 · subst c9
   have H1 : (some (([(⟨3, 0, 0, t343, (⟨a1, t340, a2, a3⟩ : S30)⟩ : S85)] : List (S85)))) = some r := by rw [if_pos rfl] at H; exact H
   clear H
   have H := H1
   clear H1
   obtain ⟨y345, hy345⟩ : ∃ y_ : List (S85), y_ = (([(⟨3, 0, 0, t343, (⟨a1, t340, a2, a3⟩ : S30)⟩ : S85)] : List (S85))) := ⟨_, rfl⟩
   replace H : (some y345) = some r := by first | (rw [hy345]; with_reducible exact H) | (have H2_ := (Option.bind_some _ _).symm.trans H; rw [hy345]; with_reducible exact H2_) | (have H2_ := (Option.bind_some _ _).symm.trans H; with_reducible exact H2_) | with_reducible exact H | (rw [hy345]; exact H) | exact H
   have Ny345 := am hy345
   clear hy345
   obtain rfl := Option.some.inj H
   go_enter Try.func62, Try.ntmps62
   go_wp2_with (first | (refine gl 18 Try.func86 #[.slice A0 l0.length c0] rfl ?_; (with_reducible refine (impl_FindNext.calls _ _ l0 t340 _ ?side1 ?side2 A5.out).mono ?_); (case side1 => repeat (first | exact HR0.out | (with_reducible refine Kd.C_alloc ?_ _) | (with_reducible refine Kd.C_drewN ?_ _) | (with_reducible refine Kd.C_drew ?_))); (case side2 => exact HC0.out); rintro e w10 ⟨rfl, hb⟩; refine ⟨_, rfl, ?_⟩; replace HB := am (below_step (ph HB.out) hb); (try clear hb); (try clear hb2); (try clear hk); (try clear hi)) | (refine bx 9 #[.int .i64 0, .int .i64 0, .int .i64 0, .int .i64 0] 30 rfl ?_; intro gb341 hg w11 hbox hb; have BK341 := am (hbox); have GW341 := am ((by rw [hg]; exact (below_size (ph HB.out)) : w.heap.size ≤ gb341)); have GE341 := GW341; replace HB := am (below_step (ph HB.out) hb); clear hb hbox hg; obtain ⟨hcz12_0, hcz12_1, hcz12_2, hcz12_3⟩ := b4 BK341.out; obtain ⟨hfz12_0, hfz12_1, hfz12_2, hfz12_3⟩ := f4 BK341.out) | (refine gl 23 Try.func46 #[.agg #[.int .i64 a1, .int .i64 t340, .int .i64 a2, .int .i64 a3]] rfl ?_; (with_reducible refine (impl_RecOk.calls a1 t340 a2 a3 true _ A6.out).mono ?_); rintro e w13 ⟨rfl, hb⟩; refine ⟨_, rfl, ?_⟩; replace BK341 := am (blk_below (g := gb341) (o := .cells #[.int .i64 a1, .int .i64 t340, .int .i64 a2, .int .i64 a3] 30 (0, 0)) (by (with_reducible repeat (first | refine blk_drewN ?_ _ | refine blk_drew ?_ | refine blk_alloc ?_ _)); refine blk_put (cs := #[.int .i64 a1, .int .i64 t340, .int .i64 a2, .int .i64 0]) ?_ 3 _ rfl; (with_reducible repeat (first | refine blk_drewN ?_ _ | refine blk_drew ?_ | refine blk_alloc ?_ _)); refine blk_put (cs := #[.int .i64 a1, .int .i64 t340, .int .i64 0, .int .i64 0]) ?_ 2 _ rfl; (with_reducible repeat (first | refine blk_drewN ?_ _ | refine blk_drew ?_ | refine blk_alloc ?_ _)); refine blk_put (cs := #[.int .i64 a1, .int .i64 0, .int .i64 0, .int .i64 0]) ?_ 1 _ rfl; (with_reducible repeat (first | refine blk_drewN ?_ _ | refine blk_drew ?_ | refine blk_alloc ?_ _)); refine blk_put (cs := #[.int .i64 0, .int .i64 0, .int .i64 0, .int .i64 0]) ?_ 0 _ rfl; (with_reducible repeat (first | refine blk_drewN ?_ _ | refine blk_drew ?_ | refine blk_alloc ?_ _)); exact BK341.out) hb); replace HB := am (below_step (bg1 HB.out GE341.out) hb); (try clear hb); (try clear hb2); (try clear hk); (try clear hi)) | (refine gl 27 Try.func87 #[.slice A0 l0.length c0] rfl ?_; (with_reducible refine (impl_FindOpen.calls k _ _ l0 t343 true _ ?side1 ?side2 A8.out).mono ?_); (case side1 => exact pc (Kd.C_below HR0.out HB.out)); (case side2 => exact HC0.out); rintro e w14 ⟨rfl, hb⟩; refine ⟨_, rfl, ?_⟩; replace BK341 := am (blk_below (pb BK341.out) hb); replace HB := am (below_step (bg1 HB.out GE341.out) hb); (try clear hb); (try clear hb2); (try clear hk); (try clear hi); obtain ⟨hcz15_0, hcz15_1, hcz15_2, hcz15_3⟩ := b4 BK341.out; obtain ⟨hfz15_0, hfz15_1, hfz15_2, hfz15_3⟩ := f4 BK341.out) | ((with_reducible refine gate_dst (N := 34) rfl ?_); refine Kd.R_lit k85 _ 85 ?hg (N := 34) ?hd (xs := ([(⟨3, 0, 0, t343, (⟨a1, t340, a2, a3⟩ : S30)⟩ : S85)] : List (S85))) (inner := [.int .i64 3, .int .i64 0, .int .i64 0, .int .i64 t343, .int .i64 a1, .int .i64 t340, .int .i64 a2, .int .i64 a3]) (ok := fun _ => True) (okp := fun _ => True) ?hr ?hp (fun _ hk => hk) trivial (Below.refl _ _) (Nat.le_refl _) (by simp) ?_; (case hd => rfl); (case hg => rfl); (case hr => first | (go_simp; done) | (go_simp; rfl)); (case hp => exact (Reps.c8 (show Kd.M k85 _ _ _ (⟨3, 0, 0, t343, (⟨a1, t340, a2, a3⟩ : S30)⟩ : S85) [.int .i64 3, .int .i64 0, .int .i64 0, .int .i64 t343, .int .i64 a1, .int .i64 t340, .int .i64 a2, .int .i64 a3] from (k85_mkM _ _ _ (⟨3, 0, 0, t343, (⟨a1, t340, a2, a3⟩ : S30)⟩ : S85) )) (Reps.none _ _))); intro v346 w16 ho17 hb hg_ hnew_; clear hg_ hnew_; (first | rw [← Ny345.out] at ho17 | (simp only [Int.reduceToNat] at ho17; rw [← Ny345.out] at ho17)); have HO347 := am (Kd.R_lower ho17 (below_size (bg1 HB.out GE341.out))); replace BK341 := am (blk_below (pb BK341.out) hb); replace HB := am (below_step (bg1 HB.out GE341.out) hb); clear hb ho17))
   go_ret
   exact ⟨_, rq ⟨pr HO347.out, bg1 HB.out GE341.out⟩⟩
 replace c9 := Bool.eq_false_iff.mpr c9
 subst c9
 have H1 : ((impl_FindOld.f l0).bind fun t348 => (if 0 ≤ t348 then (if t348 < (l0.length : Int) then (if ((rd_T65 l0 t348).f1) = 200 then (some ([] : List (S85))) else (impl_stepsWrite.l0 k l0 t348 ([] : List (S85)) ((rd_T65 l0 t348).f0) (((rd_T65 l0 t348).f0).length : Int) 0 a1 t340 a2 a3)) else (none)) else (none))) = some r := by rw [if_neg (show ¬ (false = true) by decide)] at H; exact H
 clear H
 have H := H1
 clear H1
 replace H := Option.bind_eq_some_iff.mp H
 obtain ⟨t348, A180, H⟩ := H
 replace H : (if 0 ≤ t348 then (if t348 < (l0.length : Int) then (if ((rd_T65 l0 t348).f1) = 200 then (some ([] : List (S85))) else (impl_stepsWrite.l0 k l0 t348 ([] : List (S85)) ((rd_T65 l0 t348).f0) (((rd_T65 l0 t348).f0).length : Int) 0 a1 t340 a2 a3)) else (none)) else (none)) = some r := H
 have A18 := am A180
 clear A180
 by_cases c19 : 0 ≤ t348
 rotate_left
 · rw [if_neg c19] at H
   exact absurd H (by simp)
 rw [if_pos c19] at H
 have c19b0 := decide_eq_true c19
 clear c19
 by_cases c20 : t348 < (l0.length : Int)
 rotate_left
 · rw [if_neg c20] at H
   exact absurd H (by simp)
 rw [if_pos c20] at H
 have c20b0 := decide_eq_true c20
 clear c20
 by_cases c21 : ((rd_T65 l0 t348).f1) = 200
 · rw [if_pos c21] at H
   have c21b0 : (((rd_T65 l0 t348).f1) == 200) = true := beq_iff_eq.mpr c21
   have c21b1 : (((rd_T65 l0 t348).f1) != 200) = false := bne_eq_false_iff_eq.mpr c21
   clear c21
   obtain rfl := Option.some.inj H
   go_enter Try.func62, Try.ntmps62
   go_wp2_with (first | (refine gl 18 Try.func86 #[.slice A0 l0.length c0] rfl ?_; (with_reducible refine (impl_FindNext.calls _ _ l0 t340 _ ?side1 ?side2 A5.out).mono ?_); (case side1 => repeat (first | exact HR0.out | (with_reducible refine Kd.C_alloc ?_ _) | (with_reducible refine Kd.C_drewN ?_ _) | (with_reducible refine Kd.C_drew ?_))); (case side2 => exact HC0.out); rintro e w22 ⟨rfl, hb⟩; refine ⟨_, rfl, ?_⟩; replace HB := am (below_step (ph HB.out) hb); (try clear hb); (try clear hb2); (try clear hk); (try clear hi)) | (refine bx 9 #[.int .i64 0, .int .i64 0, .int .i64 0, .int .i64 0] 30 rfl ?_; intro gb341 hg w23 hbox hb; have BK341 := am (hbox); have GW341 := am ((by rw [hg]; exact (below_size (ph HB.out)) : w.heap.size ≤ gb341)); have GE341 := GW341; replace HB := am (below_step (ph HB.out) hb); clear hb hbox hg; obtain ⟨hcz24_0, hcz24_1, hcz24_2, hcz24_3⟩ := b4 BK341.out; obtain ⟨hfz24_0, hfz24_1, hfz24_2, hfz24_3⟩ := f4 BK341.out) | (refine gl 23 Try.func46 #[.agg #[.int .i64 a1, .int .i64 t340, .int .i64 a2, .int .i64 a3]] rfl ?_; (with_reducible refine (impl_RecOk.calls a1 t340 a2 a3 true _ A6.out).mono ?_); rintro e w25 ⟨rfl, hb⟩; refine ⟨_, rfl, ?_⟩; replace BK341 := am (blk_below (g := gb341) (o := .cells #[.int .i64 a1, .int .i64 t340, .int .i64 a2, .int .i64 a3] 30 (0, 0)) (by (with_reducible repeat (first | refine blk_drewN ?_ _ | refine blk_drew ?_ | refine blk_alloc ?_ _)); refine blk_put (cs := #[.int .i64 a1, .int .i64 t340, .int .i64 a2, .int .i64 0]) ?_ 3 _ rfl; (with_reducible repeat (first | refine blk_drewN ?_ _ | refine blk_drew ?_ | refine blk_alloc ?_ _)); refine blk_put (cs := #[.int .i64 a1, .int .i64 t340, .int .i64 0, .int .i64 0]) ?_ 2 _ rfl; (with_reducible repeat (first | refine blk_drewN ?_ _ | refine blk_drew ?_ | refine blk_alloc ?_ _)); refine blk_put (cs := #[.int .i64 a1, .int .i64 0, .int .i64 0, .int .i64 0]) ?_ 1 _ rfl; (with_reducible repeat (first | refine blk_drewN ?_ _ | refine blk_drew ?_ | refine blk_alloc ?_ _)); refine blk_put (cs := #[.int .i64 0, .int .i64 0, .int .i64 0, .int .i64 0]) ?_ 0 _ rfl; (with_reducible repeat (first | refine blk_drewN ?_ _ | refine blk_drew ?_ | refine blk_alloc ?_ _)); exact BK341.out) hb); replace HB := am (below_step (bg1 HB.out GE341.out) hb); (try clear hb); (try clear hb2); (try clear hk); (try clear hi)) | (refine gl 27 Try.func87 #[.slice A0 l0.length c0] rfl ?_; (with_reducible refine (impl_FindOpen.calls k _ _ l0 t343 false _ ?side1 ?side2 A8.out).mono ?_); (case side1 => exact pc (Kd.C_below HR0.out HB.out)); (case side2 => exact HC0.out); rintro e w26 ⟨rfl, hb⟩; refine ⟨_, rfl, ?_⟩; replace BK341 := am (blk_below (pb BK341.out) hb); replace HB := am (below_step (bg1 HB.out GE341.out) hb); (try clear hb); (try clear hb2); (try clear hk); (try clear hi)) | (refine gl 36 Try.func88 #[.slice A0 l0.length c0] rfl ?_; (with_reducible refine (impl_FindOld.calls _ _ l0 t348 _ ?side1 ?side2 A18.out).mono ?_); (case side1 => exact pc (Kd.C_below HR0.out HB.out)); (case side2 => exact HC0.out); rintro e w27 ⟨rfl, hb⟩; refine ⟨_, rfl, ?_⟩; replace BK341 := am (blk_below (pb BK341.out) hb); replace HB := am (below_step (bg1 HB.out GE341.out) hb); (try clear hb); (try clear hb2); (try clear hk); (try clear hi); have p349 : 0 ≤ (t348 : Int) := ofb; have q349 : t348 < (l0.length : Int) := ofb; obtain ⟨ad349, A349_0, c349_0, e349, hx349_0, hx349_1, hl349_0, hi349_0⟩ := at_T65 HR0.out t348 p349 q349; cases e349; replace hx349_0 := up HB.out hx349_0; replace hx349_1 := up HB.out hx349_1; have HR349_0 := am hi349_0; have HC349_0 := am hl349_0; clear hi349_0 hl349_0; replace p349 := eq_true p349; replace q349 := eq_true q349))
   go_ret
   exact ⟨_, rq ⟨by first | exact Kd.R_nil _ _ _ _ _ | exact Kd.N_nil _ _ _ _ _ | exact Kd.V_nil _ _ _ _ _ | exact Kd.Q_nil _ _ _ _ _ | exact Kd.S_nil _ _ _ _ _, bg1 HB.out GE341.out⟩⟩
 rw [if_neg c21] at H
 have c21b0 : (((rd_T65 l0 t348).f1) == 200) = false := beq_eq_false_iff_ne.mpr c21
 have c21b1 : (((rd_T65 l0 t348).f1) != 200) = true := bne_iff_ne.mpr c21
 have H' := am H
 clear H
 go_enter Try.func62, Try.ntmps62
 go_wp2_with (first | (refine gl 18 Try.func86 #[.slice A0 l0.length c0] rfl ?_; (with_reducible refine (impl_FindNext.calls _ _ l0 t340 _ ?side1 ?side2 A5.out).mono ?_); (case side1 => repeat (first | exact HR0.out | (with_reducible refine Kd.C_alloc ?_ _) | (with_reducible refine Kd.C_drewN ?_ _) | (with_reducible refine Kd.C_drew ?_))); (case side2 => exact HC0.out); rintro e w28 ⟨rfl, hb⟩; refine ⟨_, rfl, ?_⟩; replace HB := am (below_step (ph HB.out) hb); (try clear hb); (try clear hb2); (try clear hk); (try clear hi)) | (refine bx 9 #[.int .i64 0, .int .i64 0, .int .i64 0, .int .i64 0] 30 rfl ?_; intro gb341 hg w29 hbox hb; have BK341 := am (hbox); have GW341 := am ((by rw [hg]; exact (below_size (ph HB.out)) : w.heap.size ≤ gb341)); have GE341 := GW341; replace HB := am (below_step (ph HB.out) hb); clear hb hbox hg; obtain ⟨hcz30_0, hcz30_1, hcz30_2, hcz30_3⟩ := b4 BK341.out; obtain ⟨hfz30_0, hfz30_1, hfz30_2, hfz30_3⟩ := f4 BK341.out) | (refine gl 23 Try.func46 #[.agg #[.int .i64 a1, .int .i64 t340, .int .i64 a2, .int .i64 a3]] rfl ?_; (with_reducible refine (impl_RecOk.calls a1 t340 a2 a3 true _ A6.out).mono ?_); rintro e w31 ⟨rfl, hb⟩; refine ⟨_, rfl, ?_⟩; replace BK341 := am (blk_below (g := gb341) (o := .cells #[.int .i64 a1, .int .i64 t340, .int .i64 a2, .int .i64 a3] 30 (0, 0)) (by (with_reducible repeat (first | refine blk_drewN ?_ _ | refine blk_drew ?_ | refine blk_alloc ?_ _)); refine blk_put (cs := #[.int .i64 a1, .int .i64 t340, .int .i64 a2, .int .i64 0]) ?_ 3 _ rfl; (with_reducible repeat (first | refine blk_drewN ?_ _ | refine blk_drew ?_ | refine blk_alloc ?_ _)); refine blk_put (cs := #[.int .i64 a1, .int .i64 t340, .int .i64 0, .int .i64 0]) ?_ 2 _ rfl; (with_reducible repeat (first | refine blk_drewN ?_ _ | refine blk_drew ?_ | refine blk_alloc ?_ _)); refine blk_put (cs := #[.int .i64 a1, .int .i64 0, .int .i64 0, .int .i64 0]) ?_ 1 _ rfl; (with_reducible repeat (first | refine blk_drewN ?_ _ | refine blk_drew ?_ | refine blk_alloc ?_ _)); refine blk_put (cs := #[.int .i64 0, .int .i64 0, .int .i64 0, .int .i64 0]) ?_ 0 _ rfl; (with_reducible repeat (first | refine blk_drewN ?_ _ | refine blk_drew ?_ | refine blk_alloc ?_ _)); exact BK341.out) hb); replace HB := am (below_step (bg1 HB.out GE341.out) hb); (try clear hb); (try clear hb2); (try clear hk); (try clear hi)) | (refine gl 27 Try.func87 #[.slice A0 l0.length c0] rfl ?_; (with_reducible refine (impl_FindOpen.calls k _ _ l0 t343 false _ ?side1 ?side2 A8.out).mono ?_); (case side1 => exact pc (Kd.C_below HR0.out HB.out)); (case side2 => exact HC0.out); rintro e w32 ⟨rfl, hb⟩; refine ⟨_, rfl, ?_⟩; replace BK341 := am (blk_below (pb BK341.out) hb); replace HB := am (below_step (bg1 HB.out GE341.out) hb); (try clear hb); (try clear hb2); (try clear hk); (try clear hi)) | (refine gl 36 Try.func88 #[.slice A0 l0.length c0] rfl ?_; (with_reducible refine (impl_FindOld.calls _ _ l0 t348 _ ?side1 ?side2 A18.out).mono ?_); (case side1 => exact pc (Kd.C_below HR0.out HB.out)); (case side2 => exact HC0.out); rintro e w33 ⟨rfl, hb⟩; refine ⟨_, rfl, ?_⟩; replace BK341 := am (blk_below (pb BK341.out) hb); replace HB := am (below_step (bg1 HB.out GE341.out) hb); (try clear hb); (try clear hb2); (try clear hk); (try clear hi); have p349 : 0 ≤ (t348 : Int) := ofb; have q349 : t348 < (l0.length : Int) := ofb; obtain ⟨ad349, A349_0, c349_0, e349, hx349_0, hx349_1, hl349_0, hi349_0⟩ := at_T65 HR0.out t348 p349 q349; cases e349; replace hx349_0 := up HB.out hx349_0; replace hx349_1 := up HB.out hx349_1; have HR349_0 := am hi349_0; have HC349_0 := am hl349_0; clear hi349_0 hl349_0; replace p349 := eq_true p349; replace q349 := eq_true q349; have p350 : 0 ≤ (t348 : Int) := ofb; have q350 : t348 < (l0.length : Int) := ofb; obtain ⟨ad350, A350_0, c350_0, e350, hx350_0, hx350_1, hl350_0, hi350_0⟩ := at_T65 HR0.out t348 p350 q350; obtain rfl : ad349 = ad350 := (by injection e350); replace hx350_0 := up HB.out hx350_0; replace hx350_1 := up HB.out hx350_1; have HR350_0 := am hi350_0; have HC350_0 := am hl350_0; clear hi350_0 hl350_0; replace p350 := eq_true p350; replace q350 := eq_true q350; have ea_ := Option.some.inj (hx349_0.symm.trans hx350_0); injection ea_ with ea_ en_ ec_; subst ea_; subst ec_; clear en_))
 go_loopg [13, 49] k (fun kq v13 v49 w' => ∃ (x13_1 : List (S85)) (x49_1 : Int), v49 = .int .i64 x49_1 ∧ Aside0 (impl_stepsWrite.l0 kq l0 t348 x13_1 ((rd_T65 l0 t348).f0) (((rd_T65 l0 t348).f0).length : Int) x49_1 a1 t340 a2 a3 = some r) ∧ Aside0 (kq ≤ k) ∧ Aside0 (Kd.R k85 85 w' w.heap.size (fun _ => True) v13 x13_1) ∧ Aside0 (w'.heap[gb341]? = some (.cells #[.int .i64 a1, .int .i64 t340, .int .i64 a2, .int .i64 a3] 30 (0, 0))) ∧ Aside0 (Below w.heap.size w w'))
 case atStart => exact ⟨(([] : List (S85))), (0), rf, H', ⟨Nat.le_refl _⟩, ⟨by first | exact Kd.R_nil _ _ _ _ _ | exact Kd.N_nil _ _ _ _ _ | exact Kd.V_nil _ _ _ _ _ | exact Kd.Q_nil _ _ _ _ _ | exact Kd.S_nil _ _ _ _ _⟩, ⟨pb BK341.out⟩, ⟨bg1 HB.out GE341.out⟩⟩
 case round =>
  clear H'
  obtain ⟨x13_1, x49_1, rfl, HA, HK1, HO_13, BK341, HB⟩ := hrel
  cases gk with
  | zero => exact absurd HA.out (by simp [impl_stepsWrite.l0])
  | succ k1 =>
   have H := HA.out
   clear HA
   simp only [impl_stepsWrite.l0] at H
   by_cases c34 : x49_1 < (((rd_T65 l0 t348).f0).length : Int)
   rotate_left
   · rw [if_neg c34] at H
     have c34b0 := decide_eq_false c34
     clear c34
     by_cases c60 : x13_1.length < 2199023255552
     rotate_left
     · rw [if_neg c60] at H
       exact absurd H (by simp)
     rw [if_pos c60] at H
     have LMc60 := am c60
     clear c60
     obtain ⟨y351, hy351⟩ : ∃ y_ : List (S85), y_ = (x13_1 ++ [(⟨2, 0, 0, t348, (⟨0, 0, 0, 0⟩ : S30)⟩ : S85)]) := ⟨_, rfl⟩
     replace H : (if y351.length < 2199023255552 then (some (y351 ++ [(⟨3, 0, 0, t348, (⟨a1, t340, a2, a3⟩ : S30)⟩ : S85)])) else (none)) = some r := by first | (rw [hy351]; with_reducible exact H) | (have H2_ := (Option.bind_some _ _).symm.trans H; rw [hy351]; with_reducible exact H2_) | (have H2_ := (Option.bind_some _ _).symm.trans H; with_reducible exact H2_) | with_reducible exact H | (rw [hy351]; exact H) | exact H
     have Ny351 := am hy351
     clear hy351
     by_cases c61 : y351.length < 2199023255552
     rotate_left
     · rw [if_neg c61] at H
       exact absurd H (by simp)
     rw [if_pos c61] at H
     have LMc61 := am c61
     clear c61
     obtain ⟨y354, hy354⟩ : ∃ y_ : List (S85), y_ = (y351 ++ [(⟨3, 0, 0, t348, (⟨a1, t340, a2, a3⟩ : S30)⟩ : S85)]) := ⟨_, rfl⟩
     replace H : (some y354) = some r := by first | (rw [hy354]; with_reducible exact H) | (have H2_ := (Option.bind_some _ _).symm.trans H; rw [hy354]; with_reducible exact H2_) | (have H2_ := (Option.bind_some _ _).symm.trans H; with_reducible exact H2_) | with_reducible exact H | (rw [hy354]; exact H) | exact H
     have Ny354 := am hy354
     clear hy354
     obtain rfl := Option.some.inj H
     go_wp2_with (first | ((with_reducible refine gate_builtin (b := .append) (xs := #[.tmp 70, .tmp 73]) rfl ?_); at_builtin; refine Kd.R_append k85 (w0 := w) w.heap.size rfl (.tmp 70) (.tmp 73) 48 85 (.agg #[(.int .i64 0), (.int .i64 0), (.int .i64 0), (.int .i64 0), (.int .i64 0), (.int .i64 0), (.int .i64 0), (.int .i64 0)]) 64 rfl Try.underlying48 info85 rfl (by decide) (by omega) u13 x13_1 (⟨2, 0, 0, t348, (⟨0, 0, 0, 0⟩ : S30)⟩ : S85) [.int .i64 2, .int .i64 0, .int .i64 0, .int .i64 t348, .int .i64 0, .int .i64 0, .int .i64 0, .int .i64 0] (fun _ => True) (fun _ => False) rfl rfl ?aP (fun _ hk => hk.elim) ?aF ?aO ?aB ?aS ?aL ?_; (case aP => exact k85_mkM _ _ _ (⟨2, 0, 0, t348, (⟨0, 0, 0, 0⟩ : S30)⟩ : S85)); (case aB => exact (bg1 HB.out GE341.out)); (case aF => exact (fun _ _ => trivial)); (case aO => exact (pr HO_13.out)); (case aS => exact (below_size (bg1 HB.out GE341.out))); (case aL => have := LMc60.out; omega); intro v352 w62 ho hb hg hat; rw [← Ny351.out] at ho; replace BK341 := am (blk_grown (g := gb341) (o := .cells #[.int .i64 a1, .int .i64 t340, .int .i64 a2, .int .i64 a3] 30 (0, 0)) (pb BK341.out) hg (Kd.R_ne HO_13.out BK341.out (by decide))); replace HB := am (hb); have HO353 := am (ho); clear HO_13; clear ho hb hg hat; obtain ⟨hcz63_0, hcz63_1, hcz63_2, hcz63_3⟩ := b4 BK341.out; obtain ⟨hfz63_0, hfz63_1, hfz63_2, hfz63_3⟩ := f4 BK341.out) | ((with_reducible refine gate_builtin (b := .append) (xs := #[.tmp 75, .tmp 79]) rfl ?_); at_builtin; refine Kd.R_append k85 (w0 := w) w.heap.size rfl (.tmp 75) (.tmp 79) 48 85 (.agg #[(.int .i64 0), (.int .i64 0), (.int .i64 0), (.int .i64 0), (.int .i64 0), (.int .i64 0), (.int .i64 0), (.int .i64 0)]) 64 rfl Try.underlying48 info85 rfl (by decide) (by omega) v352 y351 (⟨3, 0, 0, t348, (⟨a1, t340, a2, a3⟩ : S30)⟩ : S85) [.int .i64 3, .int .i64 0, .int .i64 0, .int .i64 t348, .int .i64 a1, .int .i64 t340, .int .i64 a2, .int .i64 a3] (fun _ => True) (fun _ => False) rfl rfl ?aP (fun _ hk => hk.elim) ?aF ?aO ?aB ?aS ?aL ?_; (case aP => exact k85_mkM _ _ _ (⟨3, 0, 0, t348, (⟨a1, t340, a2, a3⟩ : S30)⟩ : S85)); (case aB => exact (bg1 HB.out GE341.out)); (case aF => exact (fun _ _ => trivial)); (case aO => exact (pr HO353.out)); (case aS => exact (below_size (bg1 HB.out GE341.out))); (case aL => have := LMc61.out; omega); intro v355 w64 ho hb hg hat; rw [← Ny354.out] at ho; replace BK341 := am (blk_grown (g := gb341) (o := .cells #[.int .i64 a1, .int .i64 t340, .int .i64 a2, .int .i64 a3] 30 (0, 0)) (pb BK341.out) hg (Kd.R_ne HO353.out BK341.out (by decide))); replace HB := am (hb); have HO356 := am (ho); clear HO353; clear ho hb hg hat))
     go_ret
     exact ⟨_, rq ⟨pr HO356.out, bg1 HB.out GE341.out⟩⟩
   rw [if_pos c34] at H
   have c34b0 := decide_eq_true c34
   clear c34
   by_cases c35 : 0 ≤ x49_1
   rotate_left
   · rw [if_neg c35] at H
     exact absurd H (by simp)
   rw [if_pos c35] at H
   have c35b0 := decide_eq_true c35
   clear c35
   by_cases c36 : x49_1 < (((rd_T65 l0 t348).f0).length : Int)
   rotate_left
   · rw [if_neg c36] at H
     exact absurd H (by simp)
   rw [if_pos c36] at H
   have c36b0 := decide_eq_true c36
   clear c36
   replace H := Option.bind_eq_some_iff.mp H
   obtain ⟨t359, A370, H⟩ := H
   replace H : (if t359 = true then ((impl_FindLive.f k1 l0 t348 x49_1).bind fun t360 => (if t360 = true then ((impl_diskStep.f ((rd_T71 ((rd_T65 l0 t348).f0) x49_1).f1.f0) ((rd_T71 ((rd_T65 l0 t348).f0) x49_1).f1.f1) ((rd_T71 ((rd_T65 l0 t348).f0) x49_1).f1.f2) ((rd_T71 ((rd_T65 l0 t348).f0) x49_1).f1.f3)).bind fun bt361 => (if x13_1.length < 2199023255552 then (impl_stepsWrite.l0 k1 l0 t348 (x13_1 ++ [(⟨bt361.1, bt361.2.1, bt361.2.2.1, bt361.2.2.2.1, (⟨bt361.2.2.2.2.1, bt361.2.2.2.2.2.1, bt361.2.2.2.2.2.2.1, bt361.2.2.2.2.2.2.2⟩ : S30)⟩ : S85)]) ((rd_T65 l0 t348).f0) (((rd_T65 l0 t348).f0).length : Int) (wrap64 (x49_1 + 1)) a1 t340 a2 a3) else (none))) else (impl_stepsWrite.l0 k1 l0 t348 x13_1 ((rd_T65 l0 t348).f0) (((rd_T65 l0 t348).f0).length : Int) (wrap64 (x49_1 + 1)) a1 t340 a2 a3))) else (impl_stepsWrite.l0 k1 l0 t348 x13_1 ((rd_T65 l0 t348).f0) (((rd_T65 l0 t348).f0).length : Int) (wrap64 (x49_1 + 1)) a1 t340 a2 a3)) = some r := H
   have A37 := am A370
   clear A370
   by_cases c38 : t359 = true
   rotate_left
   · replace c38 := Bool.eq_false_iff.mpr c38
     subst c38
     have H1 : (impl_stepsWrite.l0 k1 l0 t348 x13_1 ((rd_T65 l0 t348).f0) (((rd_T65 l0 t348).f0).length : Int) (wrap64 (x49_1 + 1)) a1 t340 a2 a3) = some r := by rw [if_neg (show ¬ (false = true) by decide)] at H; exact H
     clear H
     have H := H1
     clear H1
     have H' := am H
     clear H
     have p357 : 0 ≤ (x49_1 : Int) := ofb
     have q357 : x49_1 < (((rd_T65 l0 t348).f0).length : Int) := ofb
     obtain ⟨ad357, e357, hx357_0, hx357_1, hx357_2, hx357_3, hx357_4⟩ := at_T71 HR350_0.out x49_1 p357 q357
     cases e357
     replace hx357_0 := up HB.out hx357_0
     replace hx357_1 := up HB.out hx357_1
     replace hx357_2 := up HB.out hx357_2
     replace hx357_3 := up HB.out hx357_3
     replace hx357_4 := up HB.out hx357_4
     replace p357 := eq_true p357
     replace q357 := eq_true q357
     go_wp2_with (first | (refine bx 15 #[.int .i64 0, .int .i64 0, .int .i64 0, .int .i64 0, .int .i64 0] 71 rfl ?_; intro gb358 hg w56 hbox hb; replace HO_13 := am (Kd.R_below (pr HO_13.out) hb); have BK358 := am (hbox); have GW358 := am ((by rw [hg]; exact (below_size (bg1 HB.out GE341.out)) : w.heap.size ≤ gb358)); have GE358 := GW358; replace HB := am (below_step (bg1 HB.out GE341.out) hb); have NB341_358 := am ((by rw [hg]; exact Nat.ne_of_lt (blk_lt (pb BK341.out)) : gb341 ≠ gb358)); have NB358_341 := am (Ne.symm NB341_358.out); replace BK341 := am (blk_below (pb BK341.out) hb); clear hb hbox hg; have hnb57 := NB358_341.out; have hnc57 := NB341_358.out; obtain ⟨hcz58_0, hcz58_1, hcz58_2, hcz58_3, hcz58_4⟩ := b5 BK358.out; obtain ⟨hfz58_0, hfz58_1, hfz58_2, hfz58_3, hfz58_4⟩ := f5 BK358.out) | (refine gl 56 Try.func59 #[.agg #[.int .i64 ((rd_T71 ((rd_T65 l0 t348).f0) x49_1).f1.f0), .int .i64 ((rd_T71 ((rd_T65 l0 t348).f0) x49_1).f1.f1), .int .i64 ((rd_T71 ((rd_T65 l0 t348).f0) x49_1).f1.f2), .int .i64 ((rd_T71 ((rd_T65 l0 t348).f0) x49_1).f1.f3)]] rfl ?_; (with_reducible refine (impl_Rec_isDirty.calls ((rd_T71 ((rd_T65 l0 t348).f0) x49_1).f1.f0) ((rd_T71 ((rd_T65 l0 t348).f0) x49_1).f1.f1) ((rd_T71 ((rd_T65 l0 t348).f0) x49_1).f1.f2) ((rd_T71 ((rd_T65 l0 t348).f0) x49_1).f1.f3) false _ A37.out).mono ?_); rintro e w59 ⟨rfl, hb⟩; refine ⟨_, rfl, ?_⟩; replace HO_13 := am (Kd.R_below (by (with_reducible repeat (first | apply Kd.R_alloc | apply Kd.R_drewN | apply Kd.R_drew)); exact (Kd.R_mono (Kd.R_far (p := ⟨gb358, 4, none⟩) (Kd.R_far (p := ⟨gb358, 3, none⟩) (Kd.R_far (p := ⟨gb358, 2, none⟩) (Kd.R_far (p := ⟨gb358, 1, none⟩) (Kd.R_far (p := ⟨gb358, 0, none⟩) (Kd.R_types HO_13.out BK358.out (by decide)) (fun _ hk => hk.2) (.int .i64 ((rd_T71 ((rd_T65 l0 t348).f0) x49_1).f0))) (fun _ hk => hk.2) (.int .i64 ((rd_T71 ((rd_T65 l0 t348).f0) x49_1).f1.f0))) (fun _ hk => hk.2) (.int .i64 ((rd_T71 ((rd_T65 l0 t348).f0) x49_1).f1.f1))) (fun _ hk => hk.2) (.int .i64 ((rd_T71 ((rd_T65 l0 t348).f0) x49_1).f1.f2))) (fun _ hk => hk.2) (.int .i64 ((rd_T71 ((rd_T65 l0 t348).f0) x49_1).f1.f3))) (fun _ h_ => h_.1))) hb); replace BK341 := am (blk_below (g := gb341) (o := .cells #[.int .i64 a1, .int .i64 t340, .int .i64 a2, .int .i64 a3] 30 (0, 0)) (by (with_reducible repeat (first | refine blk_drewN ?_ _ | refine blk_drew ?_ | refine blk_alloc ?_ _)); refine blk_far ?_ NB341_358.out _; (with_reducible repeat (first | refine blk_drewN ?_ _ | refine blk_drew ?_ | refine blk_alloc ?_ _)); refine blk_far ?_ NB341_358.out _; (with_reducible repeat (first | refine blk_drewN ?_ _ | refine blk_drew ?_ | refine blk_alloc ?_ _)); refine blk_far ?_ NB341_358.out _; (with_reducible repeat (first | refine blk_drewN ?_ _ | refine blk_drew ?_ | refine blk_alloc ?_ _)); refine blk_far ?_ NB341_358.out _; (with_reducible repeat (first | refine blk_drewN ?_ _ | refine blk_drew ?_ | refine blk_alloc ?_ _)); refine blk_far ?_ NB341_358.out _; (with_reducible repeat (first | refine blk_drewN ?_ _ | refine blk_drew ?_ | refine blk_alloc ?_ _)); exact BK341.out) hb); replace BK358 := am (blk_below (g := gb358) (o := .cells #[.int .i64 ((rd_T71 ((rd_T65 l0 t348).f0) x49_1).f0), .int .i64 ((rd_T71 ((rd_T65 l0 t348).f0) x49_1).f1.f0), .int .i64 ((rd_T71 ((rd_T65 l0 t348).f0) x49_1).f1.f1), .int .i64 ((rd_T71 ((rd_T65 l0 t348).f0) x49_1).f1.f2), .int .i64 ((rd_T71 ((rd_T65 l0 t348).f0) x49_1).f1.f3)] 71 (0, 0)) (by (with_reducible repeat (first | refine blk_drewN ?_ _ | refine blk_drew ?_ | refine blk_alloc ?_ _)); refine blk_put (cs := #[.int .i64 ((rd_T71 ((rd_T65 l0 t348).f0) x49_1).f0), .int .i64 ((rd_T71 ((rd_T65 l0 t348).f0) x49_1).f1.f0), .int .i64 ((rd_T71 ((rd_T65 l0 t348).f0) x49_1).f1.f1), .int .i64 ((rd_T71 ((rd_T65 l0 t348).f0) x49_1).f1.f2), .int .i64 0]) ?_ 4 _ rfl; (with_reducible repeat (first | refine blk_drewN ?_ _ | refine blk_drew ?_ | refine blk_alloc ?_ _)); refine blk_put (cs := #[.int .i64 ((rd_T71 ((rd_T65 l0 t348).f0) x49_1).f0), .int .i64 ((rd_T71 ((rd_T65 l0 t348).f0) x49_1).f1.f0), .int .i64 ((rd_T71 ((rd_T65 l0 t348).f0) x49_1).f1.f1), .int .i64 0, .int .i64 0]) ?_ 3 _ rfl; (with_reducible repeat (first | refine blk_drewN ?_ _ | refine blk_drew ?_ | refine blk_alloc ?_ _)); refine blk_put (cs := #[.int .i64 ((rd_T71 ((rd_T65 l0 t348).f0) x49_1).f0), .int .i64 ((rd_T71 ((rd_T65 l0 t348).f0) x49_1).f1.f0), .int .i64 0, .int .i64 0, .int .i64 0]) ?_ 2 _ rfl; (with_reducible repeat (first | refine blk_drewN ?_ _ | refine blk_drew ?_ | refine blk_alloc ?_ _)); refine blk_put (cs := #[.int .i64 ((rd_T71 ((rd_T65 l0 t348).f0) x49_1).f0), .int .i64 0, .int .i64 0, .int .i64 0, .int .i64 0]) ?_ 1 _ rfl; (with_reducible repeat (first | refine blk_drewN ?_ _ | refine blk_drew ?_ | refine blk_alloc ?_ _)); refine blk_put (cs := #[.int .i64 0, .int .i64 0, .int .i64 0, .int .i64 0, .int .i64 0]) ?_ 0 _ rfl; (with_reducible repeat (first | refine blk_drewN ?_ _ | refine blk_drew ?_ | refine blk_alloc ?_ _)); exact BK358.out) hb); replace HB := am (below_step (bg2 HB.out GE341.out GE358.out) hb); (try clear hb); (try clear hb2); (try clear hk); (try clear hi)))
     go_roundg k1
     case measure => have := HK1.out; omega
     case rel => exact ⟨(x13_1), (wrap64 (x49_1 + 1)), rf, H', ⟨by have := HK1.out; omega⟩, ⟨pr HO_13.out⟩, ⟨pb BK341.out⟩, ⟨bg2 HB.out GE341.out GE358.out⟩⟩
   subst c38
   have H1 : ((impl_FindLive.f k1 l0 t348 x49_1).bind fun t360 => (if t360 = true then ((impl_diskStep.f ((rd_T71 ((rd_T65 l0 t348).f0) x49_1).f1.f0) ((rd_T71 ((rd_T65 l0 t348).f0) x49_1).f1.f1) ((rd_T71 ((rd_T65 l0 t348).f0) x49_1).f1.f2) ((rd_T71 ((rd_T65 l0 t348).f0) x49_1).f1.f3)).bind fun bt361 => (if x13_1.length < 2199023255552 then (impl_stepsWrite.l0 k1 l0 t348 (x13_1 ++ [(⟨bt361.1, bt361.2.1, bt361.2.2.1, bt361.2.2.2.1, (⟨bt361.2.2.2.2.1, bt361.2.2.2.2.2.1, bt361.2.2.2.2.2.2.1, bt361.2.2.2.2.2.2.2⟩ : S30)⟩ : S85)]) ((rd_T65 l0 t348).f0) (((rd_T65 l0 t348).f0).length : Int) (wrap64 (x49_1 + 1)) a1 t340 a2 a3) else (none))) else (impl_stepsWrite.l0 k1 l0 t348 x13_1 ((rd_T65 l0 t348).f0) (((rd_T65 l0 t348).f0).length : Int) (wrap64 (x49_1 + 1)) a1 t340 a2 a3))) = some r := by rw [if_pos rfl] at H; exact H
   clear H
   have H := H1
   clear H1
   replace H := Option.bind_eq_some_iff.mp H
   obtain ⟨t360, A390, H⟩ := H
   replace H : (if t360 = true then ((impl_diskStep.f ((rd_T71 ((rd_T65 l0 t348).f0) x49_1).f1.f0) ((rd_T71 ((rd_T65 l0 t348).f0) x49_1).f1.f1) ((rd_T71 ((rd_T65 l0 t348).f0) x49_1).f1.f2) ((rd_T71 ((rd_T65 l0 t348).f0) x49_1).f1.f3)).bind fun bt361 => (if x13_1.length < 2199023255552 then (impl_stepsWrite.l0 k1 l0 t348 (x13_1 ++ [(⟨bt361.1, bt361.2.1, bt361.2.2.1, bt361.2.2.2.1, (⟨bt361.2.2.2.2.1, bt361.2.2.2.2.2.1, bt361.2.2.2.2.2.2.1, bt361.2.2.2.2.2.2.2⟩ : S30)⟩ : S85)]) ((rd_T65 l0 t348).f0) (((rd_T65 l0 t348).f0).length : Int) (wrap64 (x49_1 + 1)) a1 t340 a2 a3) else (none))) else (impl_stepsWrite.l0 k1 l0 t348 x13_1 ((rd_T65 l0 t348).f0) (((rd_T65 l0 t348).f0).length : Int) (wrap64 (x49_1 + 1)) a1 t340 a2 a3)) = some r := H
   have A39 := am A390
   clear A390
   by_cases c40 : t360 = true
   rotate_left
   · replace c40 := Bool.eq_false_iff.mpr c40
     subst c40
     have H1 : (impl_stepsWrite.l0 k1 l0 t348 x13_1 ((rd_T65 l0 t348).f0) (((rd_T65 l0 t348).f0).length : Int) (wrap64 (x49_1 + 1)) a1 t340 a2 a3) = some r := by rw [if_neg (show ¬ (false = true) by decide)] at H; exact H
     clear H
     have H := H1
     clear H1
     have H' := am H
     clear H
     have p357 : 0 ≤ (x49_1 : Int) := ofb
     have q357 : x49_1 < (((rd_T65 l0 t348).f0).length : Int) := ofb
     obtain ⟨ad357, e357, hx357_0, hx357_1, hx357_2, hx357_3, hx357_4⟩ := at_T71 HR350_0.out x49_1 p357 q357
     cases e357
     replace hx357_0 := up HB.out hx357_0
     replace hx357_1 := up HB.out hx357_1
     replace hx357_2 := up HB.out hx357_2
     replace hx357_3 := up HB.out hx357_3
     replace hx357_4 := up HB.out hx357_4
     replace p357 := eq_true p357
     replace q357 := eq_true q357
     go_wp2_with (first | (refine bx 15 #[.int .i64 0, .int .i64 0, .int .i64 0, .int .i64 0, .int .i64 0] 71 rfl ?_; intro gb358 hg w51 hbox hb; replace HO_13 := am (Kd.R_below (pr HO_13.out) hb); have BK358 := am (hbox); have GW358 := am ((by rw [hg]; exact (below_size (bg1 HB.out GE341.out)) : w.heap.size ≤ gb358)); have GE358 := GW358; replace HB := am (below_step (bg1 HB.out GE341.out) hb); have NB341_358 := am ((by rw [hg]; exact Nat.ne_of_lt (blk_lt (pb BK341.out)) : gb341 ≠ gb358)); have NB358_341 := am (Ne.symm NB341_358.out); replace BK341 := am (blk_below (pb BK341.out) hb); clear hb hbox hg; have hnb52 := NB358_341.out; have hnc52 := NB341_358.out; obtain ⟨hcz53_0, hcz53_1, hcz53_2, hcz53_3, hcz53_4⟩ := b5 BK358.out; obtain ⟨hfz53_0, hfz53_1, hfz53_2, hfz53_3, hfz53_4⟩ := f5 BK358.out) | (refine gl 56 Try.func59 #[.agg #[.int .i64 ((rd_T71 ((rd_T65 l0 t348).f0) x49_1).f1.f0), .int .i64 ((rd_T71 ((rd_T65 l0 t348).f0) x49_1).f1.f1), .int .i64 ((rd_T71 ((rd_T65 l0 t348).f0) x49_1).f1.f2), .int .i64 ((rd_T71 ((rd_T65 l0 t348).f0) x49_1).f1.f3)]] rfl ?_; (with_reducible refine (impl_Rec_isDirty.calls ((rd_T71 ((rd_T65 l0 t348).f0) x49_1).f1.f0) ((rd_T71 ((rd_T65 l0 t348).f0) x49_1).f1.f1) ((rd_T71 ((rd_T65 l0 t348).f0) x49_1).f1.f2) ((rd_T71 ((rd_T65 l0 t348).f0) x49_1).f1.f3) true _ A37.out).mono ?_); rintro e w54 ⟨rfl, hb⟩; refine ⟨_, rfl, ?_⟩; replace HO_13 := am (Kd.R_below (by (with_reducible repeat (first | apply Kd.R_alloc | apply Kd.R_drewN | apply Kd.R_drew)); exact (Kd.R_mono (Kd.R_far (p := ⟨gb358, 4, none⟩) (Kd.R_far (p := ⟨gb358, 3, none⟩) (Kd.R_far (p := ⟨gb358, 2, none⟩) (Kd.R_far (p := ⟨gb358, 1, none⟩) (Kd.R_far (p := ⟨gb358, 0, none⟩) (Kd.R_types HO_13.out BK358.out (by decide)) (fun _ hk => hk.2) (.int .i64 ((rd_T71 ((rd_T65 l0 t348).f0) x49_1).f0))) (fun _ hk => hk.2) (.int .i64 ((rd_T71 ((rd_T65 l0 t348).f0) x49_1).f1.f0))) (fun _ hk => hk.2) (.int .i64 ((rd_T71 ((rd_T65 l0 t348).f0) x49_1).f1.f1))) (fun _ hk => hk.2) (.int .i64 ((rd_T71 ((rd_T65 l0 t348).f0) x49_1).f1.f2))) (fun _ hk => hk.2) (.int .i64 ((rd_T71 ((rd_T65 l0 t348).f0) x49_1).f1.f3))) (fun _ h_ => h_.1))) hb); replace BK341 := am (blk_below (g := gb341) (o := .cells #[.int .i64 a1, .int .i64 t340, .int .i64 a2, .int .i64 a3] 30 (0, 0)) (by (with_reducible repeat (first | refine blk_drewN ?_ _ | refine blk_drew ?_ | refine blk_alloc ?_ _)); refine blk_far ?_ NB341_358.out _; (with_reducible repeat (first | refine blk_drewN ?_ _ | refine blk_drew ?_ | refine blk_alloc ?_ _)); refine blk_far ?_ NB341_358.out _; (with_reducible repeat (first | refine blk_drewN ?_ _ | refine blk_drew ?_ | refine blk_alloc ?_ _)); refine blk_far ?_ NB341_358.out _; (with_reducible repeat (first | refine blk_drewN ?_ _ | refine blk_drew ?_ | refine blk_alloc ?_ _)); refine blk_far ?_ NB341_358.out _; (with_reducible repeat (first | refine blk_drewN ?_ _ | refine blk_drew ?_ | refine blk_alloc ?_ _)); refine blk_far ?_ NB341_358.out _; (with_reducible repeat (first | refine blk_drewN ?_ _ | refine blk_drew ?_ | refine blk_alloc ?_ _)); exact BK341.out) hb); replace BK358 := am (blk_below (g := gb358) (o := .cells #[.int .i64 ((rd_T71 ((rd_T65 l0 t348).f0) x49_1).f0), .int .i64 ((rd_T71 ((rd_T65 l0 t348).f0) x49_1).f1.f0), .int .i64 ((rd_T71 ((rd_T65 l0 t348).f0) x49_1).f1.f1), .int .i64 ((rd_T71 ((rd_T65 l0 t348).f0) x49_1).f1.f2), .int .i64 ((rd_T71 ((rd_T65 l0 t348).f0) x49_1).f1.f3)] 71 (0, 0)) (by (with_reducible repeat (first | refine blk_drewN ?_ _ | refine blk_drew ?_ | refine blk_alloc ?_ _)); refine blk_put (cs := #[.int .i64 ((rd_T71 ((rd_T65 l0 t348).f0) x49_1).f0), .int .i64 ((rd_T71 ((rd_T65 l0 t348).f0) x49_1).f1.f0), .int .i64 ((rd_T71 ((rd_T65 l0 t348).f0) x49_1).f1.f1), .int .i64 ((rd_T71 ((rd_T65 l0 t348).f0) x49_1).f1.f2), .int .i64 0]) ?_ 4 _ rfl; (with_reducible repeat (first | refine blk_drewN ?_ _ | refine blk_drew ?_ | refine blk_alloc ?_ _)); refine blk_put (cs := #[.int .i64 ((rd_T71 ((rd_T65 l0 t348).f0) x49_1).f0), .int .i64 ((rd_T71 ((rd_T65 l0 t348).f0) x49_1).f1.f0), .int .i64 ((rd_T71 ((rd_T65 l0 t348).f0) x49_1).f1.f1), .int .i64 0, .int .i64 0]) ?_ 3 _ rfl; (with_reducible repeat (first | refine blk_drewN ?_ _ | refine blk_drew ?_ | refine blk_alloc ?_ _)); refine blk_put (cs := #[.int .i64 ((rd_T71 ((rd_T65 l0 t348).f0) x49_1).f0), .int .i64 ((rd_T71 ((rd_T65 l0 t348).f0) x49_1).f1.f0), .int .i64 0, .int .i64 0, .int .i64 0]) ?_ 2 _ rfl; (with_reducible repeat (first | refine blk_drewN ?_ _ | refine blk_drew ?_ | refine blk_alloc ?_ _)); refine blk_put (cs := #[.int .i64 ((rd_T71 ((rd_T65 l0 t348).f0) x49_1).f0), .int .i64 0, .int .i64 0, .int .i64 0, .int .i64 0]) ?_ 1 _ rfl; (with_reducible repeat (first | refine blk_drewN ?_ _ | refine blk_drew ?_ | refine blk_alloc ?_ _)); refine blk_put (cs := #[.int .i64 0, .int .i64 0, .int .i64 0, .int .i64 0, .int .i64 0]) ?_ 0 _ rfl; (with_reducible repeat (first | refine blk_drewN ?_ _ | refine blk_drew ?_ | refine blk_alloc ?_ _)); exact BK358.out) hb); replace HB := am (below_step (bg2 HB.out GE341.out GE358.out) hb); (try clear hb); (try clear hb2); (try clear hk); (try clear hi)) | (go_at_call 89; (with_reducible refine (impl_FindLive.calls k1 _ _ l0 t348 x49_1 false _ ?side1 ?side2 A39.out).mono ?_); (case side1 => exact pc (Kd.C_below HR0.out HB.out)); (case side2 => exact HC0.out); rintro e w55 ⟨rfl, hb⟩; replace HO_13 := am (Kd.R_below (pr HO_13.out) hb); replace BK341 := am (blk_below (pb BK341.out) hb); replace BK358 := am (blk_below (pb BK358.out) hb); replace HB := am (below_step (bg2 HB.out GE341.out GE358.out) hb); (try clear hb); (try clear hb2); (try clear hk); (try clear hi)))
     go_roundg k1
     case measure => have := HK1.out; omega
     case rel => exact ⟨(x13_1), (wrap64 (x49_1 + 1)), rf, H', ⟨by have := HK1.out; omega⟩, ⟨pr HO_13.out⟩, ⟨pb BK341.out⟩, ⟨bg2 HB.out GE341.out GE358.out⟩⟩
   subst c40
   have H1 : ((impl_diskStep.f ((rd_T71 ((rd_T65 l0 t348).f0) x49_1).f1.f0) ((rd_T71 ((rd_T65 l0 t348).f0) x49_1).f1.f1) ((rd_T71 ((rd_T65 l0 t348).f0) x49_1).f1.f2) ((rd_T71 ((rd_T65 l0 t348).f0) x49_1).f1.f3)).bind fun bt361 => (if x13_1.length < 2199023255552 then (impl_stepsWrite.l0 k1 l0 t348 (x13_1 ++ [(⟨bt361.1, bt361.2.1, bt361.2.2.1, bt361.2.2.2.1, (⟨bt361.2.2.2.2.1, bt361.2.2.2.2.2.1, bt361.2.2.2.2.2.2.1, bt361.2.2.2.2.2.2.2⟩ : S30)⟩ : S85)]) ((rd_T65 l0 t348).f0) (((rd_T65 l0 t348).f0).length : Int) (wrap64 (x49_1 + 1)) a1 t340 a2 a3) else (none))) = some r := by rw [if_pos rfl] at H; exact H
   clear H
   have H := H1
   clear H1
   replace H := Option.bind_eq_some_iff.mp H
   obtain ⟨⟨t361, t362, t363, t364, t365, t366, t367, t368⟩, A410, H⟩ := H
   replace H : (if x13_1.length < 2199023255552 then (impl_stepsWrite.l0 k1 l0 t348 (x13_1 ++ [(⟨t361, t362, t363, t364, (⟨t365, t366, t367, t368⟩ : S30)⟩ : S85)]) ((rd_T65 l0 t348).f0) (((rd_T65 l0 t348).f0).length : Int) (wrap64 (x49_1 + 1)) a1 t340 a2 a3) else (none)) = some r := H
   have A41 := am A410
   clear A410
   by_cases c42 : x13_1.length < 2199023255552
   rotate_left
   · rw [if_neg c42] at H
     exact absurd H (by simp)
   rw [if_pos c42] at H
   have LMc42 := am c42
   clear c42
   obtain ⟨y369, hy369⟩ : ∃ y_ : List (S85), y_ = (x13_1 ++ [(⟨t361, t362, t363, t364, (⟨t365, t366, t367, t368⟩ : S30)⟩ : S85)]) := ⟨_, rfl⟩
   replace H : (impl_stepsWrite.l0 k1 l0 t348 y369 ((rd_T65 l0 t348).f0) (((rd_T65 l0 t348).f0).length : Int) (wrap64 (x49_1 + 1)) a1 t340 a2 a3) = some r := by first | (rw [hy369]; with_reducible exact H) | (have H2_ := (Option.bind_some _ _).symm.trans H; rw [hy369]; with_reducible exact H2_) | (have H2_ := (Option.bind_some _ _).symm.trans H; with_reducible exact H2_) | with_reducible exact H | (rw [hy369]; exact H) | exact H
   have Ny369 := am hy369
   clear hy369
   have H' := am H
   clear H
   have p357 : 0 ≤ (x49_1 : Int) := ofb
   have q357 : x49_1 < (((rd_T65 l0 t348).f0).length : Int) := ofb
   obtain ⟨ad357, e357, hx357_0, hx357_1, hx357_2, hx357_3, hx357_4⟩ := at_T71 HR350_0.out x49_1 p357 q357
   cases e357
   replace hx357_0 := up HB.out hx357_0
   replace hx357_1 := up HB.out hx357_1
   replace hx357_2 := up HB.out hx357_2
   replace hx357_3 := up HB.out hx357_3
   replace hx357_4 := up HB.out hx357_4
   replace p357 := eq_true p357
   replace q357 := eq_true q357
   go_wp2_with (first | (refine bx 15 #[.int .i64 0, .int .i64 0, .int .i64 0, .int .i64 0, .int .i64 0] 71 rfl ?_; intro gb358 hg w43 hbox hb; replace HO_13 := am (Kd.R_below (pr HO_13.out) hb); have BK358 := am (hbox); have GW358 := am ((by rw [hg]; exact (below_size (bg1 HB.out GE341.out)) : w.heap.size ≤ gb358)); have GE358 := GW358; replace HB := am (below_step (bg1 HB.out GE341.out) hb); have NB341_358 := am ((by rw [hg]; exact Nat.ne_of_lt (blk_lt (pb BK341.out)) : gb341 ≠ gb358)); have NB358_341 := am (Ne.symm NB341_358.out); replace BK341 := am (blk_below (pb BK341.out) hb); clear hb hbox hg; have hnb44 := NB358_341.out; have hnc44 := NB341_358.out; obtain ⟨hcz45_0, hcz45_1, hcz45_2, hcz45_3, hcz45_4⟩ := b5 BK358.out; obtain ⟨hfz45_0, hfz45_1, hfz45_2, hfz45_3, hfz45_4⟩ := f5 BK358.out) | (refine gl 56 Try.func59 #[.agg #[.int .i64 ((rd_T71 ((rd_T65 l0 t348).f0) x49_1).f1.f0), .int .i64 ((rd_T71 ((rd_T65 l0 t348).f0) x49_1).f1.f1), .int .i64 ((rd_T71 ((rd_T65 l0 t348).f0) x49_1).f1.f2), .int .i64 ((rd_T71 ((rd_T65 l0 t348).f0) x49_1).f1.f3)]] rfl ?_; (with_reducible refine (impl_Rec_isDirty.calls ((rd_T71 ((rd_T65 l0 t348).f0) x49_1).f1.f0) ((rd_T71 ((rd_T65 l0 t348).f0) x49_1).f1.f1) ((rd_T71 ((rd_T65 l0 t348).f0) x49_1).f1.f2) ((rd_T71 ((rd_T65 l0 t348).f0) x49_1).f1.f3) true _ A37.out).mono ?_); rintro e w46 ⟨rfl, hb⟩; refine ⟨_, rfl, ?_⟩; replace HO_13 := am (Kd.R_below (by (with_reducible repeat (first | apply Kd.R_alloc | apply Kd.R_drewN | apply Kd.R_drew)); exact (Kd.R_mono (Kd.R_far (p := ⟨gb358, 4, none⟩) (Kd.R_far (p := ⟨gb358, 3, none⟩) (Kd.R_far (p := ⟨gb358, 2, none⟩) (Kd.R_far (p := ⟨gb358, 1, none⟩) (Kd.R_far (p := ⟨gb358, 0, none⟩) (Kd.R_types HO_13.out BK358.out (by decide)) (fun _ hk => hk.2) (.int .i64 ((rd_T71 ((rd_T65 l0 t348).f0) x49_1).f0))) (fun _ hk => hk.2) (.int .i64 ((rd_T71 ((rd_T65 l0 t348).f0) x49_1).f1.f0))) (fun _ hk => hk.2) (.int .i64 ((rd_T71 ((rd_T65 l0 t348).f0) x49_1).f1.f1))) (fun _ hk => hk.2) (.int .i64 ((rd_T71 ((rd_T65 l0 t348).f0) x49_1).f1.f2))) (fun _ hk => hk.2) (.int .i64 ((rd_T71 ((rd_T65 l0 t348).f0) x49_1).f1.f3))) (fun _ h_ => h_.1))) hb); replace BK341 := am (blk_below (g := gb341) (o := .cells #[.int .i64 a1, .int .i64 t340, .int .i64 a2, .int .i64 a3] 30 (0, 0)) (by (with_reducible repeat (first | refine blk_drewN ?_ _ | refine blk_drew ?_ | refine blk_alloc ?_ _)); refine blk_far ?_ NB341_358.out _; (with_reducible repeat (first | refine blk_drewN ?_ _ | refine blk_drew ?_ | refine blk_alloc ?_ _)); refine blk_far ?_ NB341_358.out _; (with_reducible repeat (first | refine blk_drewN ?_ _ | refine blk_drew ?_ | refine blk_alloc ?_ _)); refine blk_far ?_ NB341_358.out _; (with_reducible repeat (first | refine blk_drewN ?_ _ | refine blk_drew ?_ | refine blk_alloc ?_ _)); refine blk_far ?_ NB341_358.out _; (with_reducible repeat (first | refine blk_drewN ?_ _ | refine blk_drew ?_ | refine blk_alloc ?_ _)); refine blk_far ?_ NB341_358.out _; (with_reducible repeat (first | refine blk_drewN ?_ _ | refine blk_drew ?_ | refine blk_alloc ?_ _)); exact BK341.out) hb); replace BK358 := am (blk_below (g := gb358) (o := .cells #[.int .i64 ((rd_T71 ((rd_T65 l0 t348).f0) x49_1).f0), .int .i64 ((rd_T71 ((rd_T65 l0 t348).f0) x49_1).f1.f0), .int .i64 ((rd_T71 ((rd_T65 l0 t348).f0) x49_1).f1.f1), .int .i64 ((rd_T71 ((rd_T65 l0 t348).f0) x49_1).f1.f2), .int .i64 ((rd_T71 ((rd_T65 l0 t348).f0) x49_1).f1.f3)] 71 (0, 0)) (by (with_reducible repeat (first | refine blk_drewN ?_ _ | refine blk_drew ?_ | refine blk_alloc ?_ _)); refine blk_put (cs := #[.int .i64 ((rd_T71 ((rd_T65 l0 t348).f0) x49_1).f0), .int .i64 ((rd_T71 ((rd_T65 l0 t348).f0) x49_1).f1.f0), .int .i64 ((rd_T71 ((rd_T65 l0 t348).f0) x49_1).f1.f1), .int .i64 ((rd_T71 ((rd_T65 l0 t348).f0) x49_1).f1.f2), .int .i64 0]) ?_ 4 _ rfl; (with_reducible repeat (first | refine blk_drewN ?_ _ | refine blk_drew ?_ | refine blk_alloc ?_ _)); refine blk_put (cs := #[.int .i64 ((rd_T71 ((rd_T65 l0 t348).f0) x49_1).f0), .int .i64 ((rd_T71 ((rd_T65 l0 t348).f0) x49_1).f1.f0), .int .i64 ((rd_T71 ((rd_T65 l0 t348).f0) x49_1).f1.f1), .int .i64 0, .int .i64 0]) ?_ 3 _ rfl; (with_reducible repeat (first | refine blk_drewN ?_ _ | refine blk_drew ?_ | refine blk_alloc ?_ _)); refine blk_put (cs := #[.int .i64 ((rd_T71 ((rd_T65 l0 t348).f0) x49_1).f0), .int .i64 ((rd_T71 ((rd_T65 l0 t348).f0) x49_1).f1.f0), .int .i64 0, .int .i64 0, .int .i64 0]) ?_ 2 _ rfl; (with_reducible repeat (first | refine blk_drewN ?_ _ | refine blk_drew ?_ | refine blk_alloc ?_ _)); refine blk_put (cs := #[.int .i64 ((rd_T71 ((rd_T65 l0 t348).f0) x49_1).f0), .int .i64 0, .int .i64 0, .int .i64 0, .int .i64 0]) ?_ 1 _ rfl; (with_reducible repeat (first | refine blk_drewN ?_ _ | refine blk_drew ?_ | refine blk_alloc ?_ _)); refine blk_put (cs := #[.int .i64 0, .int .i64 0, .int .i64 0, .int .i64 0, .int .i64 0]) ?_ 0 _ rfl; (with_reducible repeat (first | refine blk_drewN ?_ _ | refine blk_drew ?_ | refine blk_alloc ?_ _)); exact BK358.out) hb); replace HB := am (below_step (bg2 HB.out GE341.out GE358.out) hb); (try clear hb); (try clear hb2); (try clear hk); (try clear hi)) | (go_at_call 89; (with_reducible refine (impl_FindLive.calls k1 _ _ l0 t348 x49_1 true _ ?side1 ?side2 A39.out).mono ?_); (case side1 => exact pc (Kd.C_below HR0.out HB.out)); (case side2 => exact HC0.out); rintro e w47 ⟨rfl, hb⟩; replace HO_13 := am (Kd.R_below (pr HO_13.out) hb); replace BK341 := am (blk_below (pb BK341.out) hb); replace BK358 := am (blk_below (pb BK358.out) hb); replace HB := am (below_step (bg2 HB.out GE341.out GE358.out) hb); (try clear hb); (try clear hb2); (try clear hk); (try clear hi); have hcz48_0 : w47.cell? ⟨gb358, 0, none⟩ = some (.int .i64 ((rd_T71 ((rd_T65 l0 t348).f0) x49_1).f0)) := (blk_cell BK358.out 0).trans rfl; have hcz48_1 : w47.cell? ⟨gb358, 1, none⟩ = some (.int .i64 ((rd_T71 ((rd_T65 l0 t348).f0) x49_1).f1.f0)) := (blk_cell BK358.out 1).trans rfl; have hcz48_2 : w47.cell? ⟨gb358, 2, none⟩ = some (.int .i64 ((rd_T71 ((rd_T65 l0 t348).f0) x49_1).f1.f1)) := (blk_cell BK358.out 2).trans rfl; have hcz48_3 : w47.cell? ⟨gb358, 3, none⟩ = some (.int .i64 ((rd_T71 ((rd_T65 l0 t348).f0) x49_1).f1.f2)) := (blk_cell BK358.out 3).trans rfl; have hcz48_4 : w47.cell? ⟨gb358, 4, none⟩ = some (.int .i64 ((rd_T71 ((rd_T65 l0 t348).f0) x49_1).f1.f3)) := (blk_cell BK358.out 4).trans rfl; obtain ⟨hfz48_0, hfz48_1, hfz48_2, hfz48_3, hfz48_4⟩ := f5 BK358.out) | (refine gl 66 Try.func68 #[.agg #[.int .i64 ((rd_T71 ((rd_T65 l0 t348).f0) x49_1).f1.f0), .int .i64 ((rd_T71 ((rd_T65 l0 t348).f0) x49_1).f1.f1), .int .i64 ((rd_T71 ((rd_T65 l0 t348).f0) x49_1).f1.f2), .int .i64 ((rd_T71 ((rd_T65 l0 t348).f0) x49_1).f1.f3)]] rfl ?_; (with_reducible refine (impl_diskStep.calls ((rd_T71 ((rd_T65 l0 t348).f0) x49_1).f1.f0) ((rd_T71 ((rd_T65 l0 t348).f0) x49_1).f1.f1) ((rd_T71 ((rd_T65 l0 t348).f0) x49_1).f1.f2) ((rd_T71 ((rd_T65 l0 t348).f0) x49_1).f1.f3) t361 t362 t363 t364 t365 t366 t367 t368 _ A41.out).mono ?_); rintro e w49 ⟨rfl, hb⟩; refine ⟨_, rfl, ?_⟩; replace HO_13 := am (Kd.R_below (pr HO_13.out) hb); replace BK341 := am (blk_below (pb BK341.out) hb); replace BK358 := am (blk_below (pb BK358.out) hb); replace HB := am (below_step (bg2 HB.out GE341.out GE358.out) hb); (try clear hb); (try clear hb2); (try clear hk); (try clear hi)) | ((with_reducible refine gate_builtin (b := .append) (xs := #[.tmp 63, .tmp 67]) rfl ?_); at_builtin; refine Kd.R_append k85 (w0 := w) w.heap.size rfl (.tmp 63) (.tmp 67) 48 85 (.agg #[(.int .i64 0), (.int .i64 0), (.int .i64 0), (.int .i64 0), (.int .i64 0), (.int .i64 0), (.int .i64 0), (.int .i64 0)]) 64 rfl Try.underlying48 info85 rfl (by decide) (by omega) u13 x13_1 (⟨t361, t362, t363, t364, (⟨t365, t366, t367, t368⟩ : S30)⟩ : S85) [.int .i64 t361, .int .i64 t362, .int .i64 t363, .int .i64 t364, .int .i64 t365, .int .i64 t366, .int .i64 t367, .int .i64 t368] (fun _ => True) (fun _ => False) rfl rfl ?aP (fun _ hk => hk.elim) ?aF ?aO ?aB ?aS ?aL ?_; (case aP => exact k85_mkM _ _ _ (⟨t361, t362, t363, t364, (⟨t365, t366, t367, t368⟩ : S30)⟩ : S85)); (case aB => exact (bg2 HB.out GE341.out GE358.out)); (case aF => exact (fun _ _ => trivial)); (case aO => exact (pr HO_13.out)); (case aS => exact (below_size (bg2 HB.out GE341.out GE358.out))); (case aL => have := LMc42.out; omega); intro v370 w50 ho hb hg hat; rw [← Ny369.out] at ho; replace BK341 := am (blk_grown (g := gb341) (o := .cells #[.int .i64 a1, .int .i64 t340, .int .i64 a2, .int .i64 a3] 30 (0, 0)) (pb BK341.out) hg (Kd.R_ne HO_13.out BK341.out (by decide))); replace BK358 := am (blk_grown (g := gb358) (o := .cells #[.int .i64 ((rd_T71 ((rd_T65 l0 t348).f0) x49_1).f0), .int .i64 ((rd_T71 ((rd_T65 l0 t348).f0) x49_1).f1.f0), .int .i64 ((rd_T71 ((rd_T65 l0 t348).f0) x49_1).f1.f1), .int .i64 ((rd_T71 ((rd_T65 l0 t348).f0) x49_1).f1.f2), .int .i64 ((rd_T71 ((rd_T65 l0 t348).f0) x49_1).f1.f3)] 71 (0, 0)) (pb BK358.out) hg (Kd.R_ne HO_13.out BK358.out (by decide))); replace HB := am (hb); have HO371 := am (ho); clear HO_13; clear ho hb hg hat))
   go_roundg k1
   case measure => have := HK1.out; omega
   case rel => exact ⟨(y369), (wrap64 (x49_1 + 1)), rf, H', ⟨by have := HK1.out; omega⟩, ⟨pr HO371.out⟩, ⟨pb BK341.out⟩, ⟨bg2 HB.out GE341.out GE358.out⟩⟩
def impl_StepsFill.j0 : Nat → Int → Bool → List (S65) → List Int → Option ((List (S85)))
 | 0, _, _, _, _ => none
 | k + 1, x1, x14, x373000, x373001 => if x14 = true then (some ([] : List (S85))) else ((impl_FindLast.f x373000 x1).bind fun bt375 => (if bt375.2.2.2.2 = true then (some ([] : List (S85))) else (if 0 ≤ (wrap64 (x1 - 1)) then (if (wrap64 (x1 - 1)) < (x373001.length : Int) then ((impl_stepsWrite.f k x373000 2 x1 (rd x373001 (wrap64 (x1 - 1)))).bind fun t382 => (some t382)) else (none)) else (none))))
def impl_StepsFill.f (k : Nat) (l0_0 : List (S65)) (l0_1 : List Int) (a1 : Int) : Option ((List (S85))) := (impl_StoreOk.f l0_0 l0_1).bind fun t373 => (if t373 = true then ((impl_addrOk.f a1).bind fun t374 => (impl_StepsFill.j0 k a1 (!t374) l0_0 l0_1)) else (impl_StepsFill.j0 k a1 true l0_0 l0_1))
theorem impl_StepsFill.mono_l : ∀ k, (∀ y0 y1 y2 y3, LeO (impl_StepsFill.j0 k y0 y1 y2 y3) (impl_StepsFill.j0 (k + 1) y0 y1 y2 y3))
 | 0 => fun _ _ _ _ r h => by simp [impl_StepsFill.j0] at h
 | k + 1 => by
  have ih0 := impl_StepsFill.mono_l k
  · intro y0 y1 y2 y3
    unfold impl_StepsFill.j0
    repeat' first
    | (with_reducible exact ih0 _ _ _ _)
    | (with_reducible exact impl_stepsWrite.mono _ _ _ _ _)
    | (with_reducible exact LeO.refl _)
    | (with_reducible exact LeO.none _)
    | (with_reducible refine LeO.ite ?_ ?_)
    | (with_reducible refine LeO.bind ?_ (fun _ => ?_))
    | exact ih0 _ _ _ _
    | exact impl_stepsWrite.mono _ _ _ _ _
    | exact LeO.none _
    | refine LeO.ite ?_ ?_
    | refine LeO.bind ?_ (fun _ => ?_)
theorem impl_StepsFill.mono : ∀ a0 a1 a2 k, LeO (impl_StepsFill.f k a0 a1 a2) (impl_StepsFill.f (k + 1) a0 a1 a2) := by
 intro a0 a1 a2 k
 have ih0 := impl_StepsFill.mono_l k
 unfold impl_StepsFill.f
 repeat' first
  | (with_reducible exact ih0 _ _ _ _)
  | (with_reducible exact impl_stepsWrite.mono _ _ _ _ _)
  | (with_reducible exact LeO.refl _)
  | (with_reducible exact LeO.none _)
  | (with_reducible refine LeO.ite ?_ ?_)
  | (with_reducible refine LeO.bind ?_ (fun _ => ?_))
  | exact ih0 _ _ _ _
  | exact impl_stepsWrite.mono _ _ _ _ _
  | exact LeO.none _
  | refine LeO.ite ?_ ?_
  | refine LeO.bind ?_ (fun _ => ?_)
def impl_StepsFill.T6 : Bool × List (List Nat × List Nat) := (true, [([], []), ([0], [0]), ([], []), ([], []), ([3], [3]), ([], []), ([5], [5]), ([4, 6], [4, 6]), ([7], [7]), ([1, 2, 8], [1, 2, 8]), ([9, 9, 0, 1, 2, 3, 4, 5, 6, 7, 8, 9], [9])])
def impl_StepsFill.B6 : List Nat := [0, 1, 0, 0, 8, 0, 32, 120, 248, 511, 1023]
theorem impl_StepsFill.tab6 : rtab .any (opsOf Try.f34 6) = impl_StepsFill.T6 := by kernel_rfl
theorem impl_StepsFill.bits6 : waitsOk impl_StepsFill.T6.2 impl_StepsFill.B6 = true := by kernel_rfl
set_option maxHeartbeats 8000000 in
set_option maxRecDepth 100000 in
theorem impl_StepsFill.calls (k : Nat) (A0_0 : Option Addr) (c0_0 : Nat) (l0_0 : List (S65)) (A0_1 : Option Addr) (c0_1 : Nat) (l0_1 : List Int) (a1 : Int) (r : List (S85)) (w : World) (hr0_0 : Kd.C k65 w A0_0 l0_0.length l0_0) (hc0_0 : l0_0.length ≤ c0_0) (hr0_1 : Kd.C (Kd.int .i64) w A0_1 l0_1.length l0_1) (hc0_1 : l0_1.length ≤ c0_1) (h : impl_StepsFill.f k l0_0 l0_1 a1 = some r) :
 Calls Try.prog 34 #[.agg #[.slice A0_0 l0_0.length c0_0, .slice A0_1 l0_1.length c0_1], .int .i64 a1] w fun e w' => ∃ v0_ : Value, e = .returned (v0_) ∧ Kd.R k85 85 w' w.heap.size (fun _ => True) v0_ r ∧ Below w.heap.size w w' := by
 have hu41 := Try.underlying41
 have hu30 := Try.underlying30
 have HR0_0 := am hr0_0
 have HC0_0 := am hc0_0
 clear hr0_0 hc0_0
 have HR0_1 := am hr0_1
 have HC0_1 := am hc0_1
 clear hr0_1 hc0_1
 have HB := am (Below.refl w.heap.size w)
 have H : ((impl_StoreOk.f l0_0 l0_1).bind fun t373 => (if t373 = true then ((impl_addrOk.f a1).bind fun t374 => (impl_StepsFill.j0 k a1 (!t374) l0_0 l0_1)) else (impl_StepsFill.j0 k a1 true l0_0 l0_1))) = some r := h
 clear h
 have HC3 := am H
 clear H
 go_enter Try.func34, Try.ntmps34
 go_upto_region 1 with (first | (refine bx 2 #[.slice A0_0 l0_0.length c0_0, .slice A0_1 l0_1.length c0_1] 41 rfl ?_; intro gb372 hg w4 hbox hb; have BK372 := am (hbox); have GW372 := am ((by rw [hg]; exact (below_size (ph HB.out)) : w.heap.size ≤ gb372)); have GE372 := GW372; replace HB := am (below_step (ph HB.out) hb); clear hb hbox hg))
 (try simp only [Act.put, List.setIfInBounds_toArray, List.set_cons_zero, List.set_cons_succ])
 go_cut [14] (fun v14 wc => ∃ (kq : Nat) (x14_2 : Bool), v14 = .bool x14_2 ∧ Aside0 (impl_StepsFill.j0 kq a1 x14_2 l0_0 l0_1 = some r) ∧ Aside0 (kq ≤ k) ∧ Aside0 (wc.heap[gb372]? = some (.cells #[(.slice A0_0 l0_0.length c0_0), (.slice A0_1 l0_1.length c0_1)] 41 (0, 0))) ∧ Aside0 (Below w.heap.size w wc))
 case first =>
  have H := HC3.out
  clear HC3
  replace H := Option.bind_eq_some_iff.mp H
  obtain ⟨t373, A50, H⟩ := H
  replace H : (if t373 = true then ((impl_addrOk.f a1).bind fun t374 => (impl_StepsFill.j0 k a1 (!t374) l0_0 l0_1)) else (impl_StepsFill.j0 k a1 true l0_0 l0_1)) = some r := H
  have A5 := am A50
  clear A50
  by_cases c6 : t373 = true
  rotate_left
  · replace c6 := Bool.eq_false_iff.mpr c6
    subst c6
    have H1 : (impl_StepsFill.j0 k a1 true l0_0 l0_1) = some r := by rw [if_neg (show ¬ (false = true) by decide)] at H; exact H
    clear H
    have H := H1
    clear H1
    have H' := am H
    clear H
    obtain ⟨hcz10_0, hcz10_1⟩ := b2 BK372.out
    obtain ⟨hfz10_0, hfz10_1⟩ := f2 BK372.out
    go_wp2_with (first | (refine gl 8 Try.func57 #[.agg #[.slice A0_0 l0_0.length c0_0, .slice A0_1 l0_1.length c0_1]] rfl ?_; (with_reducible refine (impl_StoreOk.calls _ _ l0_0 _ _ l0_1 false _ ?side1 ?side2 ?side3 ?side4 A5.out).mono ?_); (case side1 => exact pc (Kd.C_below HR0_0.out HB.out)); (case side2 => exact HC0_0.out); (case side3 => exact pc (Kd.C_below HR0_1.out HB.out)); (case side4 => exact HC0_1.out); rintro e w11 ⟨rfl, hb⟩; refine ⟨_, rfl, ?_⟩; replace BK372 := am (blk_below (pb BK372.out) hb); replace HB := am (below_step (bg1 HB.out GE372.out) hb); (try clear hb); (try clear hb2); (try clear hk); (try clear hi)))
    go_meet
    case rel => exact ⟨_, (true), rf, H', ⟨by first | omega | exact Nat.le_refl _⟩, ⟨pb BK372.out⟩, ⟨bg1 HB.out GE372.out⟩⟩
  subst c6
  have H1 : ((impl_addrOk.f a1).bind fun t374 => (impl_StepsFill.j0 k a1 (!t374) l0_0 l0_1)) = some r := by rw [if_pos rfl] at H; exact H
  clear H
  have H := H1
  clear H1
  replace H := Option.bind_eq_some_iff.mp H
  obtain ⟨t374, A70, H⟩ := H
  replace H : (impl_StepsFill.j0 k a1 (!t374) l0_0 l0_1) = some r := H
  have A7 := am A70
  clear A70
  have H' := am H
  clear H
  obtain ⟨hcz8_0, hcz8_1⟩ := b2 BK372.out
  obtain ⟨hfz8_0, hfz8_1⟩ := f2 BK372.out
  go_wp2_with (first | (refine gl 8 Try.func57 #[.agg #[.slice A0_0 l0_0.length c0_0, .slice A0_1 l0_1.length c0_1]] rfl ?_; (with_reducible refine (impl_StoreOk.calls _ _ l0_0 _ _ l0_1 true _ ?side1 ?side2 ?side3 ?side4 A5.out).mono ?_); (case side1 => exact pc (Kd.C_below HR0_0.out HB.out)); (case side2 => exact HC0_0.out); (case side3 => exact pc (Kd.C_below HR0_1.out HB.out)); (case side4 => exact HC0_1.out); rintro e w9 ⟨rfl, hb⟩; refine ⟨_, rfl, ?_⟩; replace BK372 := am (blk_below (pb BK372.out) hb); replace HB := am (below_step (bg1 HB.out GE372.out) hb); (try clear hb); (try clear hb2); (try clear hk); (try clear hi)) | (go_at_call 65; (with_reducible refine (impl_addrOk.calls a1 t374 _ A7.out).mono ?_); rintro e w' ⟨rfl, ⟨nd, rfl⟩⟩))
  go_meet
  case rel => exact ⟨_, (!t374), rf, H', ⟨by first | omega | exact Nat.le_refl _⟩, ⟨pb BK372.out⟩, ⟨bg1 HB.out GE372.out⟩⟩
 case rest =>
  clear HC3
  obtain ⟨kq, x14_2, rfl, HA, HJ2, BK372, HB⟩ := hcut
  cases kq with
  | zero => exact absurd HA.out (by simp [impl_StepsFill.j0])
  | succ kj2 =>
   have H := HA.out
   clear HA
   simp only [impl_StepsFill.j0] at H
   by_cases c12 : x14_2 = true
   · subst c12
     have H1 : (some ([] : List (S85))) = some r := by rw [if_pos rfl] at H; exact H
     clear H
     have H := H1
     clear H1
     obtain rfl := Option.some.inj H
     go_wp2
     go_ret
     exact ⟨_, rq ⟨by first | exact Kd.R_nil _ _ _ _ _ | exact Kd.N_nil _ _ _ _ _ | exact Kd.V_nil _ _ _ _ _ | exact Kd.Q_nil _ _ _ _ _ | exact Kd.S_nil _ _ _ _ _, bg1 HB.out GE372.out⟩⟩
   replace c12 := Bool.eq_false_iff.mpr c12
   subst c12
   have H1 : ((impl_FindLast.f l0_0 a1).bind fun bt375 => (if bt375.2.2.2.2 = true then (some ([] : List (S85))) else (if 0 ≤ (wrap64 (a1 - 1)) then (if (wrap64 (a1 - 1)) < (l0_1.length : Int) then ((impl_stepsWrite.f kj2 l0_0 2 a1 (rd l0_1 (wrap64 (a1 - 1)))).bind fun t382 => (some t382)) else (none)) else (none)))) = some r := by rw [if_neg (show ¬ (false = true) by decide)] at H; exact H
   clear H
   have H := H1
   clear H1
   replace H := Option.bind_eq_some_iff.mp H
   obtain ⟨⟨t375, t376, t377, t378, t379⟩, A130, H⟩ := H
   replace H : (if t379 = true then (some ([] : List (S85))) else (if 0 ≤ (wrap64 (a1 - 1)) then (if (wrap64 (a1 - 1)) < (l0_1.length : Int) then ((impl_stepsWrite.f kj2 l0_0 2 a1 (rd l0_1 (wrap64 (a1 - 1)))).bind fun t382 => (some t382)) else (none)) else (none))) = some r := H
   have A13 := am A130
   clear A130
   by_cases c14 : t379 = true
   · subst c14
     have H1 : (some ([] : List (S85))) = some r := by rw [if_pos rfl] at H; exact H
     clear H
     have H := H1
     clear H1
     obtain rfl := Option.some.inj H
     obtain ⟨hcz15_0, hcz15_1⟩ := b2 BK372.out
     obtain ⟨hfz15_0, hfz15_1⟩ := f2 BK372.out
     go_wp2_with (first | (refine gl 19 Try.func66 #[.slice A0_0 l0_0.length c0_0, .int .i64 a1] rfl ?_; (with_reducible refine (impl_FindLast.calls _ _ l0_0 a1 t375 t376 t377 t378 true _ ?side1 ?side2 A13.out).mono ?_); (case side1 => exact pc (Kd.C_below HR0_0.out HB.out)); (case side2 => exact HC0_0.out); rintro e w16 ⟨rfl, hb⟩; refine ⟨_, rfl, ?_⟩; replace BK372 := am (blk_below (pb BK372.out) hb); replace HB := am (below_step (bg1 HB.out GE372.out) hb); (try clear hb); (try clear hb2); (try clear hk); (try clear hi)) | (refine bx 5 #[.int .i64 0, .int .i64 0, .int .i64 0, .int .i64 0] 30 rfl ?_; intro gb380 hg w17 hbox hb; have BK380 := am (hbox); have GW380 := am ((by rw [hg]; exact (below_size (bg1 HB.out GE372.out)) : w.heap.size ≤ gb380)); have GE380 := GW380; replace HB := am (below_step (bg1 HB.out GE372.out) hb); have NB372_380 := am ((by rw [hg]; exact Nat.ne_of_lt (blk_lt (pb BK372.out)) : gb372 ≠ gb380)); have NB380_372 := am (Ne.symm NB372_380.out); replace BK372 := am (blk_below (pb BK372.out) hb); clear hb hbox hg; have hnb18 := NB380_372.out; have hnc18 := NB372_380.out; obtain ⟨hcz19_0, hcz19_1, hcz19_2, hcz19_3⟩ := b4 BK380.out; obtain ⟨hfz19_0, hfz19_1, hfz19_2, hfz19_3⟩ := f4 BK380.out))
     go_ret
     exact ⟨_, rq ⟨by first | exact Kd.R_nil _ _ _ _ _ | exact Kd.N_nil _ _ _ _ _ | exact Kd.V_nil _ _ _ _ _ | exact Kd.Q_nil _ _ _ _ _ | exact Kd.S_nil _ _ _ _ _, bg2 HB.out GE372.out GE380.out⟩⟩
   replace c14 := Bool.eq_false_iff.mpr c14
   subst c14
   have H1 : (if 0 ≤ (wrap64 (a1 - 1)) then (if (wrap64 (a1 - 1)) < (l0_1.length : Int) then ((impl_stepsWrite.f kj2 l0_0 2 a1 (rd l0_1 (wrap64 (a1 - 1)))).bind fun t382 => (some t382)) else (none)) else (none)) = some r := by rw [if_neg (show ¬ (false = true) by decide)] at H; exact H
   clear H
   have H := H1
   clear H1
   obtain ⟨ji20, hji20⟩ : ∃ j_ : Int, (wrap64 (a1 - 1)) = j_ := ⟨_, rfl⟩
   replace H : (if 0 ≤ (ji20) then (if (ji20) < (l0_1.length : Int) then ((impl_stepsWrite.f kj2 l0_0 2 a1 (rd l0_1 (ji20))).bind fun t382 => (some t382)) else (none)) else (none)) = some r := by first | (rw [hji20] at H; exact H) | (simp only [hji20] at H ⊢; exact H)
   (try rw [hji20] at A13)
   have hji20w : (IntKind.i64.wrap (a1 - 1)) = ji20 := (i64_w _).trans hji20
   by_cases c21 : 0 ≤ (ji20)
   rotate_left
   · rw [if_neg c21] at H
     exact absurd H (by simp)
   rw [if_pos c21] at H
   have c21b0 := decide_eq_true c21
   clear c21
   by_cases c22 : (ji20) < (l0_1.length : Int)
   rotate_left
   · rw [if_neg c22] at H
     exact absurd H (by simp)
   rw [if_pos c22] at H
   have c22b0 := decide_eq_true c22
   clear c22
   replace H := Option.bind_eq_some_iff.mp H
   obtain ⟨t382, A230, H⟩ := H
   replace H : (some t382) = some r := H
   have A23 := am A230
   clear A230
   obtain rfl := Option.some.inj H
   obtain ⟨hcz24_0, hcz24_1⟩ := b2 BK372.out
   obtain ⟨hfz24_0, hfz24_1⟩ := f2 BK372.out
   try go_wp2_with (first | (refine gl 19 Try.func66 #[.slice A0_0 l0_0.length c0_0, .int .i64 a1] rfl ?_; (with_reducible refine (impl_FindLast.calls _ _ l0_0 a1 t375 t376 t377 t378 false _ ?side1 ?side2 A13.out).mono ?_); (case side1 => exact pc (Kd.C_below HR0_0.out HB.out)); (case side2 => exact HC0_0.out); rintro e w25 ⟨rfl, hb⟩; refine ⟨_, rfl, ?_⟩; replace BK372 := am (blk_below (pb BK372.out) hb); replace HB := am (below_step (bg1 HB.out GE372.out) hb); (try clear hb); (try clear hb2); (try clear hk); (try clear hi)) | (refine bx 5 #[.int .i64 0, .int .i64 0, .int .i64 0, .int .i64 0] 30 rfl ?_; intro gb380 hg w26 hbox hb; have BK380 := am (hbox); have GW380 := am ((by rw [hg]; exact (below_size (bg1 HB.out GE372.out)) : w.heap.size ≤ gb380)); have GE380 := GW380; replace HB := am (below_step (bg1 HB.out GE372.out) hb); have NB372_380 := am ((by rw [hg]; exact Nat.ne_of_lt (blk_lt (pb BK372.out)) : gb372 ≠ gb380)); have NB380_372 := am (Ne.symm NB372_380.out); replace BK372 := am (blk_below (pb BK372.out) hb); clear hb hbox hg; have hnb27 := NB380_372.out; have hnc27 := NB372_380.out; obtain ⟨hcz28_0, hcz28_1, hcz28_2, hcz28_3⟩ := b4 BK380.out; obtain ⟨hfz28_0, hfz28_1, hfz28_2, hfz28_3⟩ := f4 BK380.out))
   have n0_ : Aside0 (((((w26.setCell ⟨gb380, 0, none⟩ (.int .i64 t375)).setCell ⟨gb380, 1, none⟩ (.int .i64 t376)).setCell ⟨gb380, 2, none⟩ (.int .i64 t377)).setCell ⟨gb380, 3, none⟩ (.int .i64 t378)).heap[gb372]? = some (.cells #[.slice A0_0 l0_0.length c0_0, .slice A0_1 l0_1.length c0_1] 41 (0, 0))) := ⟨by (with_reducible repeat (first | refine blk_drewN ?_ _ | refine blk_drew ?_ | refine blk_alloc ?_ _)); refine blk_far ?_ NB372_380.out _; (with_reducible repeat (first | refine blk_drewN ?_ _ | refine blk_drew ?_ | refine blk_alloc ?_ _)); refine blk_far ?_ NB372_380.out _; (with_reducible repeat (first | refine blk_drewN ?_ _ | refine blk_drew ?_ | refine blk_alloc ?_ _)); refine blk_far ?_ NB372_380.out _; (with_reducible repeat (first | refine blk_drewN ?_ _ | refine blk_drew ?_ | refine blk_alloc ?_ _)); refine blk_far ?_ NB372_380.out _; (with_reducible repeat (first | refine blk_drewN ?_ _ | refine blk_drew ?_ | refine blk_alloc ?_ _)); exact BK372.out⟩
   have n1_ : Aside0 (((((w26.setCell ⟨gb380, 0, none⟩ (.int .i64 t375)).setCell ⟨gb380, 1, none⟩ (.int .i64 t376)).setCell ⟨gb380, 2, none⟩ (.int .i64 t377)).setCell ⟨gb380, 3, none⟩ (.int .i64 t378)).heap[gb380]? = some (.cells #[.int .i64 t375, .int .i64 t376, .int .i64 t377, .int .i64 t378] 30 (0, 0))) := ⟨by (with_reducible repeat (first | refine blk_drewN ?_ _ | refine blk_drew ?_ | refine blk_alloc ?_ _)); refine blk_put (cs := #[.int .i64 t375, .int .i64 t376, .int .i64 t377, .int .i64 0]) ?_ 3 _ rfl; (with_reducible repeat (first | refine blk_drewN ?_ _ | refine blk_drew ?_ | refine blk_alloc ?_ _)); refine blk_put (cs := #[.int .i64 t375, .int .i64 t376, .int .i64 0, .int .i64 0]) ?_ 2 _ rfl; (with_reducible repeat (first | refine blk_drewN ?_ _ | refine blk_drew ?_ | refine blk_alloc ?_ _)); refine blk_put (cs := #[.int .i64 t375, .int .i64 0, .int .i64 0, .int .i64 0]) ?_ 1 _ rfl; (with_reducible repeat (first | refine blk_drewN ?_ _ | refine blk_drew ?_ | refine blk_alloc ?_ _)); refine blk_put (cs := #[.int .i64 0, .int .i64 0, .int .i64 0, .int .i64 0]) ?_ 0 _ rfl; (with_reducible repeat (first | refine blk_drewN ?_ _ | refine blk_drew ?_ | refine blk_alloc ?_ _)); exact BK380.out⟩
   have n2_ : Aside0 (Below w.heap.size w ((((w26.setCell ⟨gb380, 0, none⟩ (.int .i64 t375)).setCell ⟨gb380, 1, none⟩ (.int .i64 t376)).setCell ⟨gb380, 2, none⟩ (.int .i64 t377)).setCell ⟨gb380, 3, none⟩ (.int .i64 t378))) := ⟨bg2 HB.out GE372.out GE380.out⟩
   (try clear BK372)
   (try clear BK380)
   (try clear HB)
   generalize ((((w26.setCell ⟨gb380, 0, none⟩ (.int .i64 t375)).setCell ⟨gb380, 1, none⟩ (.int .i64 t376)).setCell ⟨gb380, 2, none⟩ (.int .i64 t377)).setCell ⟨gb380, 3, none⟩ (.int .i64 t378)) = w29 at n0_ n1_ n2_ ⊢
   have BK372 := n0_
   have BK380 := n1_
   have HB := n2_
   clear n0_ n1_ n2_
   replace BK372 := am (blk_drew BK372.out)
   replace BK380 := am (blk_drew BK380.out)
   replace HB := am (below_drew1 HB.out)
   have p381 : 0 ≤ ((ji20) : Int) := ofb
   have q381 : (ji20) < (l0_1.length : Int) := ofb
   obtain ⟨ad381, e381, hx381_0⟩ := Kd.at_int HR0_1.out (ji20) p381 q381
   have hw381_0 := hx381_0
   cases e381
   replace hx381_0 := up HB.out hx381_0
   replace p381 := eq_true p381
   replace q381 := eq_true q381
   refine start_ (n := 11) (S := fun w' => w'.cell? ⟨gb372, 0, none⟩ = some (.slice A0_0 l0_0.length c0_0) ∧ w'.cell? ⟨gb372, 1, none⟩ = some (.slice (some ad381) l0_1.length c0_1) ∧ w'.cell? (ad381.add ((ji20)).toNat) = some (.int .i64 (rd l0_1 (ji20)))) (ds := []) #[false, false, false, false, false, false, false, false, false, false, false] (by kernel_rfl) rfl rfl ⟨(blk_cell BK372.out 0).trans rfl, (blk_cell BK372.out 1).trans rfl, ((HB.out.cell (World.block_lt_of_cell? w _ hw381_0)).trans hw381_0)⟩ (fun hHeld => ?_); refine with_tabW impl_StepsFill.tab6 impl_StepsFill.bits6 (fun HT_ HW_ => ?_)
   generalize w29.drew = w30 at BK372 BK380 HB hx381_0 hHeld ⊢
   refine pj_ 0 23 #[true, false, false, false, false, false, false, false, false, false, false] rfl rfl (any_of HT_.out (by kernel_rfl)) (fun _ _ _ h => h) ?_
   refine pj_ 2 25 #[true, false, true, false, false, false, false, false, false, false, false] rfl rfl (any_of HT_.out (by kernel_rfl)) (fun _ _ _ h => h) ?_
   refine pj_ 3 26 #[true, false, true, true, false, false, false, false, false, false, false] rfl rfl (any_of HT_.out (by kernel_rfl)) (fun _ _ _ h => h) ?_
   refine pj_ 5 28 #[true, false, true, true, false, true, false, false, false, false, false] rfl rfl (any_of HT_.out (by kernel_rfl)) (fun _ _ _ h => h) ?_
   refine pj_ 6 29 #[true, false, true, true, false, true, true, false, false, false, false] rfl rfl (any_of HT_.out (by kernel_rfl)) (fun _ _ _ h => h) ?_
   refine pm_ 1 24 #[true, true, true, true, false, true, true, false, false, false, false] rfl rfl (take_ofW HT_.out HW_.out (by kernel_rfl)) (fun _ _ _ h => h) hHeld ?_
   refine pm_ 4 27 #[true, true, true, true, true, true, true, false, false, false, false] rfl rfl (take_ofW HT_.out HW_.out (by kernel_rfl)) (fun _ _ _ h => h) hHeld ?_
   refine pj_ 7 30 #[true, true, true, true, true, true, true, true, false, false, false] rfl rfl (any_of HT_.out (by kernel_rfl)) (fun _ _ _ h => h) ?_
   refine pm_ 8 31 #[true, true, true, true, true, true, true, true, true, false, false] rfl rfl (take_ofW HT_.out HW_.out (by kernel_rfl)) (fun _ _ _ h => h) hHeld ?_
   refine one_ (i := 9) (N := some 32) #[true, true, true, true, true, true, true, true, true, true, false] rfl rfl (one_of HT_.out (by kernel_rfl)) (by decide) (fun K hK => ?_)
   refine goes_ Try.func62 (by kernel_rfl) rfl #[.slice A0_0 l0_0.length c0_0, .int .i64 2, .int .i64 a1, .int .i64 (rd l0_1 (ji20))] (by rfl) rfl rfl (by (try simp only [List.map_toArray, List.map_cons, List.map_nil]); first | done | (simp only [hji20]; rfl) | rfl | (simp only [List.length_drop, List.length_take]; rfl)) ?_
   with_reducible refine (impl_stepsWrite.calls kj2 _ _ l0_0 2 a1 (rd l0_1 (ji20)) t382 _ ?side1 ?side2 A23.out).mono ?_
   (case side1 => exact pc (Kd.C_below HR0_0.out HB.out))
   (case side2 => exact HC0_0.out)
   rintro e w31 ⟨v383, rfl, ho0, hb⟩
   refine ⟨_, rfl, ?_⟩
   have HO384 := am (Kd.R_lower ho0 (below_size (bg2 HB.out GE372.out GE380.out)))
   replace BK372 := am (blk_below (pb BK372.out) hb)
   replace BK380 := am (blk_below (pb BK380.out) hb)
   replace HB := am (below_step (bg2 HB.out GE372.out GE380.out) hb)
   (try clear hb)
   (try clear hb2)
   (try clear hk)
   (try clear hi)
   (try clear ho0)
   refine hK.out _ _ ⟨(blk_cell BK372.out 0).trans rfl, (blk_cell BK372.out 1).trans rfl, ((HB.out.cell (World.block_lt_of_cell? w _ hw381_0)).trans hw381_0)⟩ (fun hHeld => ?_)
   clear hK K
   refine norm_ (a' := ?_) ?_ ?_
   rotate_left
   · show Act.put _ (some 32) _ = _
     simp only [Act.put, List.setIfInBounds_toArray, List.set_cons_zero, List.set_cons_succ, i64_w, i32_w]
     rfl
   refine pj_ 10 4 #[true, true, true, true, true, true, true, true, true, true, true] rfl rfl (any_of HT_.out (by kernel_rfl)) (fun _ _ _ h => h) ?_
   refine done_ (done_of HT_.out (by kernel_rfl)) ?_
   try go_wp2
   go_ret
   exact ⟨_, by first | rfl | (simp [errW_none, errW_some] <;> rfl) | (simp only [← hji20]; first | rfl | (simp [errW_none, errW_some] <;> rfl)) | (simp [*, errW_none, errW_some] <;> rfl), pr HO384.out, bg2 HB.out GE372.out GE380.out⟩
def laws_FnExactStepsFill.f (k : Nat) (_l0 : List S58) (_l1 : List Int) (_a0 : Int) : Option Bool := some true
end Go.Proofs.Ytoedphbikgoapaa.Rd
