-- printed by wip/pp/pp.py
import Derived.Test.YtoedphbikgoapaaRc0
import Derived.Test.YtoedphbikgoapaaRc7
import Derived.Test.YtoedphbikgoapaaRc9
import Derived.Test.YtoedphbikgoapaaRc8
namespace Go.Proofs.Ytoedphbikgoapaa.Rc
open Go.RowKit Go.Proofs.YtoedphbikgoapaaW.PrintWords Go.Proofs.YtoedphbikgoapaaW.PrintLast Go.Proofs.YtoedphbikgoapaaW.PrintMore
attribute [local go_sem] max2_int min2_int max_two min_two max_three min_three max_four min_four
set_option linter.unusedVariables false
set_option linter.unusedSimpArgs false
attribute [local go_sem high] eqA30
def impl_FindLive.j0 : Nat → List (S65) → Int → Int → Bool → Option (Bool)
 | 0, _, _, _, _ => none
 | k + 1, x0, x1, x2, x25 => if x25 = true then (some false) else (if 0 ≤ x1 then (if x1 < (x0.length : Int) then (if 0 ≤ x2 then (if x2 < (((rd_T65 x0 x1).f0).length : Int) then (if ((rd_T71 ((rd_T65 x0 x1).f0) x2).f0) = 1 then ((impl_FindLast.f x0 ((rd_T71 ((rd_T65 x0 x1).f0) x2).f1.f2)).bind fun bt294 => (if bt294.2.2.2.2 = true then (some (bt294.1 == ((rd_T71 ((rd_T65 x0 x1).f0) x2).f1.f0) && (bt294.2.1 == ((rd_T71 ((rd_T65 x0 x1).f0) x2).f1.f1) && (bt294.2.2.1 == ((rd_T71 ((rd_T65 x0 x1).f0) x2).f1.f2) && (bt294.2.2.2.1 == ((rd_T71 ((rd_T65 x0 x1).f0) x2).f1.f3)))))) else (some false))) else (some false)) else (none)) else (none)) else (none)) else (none))
def impl_FindLive.f (k : Nat) (l0 : List (S65)) (a1 : Int) (a2 : Int) : Option (Bool) := (impl_FlashOk.f l0).bind fun t289 => (if t289 = true then ((impl_blockOk.f a1).bind fun t290 => (if t290 = true then (if a2 < 0 then (impl_FindLive.j0 k l0 a1 a2 true) else (impl_FindLive.j0 k l0 a1 a2 (decide (a2 ≥ 4)))) else (impl_FindLive.j0 k l0 a1 a2 true))) else (impl_FindLive.j0 k l0 a1 a2 true))
theorem impl_FindLive.mono_l : ∀ k, (∀ y0 y1 y2 y3, LeO (impl_FindLive.j0 k y0 y1 y2 y3) (impl_FindLive.j0 (k + 1) y0 y1 y2 y3))
 | 0 => fun _ _ _ _ r h => by simp [impl_FindLive.j0] at h
 | k + 1 => by
  have ih0 := impl_FindLive.mono_l k
  · intro y0 y1 y2 y3
    unfold impl_FindLive.j0
    repeat' first
    | (with_reducible exact ih0 _ _ _ _)
    | (with_reducible exact LeO.refl _)
    | (with_reducible exact LeO.none _)
    | (with_reducible refine LeO.ite ?_ ?_)
    | (with_reducible refine LeO.bind ?_ (fun _ => ?_))
    | exact ih0 _ _ _ _
    | exact LeO.none _
    | refine LeO.ite ?_ ?_
    | refine LeO.bind ?_ (fun _ => ?_)
theorem impl_FindLive.mono : ∀ a0 a1 a2 k, LeO (impl_FindLive.f k a0 a1 a2) (impl_FindLive.f (k + 1) a0 a1 a2) := by
 intro a0 a1 a2 k
 have ih0 := impl_FindLive.mono_l k
 unfold impl_FindLive.f
 repeat' first
  | (with_reducible exact ih0 _ _ _ _)
  | (with_reducible exact LeO.refl _)
  | (with_reducible exact LeO.none _)
  | (with_reducible refine LeO.ite ?_ ?_)
  | (with_reducible refine LeO.bind ?_ (fun _ => ?_))
  | exact ih0 _ _ _ _
  | exact LeO.none _
  | refine LeO.ite ?_ ?_
  | refine LeO.bind ?_ (fun _ => ?_)
set_option maxHeartbeats 8000000 in
set_option maxRecDepth 100000 in
theorem impl_FindLive.calls (k : Nat) (A0 : Option Addr) (c0 : Nat) (l0 : List (S65)) (a1 : Int) (a2 : Int) (r : Bool) (w : World) (hr0 : Kd.C k65 w A0 l0.length l0) (hc0 : l0.length ≤ c0) (h : impl_FindLive.f k l0 a1 a2 = some r) :
 Calls Try.prog 89 #[.slice A0 l0.length c0, .int .i64 a1, .int .i64 a2] w fun e w' => e = .returned (.bool r) ∧ Below w.heap.size w w' := by
 have hu71 := Try.underlying71
 have hu30 := Try.underlying30
 have HR0 := am hr0
 have HC0 := am hc0
 clear hr0 hc0
 have HB := am (Below.refl w.heap.size w)
 have H : ((impl_FlashOk.f l0).bind fun t289 => (if t289 = true then ((impl_blockOk.f a1).bind fun t290 => (if t290 = true then (if a2 < 0 then (impl_FindLive.j0 k l0 a1 a2 true) else (impl_FindLive.j0 k l0 a1 a2 (decide (a2 ≥ 4)))) else (impl_FindLive.j0 k l0 a1 a2 true))) else (impl_FindLive.j0 k l0 a1 a2 true))) = some r := h
 clear h
 have HC4 := am H
 clear H
 go_enter Try.func89, Try.ntmps89
 go_upto_region 1 with (fail)
 go_cut [25] (fun v25 wc => ∃ (kq : Nat) (x25_3 : Bool), v25 = .bool x25_3 ∧ Aside0 (impl_FindLive.j0 kq l0 a1 a2 x25_3 = some r) ∧ Aside0 (kq ≤ k) ∧ Aside0 (Below w.heap.size w wc))
 case first =>
  have H := HC4.out
  clear HC4
  replace H := Option.bind_eq_some_iff.mp H
  obtain ⟨t289, A50, H⟩ := H
  replace H : (if t289 = true then ((impl_blockOk.f a1).bind fun t290 => (if t290 = true then (if a2 < 0 then (impl_FindLive.j0 k l0 a1 a2 true) else (impl_FindLive.j0 k l0 a1 a2 (decide (a2 ≥ 4)))) else (impl_FindLive.j0 k l0 a1 a2 true))) else (impl_FindLive.j0 k l0 a1 a2 true)) = some r := H
  have A5 := am A50
  clear A50
  by_cases c6 : t289 = true
  rotate_left
  · replace c6 := Bool.eq_false_iff.mpr c6
    subst c6
    have H1 : (impl_FindLive.j0 k l0 a1 a2 true) = some r := by rw [if_neg (show ¬ (false = true) by decide)] at H; exact H
    clear H
    have H := H1
    clear H1
    have H' := am H
    clear H
    go_wp2_with (first | (refine gl 11 Try.func44 #[.slice A0 l0.length c0] rfl ?_; (with_reducible refine (impl_FlashOk.calls _ _ l0 false _ ?side1 ?side2 A5.out).mono ?_); (case side1 => exact pc (Kd.C_below HR0.out HB.out)); (case side2 => exact HC0.out); rintro e w13 ⟨rfl, hb⟩; refine ⟨_, rfl, ?_⟩; replace HB := am (below_step (ph HB.out) hb); (try clear hb); (try clear hb2); (try clear hk); (try clear hi)))
    go_meet
    case rel => exact ⟨_, (true), rf, H', ⟨by first | omega | exact Nat.le_refl _⟩, ⟨ph HB.out⟩⟩
  subst c6
  have H1 : ((impl_blockOk.f a1).bind fun t290 => (if t290 = true then (if a2 < 0 then (impl_FindLive.j0 k l0 a1 a2 true) else (impl_FindLive.j0 k l0 a1 a2 (decide (a2 ≥ 4)))) else (impl_FindLive.j0 k l0 a1 a2 true))) = some r := by rw [if_pos rfl] at H; exact H
  clear H
  have H := H1
  clear H1
  replace H := Option.bind_eq_some_iff.mp H
  obtain ⟨t290, A70, H⟩ := H
  replace H : (if t290 = true then (if a2 < 0 then (impl_FindLive.j0 k l0 a1 a2 true) else (impl_FindLive.j0 k l0 a1 a2 (decide (a2 ≥ 4)))) else (impl_FindLive.j0 k l0 a1 a2 true)) = some r := H
  have A7 := am A70
  clear A70
  by_cases c8 : t290 = true
  rotate_left
  · replace c8 := Bool.eq_false_iff.mpr c8
    subst c8
    have H1 : (impl_FindLive.j0 k l0 a1 a2 true) = some r := by rw [if_neg (show ¬ (false = true) by decide)] at H; exact H
    clear H
    have H := H1
    clear H1
    have H' := am H
    clear H
    go_wp2_with (first | (refine gl 11 Try.func44 #[.slice A0 l0.length c0] rfl ?_; (with_reducible refine (impl_FlashOk.calls _ _ l0 true _ ?side1 ?side2 A5.out).mono ?_); (case side1 => exact pc (Kd.C_below HR0.out HB.out)); (case side2 => exact HC0.out); rintro e w12 ⟨rfl, hb⟩; refine ⟨_, rfl, ?_⟩; replace HB := am (below_step (ph HB.out) hb); (try clear hb); (try clear hb2); (try clear hk); (try clear hi)) | (go_at_call 45; (with_reducible refine (impl_blockOk.calls a1 false _ A7.out).mono ?_); rintro e w' ⟨rfl, ⟨nd, rfl⟩⟩))
    go_meet
    case rel => exact ⟨_, (true), rf, H', ⟨by first | omega | exact Nat.le_refl _⟩, ⟨ph HB.out⟩⟩
  subst c8
  have H1 : (if a2 < 0 then (impl_FindLive.j0 k l0 a1 a2 true) else (impl_FindLive.j0 k l0 a1 a2 (decide (a2 ≥ 4)))) = some r := by rw [if_pos rfl] at H; exact H
  clear H
  have H := H1
  clear H1
  by_cases c9 : a2 < 0
  · rw [if_pos c9] at H
    have c9b0 := decide_eq_true c9
    clear c9
    (first | rw [c9b0] | (simp only [i64_w, i32_w]; rw [c9b0]) | skip)
    have H' := am H
    clear H
    go_wp2_with (first | (refine gl 11 Try.func44 #[.slice A0 l0.length c0] rfl ?_; (with_reducible refine (impl_FlashOk.calls _ _ l0 true _ ?side1 ?side2 A5.out).mono ?_); (case side1 => exact pc (Kd.C_below HR0.out HB.out)); (case side2 => exact HC0.out); rintro e w10 ⟨rfl, hb⟩; refine ⟨_, rfl, ?_⟩; replace HB := am (below_step (ph HB.out) hb); (try clear hb); (try clear hb2); (try clear hk); (try clear hi)) | (go_at_call 45; (with_reducible refine (impl_blockOk.calls a1 true _ A7.out).mono ?_); rintro e w' ⟨rfl, ⟨nd, rfl⟩⟩))
    go_meet
    case rel => exact ⟨_, (true), rf, H', ⟨by first | omega | exact Nat.le_refl _⟩, ⟨ph HB.out⟩⟩
  rw [if_neg c9] at H
  have c9b0 := decide_eq_false c9
  clear c9
  (first | rw [c9b0] | (simp only [i64_w, i32_w]; rw [c9b0]) | skip)
  have H' := am H
  clear H
  go_wp2_with (first | (refine gl 11 Try.func44 #[.slice A0 l0.length c0] rfl ?_; (with_reducible refine (impl_FlashOk.calls _ _ l0 true _ ?side1 ?side2 A5.out).mono ?_); (case side1 => exact pc (Kd.C_below HR0.out HB.out)); (case side2 => exact HC0.out); rintro e w11 ⟨rfl, hb⟩; refine ⟨_, rfl, ?_⟩; replace HB := am (below_step (ph HB.out) hb); (try clear hb); (try clear hb2); (try clear hk); (try clear hi)) | (go_at_call 45; (with_reducible refine (impl_blockOk.calls a1 true _ A7.out).mono ?_); rintro e w' ⟨rfl, ⟨nd, rfl⟩⟩))
  go_meet
  case rel => exact ⟨_, (decide (a2 ≥ 4)), rf, H', ⟨by first | omega | exact Nat.le_refl _⟩, ⟨ph HB.out⟩⟩
 case rest =>
  clear HC4
  obtain ⟨kq, x25_3, rfl, HA, HJ3, HB⟩ := hcut
  cases kq with
  | zero => exact absurd HA.out (by simp [impl_FindLive.j0])
  | succ kj3 =>
   have H := HA.out
   clear HA
   simp only [impl_FindLive.j0] at H
   by_cases c14 : x25_3 = true
   · subst c14
     have H1 : (some false) = some r := by rw [if_pos rfl] at H; exact H
     clear H
     have H := H1
     clear H1
     obtain rfl := Option.some.inj H
     go_wp2
     go_ret
     exact (rq (ph HB.out))
   replace c14 := Bool.eq_false_iff.mpr c14
   subst c14
   have H1 : (if 0 ≤ a1 then (if a1 < (l0.length : Int) then (if 0 ≤ a2 then (if a2 < (((rd_T65 l0 a1).f0).length : Int) then (if ((rd_T71 ((rd_T65 l0 a1).f0) a2).f0) = 1 then ((impl_FindLast.f l0 ((rd_T71 ((rd_T65 l0 a1).f0) a2).f1.f2)).bind fun bt294 => (if bt294.2.2.2.2 = true then (some (bt294.1 == ((rd_T71 ((rd_T65 l0 a1).f0) a2).f1.f0) && (bt294.2.1 == ((rd_T71 ((rd_T65 l0 a1).f0) a2).f1.f1) && (bt294.2.2.1 == ((rd_T71 ((rd_T65 l0 a1).f0) a2).f1.f2) && (bt294.2.2.2.1 == ((rd_T71 ((rd_T65 l0 a1).f0) a2).f1.f3)))))) else (some false))) else (some false)) else (none)) else (none)) else (none)) else (none)) = some r := by rw [if_neg (show ¬ (false = true) by decide)] at H; exact H
   clear H
   have H := H1
   clear H1
   by_cases c15 : 0 ≤ a1
   rotate_left
   · rw [if_neg c15] at H
     exact absurd H (by simp)
   rw [if_pos c15] at H
   have c15b0 := decide_eq_true c15
   clear c15
   by_cases c16 : a1 < (l0.length : Int)
   rotate_left
   · rw [if_neg c16] at H
     exact absurd H (by simp)
   rw [if_pos c16] at H
   have c16b0 := decide_eq_true c16
   clear c16
   by_cases c17 : 0 ≤ a2
   rotate_left
   · rw [if_neg c17] at H
     exact absurd H (by simp)
   rw [if_pos c17] at H
   have c17b0 := decide_eq_true c17
   clear c17
   by_cases c18 : a2 < (((rd_T65 l0 a1).f0).length : Int)
   rotate_left
   · rw [if_neg c18] at H
     exact absurd H (by simp)
   rw [if_pos c18] at H
   have c18b0 := decide_eq_true c18
   clear c18
   by_cases c19 : ((rd_T71 ((rd_T65 l0 a1).f0) a2).f0) = 1
   rotate_left
   · rw [if_neg c19] at H
     have c19b0 : (((rd_T71 ((rd_T65 l0 a1).f0) a2).f0) == 1) = false := beq_eq_false_iff_ne.mpr c19
     have c19b1 : (((rd_T71 ((rd_T65 l0 a1).f0) a2).f0) != 1) = true := bne_iff_ne.mpr c19
     obtain rfl := Option.some.inj H
     have p291 : 0 ≤ (a1 : Int) := ofb
     have q291 : a1 < (l0.length : Int) := ofb
     obtain ⟨ad291, A291_0, c291_0, e291, hx291_0, hx291_1, hl291_0, hi291_0⟩ := at_T65 HR0.out a1 p291 q291
     cases e291
     replace hx291_0 := up HB.out hx291_0
     replace hx291_1 := up HB.out hx291_1
     have HR291_0 := am hi291_0
     have HC291_0 := am hl291_0
     clear hi291_0 hl291_0
     replace p291 := eq_true p291
     replace q291 := eq_true q291
     have p292 : 0 ≤ (a2 : Int) := ofb
     have q292 : a2 < (((rd_T65 l0 a1).f0).length : Int) := ofb
     obtain ⟨ad292, e292, hx292_0, hx292_1, hx292_2, hx292_3, hx292_4⟩ := at_T71 HR291_0.out a2 p292 q292
     cases e292
     replace hx292_0 := up HB.out hx292_0
     replace hx292_1 := up HB.out hx292_1
     replace hx292_2 := up HB.out hx292_2
     replace hx292_3 := up HB.out hx292_3
     replace hx292_4 := up HB.out hx292_4
     replace p292 := eq_true p292
     replace q292 := eq_true q292
     go_wp2_with (first | (refine bx 7 #[.int .i64 0, .int .i64 0, .int .i64 0, .int .i64 0, .int .i64 0] 71 rfl ?_; intro gb293 hg w35 hbox hb; have BK293 := am (hbox); have GW293 := am ((by rw [hg]; exact (below_size (ph HB.out)) : w.heap.size ≤ gb293)); have GE293 := GW293; replace HB := am (below_step (ph HB.out) hb); clear hb hbox hg; obtain ⟨hcz36_0, hcz36_1, hcz36_2, hcz36_3, hcz36_4⟩ := b5 BK293.out; obtain ⟨hfz36_0, hfz36_1, hfz36_2, hfz36_3, hfz36_4⟩ := f5 BK293.out))
     go_ret
     exact (rq (bg1 HB.out GE293.out))
   rw [if_pos c19] at H
   have c19b0 : (((rd_T71 ((rd_T65 l0 a1).f0) a2).f0) == 1) = true := beq_iff_eq.mpr c19
   have c19b1 : (((rd_T71 ((rd_T65 l0 a1).f0) a2).f0) != 1) = false := bne_eq_false_iff_eq.mpr c19
   clear c19
   replace H := Option.bind_eq_some_iff.mp H
   obtain ⟨⟨t294, t295, t296, t297, t298⟩, A200, H⟩ := H
   replace H : (if t298 = true then (some (t294 == ((rd_T71 ((rd_T65 l0 a1).f0) a2).f1.f0) && (t295 == ((rd_T71 ((rd_T65 l0 a1).f0) a2).f1.f1) && (t296 == ((rd_T71 ((rd_T65 l0 a1).f0) a2).f1.f2) && (t297 == ((rd_T71 ((rd_T65 l0 a1).f0) a2).f1.f3)))))) else (some false)) = some r := H
   have A20 := am A200
   clear A200
   by_cases c21 : t298 = true
   rotate_left
   · replace c21 := Bool.eq_false_iff.mpr c21
     subst c21
     have H1 : (some false) = some r := by rw [if_neg (show ¬ (false = true) by decide)] at H; exact H
     clear H
     have H := H1
     clear H1
     obtain rfl := Option.some.inj H
     have p291 : 0 ≤ (a1 : Int) := ofb
     have q291 : a1 < (l0.length : Int) := ofb
     obtain ⟨ad291, A291_0, c291_0, e291, hx291_0, hx291_1, hl291_0, hi291_0⟩ := at_T65 HR0.out a1 p291 q291
     cases e291
     replace hx291_0 := up HB.out hx291_0
     replace hx291_1 := up HB.out hx291_1
     have HR291_0 := am hi291_0
     have HC291_0 := am hl291_0
     clear hi291_0 hl291_0
     replace p291 := eq_true p291
     replace q291 := eq_true q291
     have p292 : 0 ≤ (a2 : Int) := ofb
     have q292 : a2 < (((rd_T65 l0 a1).f0).length : Int) := ofb
     obtain ⟨ad292, e292, hx292_0, hx292_1, hx292_2, hx292_3, hx292_4⟩ := at_T71 HR291_0.out a2 p292 q292
     cases e292
     replace hx292_0 := up HB.out hx292_0
     replace hx292_1 := up HB.out hx292_1
     replace hx292_2 := up HB.out hx292_2
     replace hx292_3 := up HB.out hx292_3
     replace hx292_4 := up HB.out hx292_4
     replace p292 := eq_true p292
     replace q292 := eq_true q292
     go_wp2_with (first | (refine bx 7 #[.int .i64 0, .int .i64 0, .int .i64 0, .int .i64 0, .int .i64 0] 71 rfl ?_; intro gb293 hg w29 hbox hb; have BK293 := am (hbox); have GW293 := am ((by rw [hg]; exact (below_size (ph HB.out)) : w.heap.size ≤ gb293)); have GE293 := GW293; replace HB := am (below_step (ph HB.out) hb); clear hb hbox hg; obtain ⟨hcz30_0, hcz30_1, hcz30_2, hcz30_3, hcz30_4⟩ := b5 BK293.out; obtain ⟨hfz30_0, hfz30_1, hfz30_2, hfz30_3, hfz30_4⟩ := f5 BK293.out) | (refine gl 42 Try.func66 #[.slice (some ad291) l0.length c0, .int .i64 ((rd_T71 ((rd_T65 l0 a1).f0) a2).f1.f2)] rfl ?_; (with_reducible refine (impl_FindLast.calls _ _ l0 ((rd_T71 ((rd_T65 l0 a1).f0) a2).f1.f2) t294 t295 t296 t297 false _ ?side1 ?side2 A20.out).mono ?_); (case side1 => exact Kd.C_below HR0.out (bg1 HB.out GE293.out)); (case side2 => exact HC0.out); rintro e w31 ⟨rfl, hb⟩; refine ⟨_, rfl, ?_⟩; replace BK293 := am (blk_below (g := gb293) (o := .cells #[.int .i64 ((rd_T71 ((rd_T65 l0 a1).f0) a2).f0), .int .i64 ((rd_T71 ((rd_T65 l0 a1).f0) a2).f1.f0), .int .i64 ((rd_T71 ((rd_T65 l0 a1).f0) a2).f1.f1), .int .i64 ((rd_T71 ((rd_T65 l0 a1).f0) a2).f1.f2), .int .i64 ((rd_T71 ((rd_T65 l0 a1).f0) a2).f1.f3)] 71 (0, 0)) (by (with_reducible repeat (first | refine blk_drewN ?_ _ | refine blk_drew ?_ | refine blk_alloc ?_ _)); refine blk_put (cs := #[.int .i64 ((rd_T71 ((rd_T65 l0 a1).f0) a2).f0), .int .i64 ((rd_T71 ((rd_T65 l0 a1).f0) a2).f1.f0), .int .i64 ((rd_T71 ((rd_T65 l0 a1).f0) a2).f1.f1), .int .i64 ((rd_T71 ((rd_T65 l0 a1).f0) a2).f1.f2), .int .i64 0]) ?_ 4 _ rfl; (with_reducible repeat (first | refine blk_drewN ?_ _ | refine blk_drew ?_ | refine blk_alloc ?_ _)); refine blk_put (cs := #[.int .i64 ((rd_T71 ((rd_T65 l0 a1).f0) a2).f0), .int .i64 ((rd_T71 ((rd_T65 l0 a1).f0) a2).f1.f0), .int .i64 ((rd_T71 ((rd_T65 l0 a1).f0) a2).f1.f1), .int .i64 0, .int .i64 0]) ?_ 3 _ rfl; (with_reducible repeat (first | refine blk_drewN ?_ _ | refine blk_drew ?_ | refine blk_alloc ?_ _)); refine blk_put (cs := #[.int .i64 ((rd_T71 ((rd_T65 l0 a1).f0) a2).f0), .int .i64 ((rd_T71 ((rd_T65 l0 a1).f0) a2).f1.f0), .int .i64 0, .int .i64 0, .int .i64 0]) ?_ 2 _ rfl; (with_reducible repeat (first | refine blk_drewN ?_ _ | refine blk_drew ?_ | refine blk_alloc ?_ _)); refine blk_put (cs := #[.int .i64 ((rd_T71 ((rd_T65 l0 a1).f0) a2).f0), .int .i64 0, .int .i64 0, .int .i64 0, .int .i64 0]) ?_ 1 _ rfl; (with_reducible repeat (first | refine blk_drewN ?_ _ | refine blk_drew ?_ | refine blk_alloc ?_ _)); refine blk_put (cs := #[.int .i64 0, .int .i64 0, .int .i64 0, .int .i64 0, .int .i64 0]) ?_ 0 _ rfl; (with_reducible repeat (first | refine blk_drewN ?_ _ | refine blk_drew ?_ | refine blk_alloc ?_ _)); exact BK293.out) hb); replace HB := am (below_step (bg1 HB.out GE293.out) hb); (try clear hb); (try clear hb2); (try clear hk); (try clear hi)) | (refine bx 8 #[.int .i64 0, .int .i64 0, .int .i64 0, .int .i64 0] 30 rfl ?_; intro gb299 hg w32 hbox hb; have BK299 := am (hbox); have GW299 := am ((by rw [hg]; exact (below_size (bg1 HB.out GE293.out)) : w.heap.size ≤ gb299)); have GE299 := GW299; replace HB := am (below_step (bg1 HB.out GE293.out) hb); have NB293_299 := am ((by rw [hg]; exact Nat.ne_of_lt (blk_lt (pb BK293.out)) : gb293 ≠ gb299)); have NB299_293 := am (Ne.symm NB293_299.out); replace BK293 := am (blk_below (pb BK293.out) hb); clear hb hbox hg; have hnb33 := NB299_293.out; have hnc33 := NB293_299.out; obtain ⟨hcz34_0, hcz34_1, hcz34_2, hcz34_3⟩ := b4 BK299.out; obtain ⟨hfz34_0, hfz34_1, hfz34_2, hfz34_3⟩ := f4 BK299.out))
     go_ret
     exact (rq (bg2 HB.out GE293.out GE299.out))
   subst c21
   have H1 : (some (t294 == ((rd_T71 ((rd_T65 l0 a1).f0) a2).f1.f0) && (t295 == ((rd_T71 ((rd_T65 l0 a1).f0) a2).f1.f1) && (t296 == ((rd_T71 ((rd_T65 l0 a1).f0) a2).f1.f2) && (t297 == ((rd_T71 ((rd_T65 l0 a1).f0) a2).f1.f3)))))) = some r := by rw [if_pos rfl] at H; exact H
   clear H
   have H := H1
   clear H1
   obtain rfl := Option.some.inj H
   have p291 : 0 ≤ (a1 : Int) := ofb
   have q291 : a1 < (l0.length : Int) := ofb
   obtain ⟨ad291, A291_0, c291_0, e291, hx291_0, hx291_1, hl291_0, hi291_0⟩ := at_T65 HR0.out a1 p291 q291
   cases e291
   replace hx291_0 := up HB.out hx291_0
   replace hx291_1 := up HB.out hx291_1
   have HR291_0 := am hi291_0
   have HC291_0 := am hl291_0
   clear hi291_0 hl291_0
   replace p291 := eq_true p291
   replace q291 := eq_true q291
   have p292 : 0 ≤ (a2 : Int) := ofb
   have q292 : a2 < (((rd_T65 l0 a1).f0).length : Int) := ofb
   obtain ⟨ad292, e292, hx292_0, hx292_1, hx292_2, hx292_3, hx292_4⟩ := at_T71 HR291_0.out a2 p292 q292
   cases e292
   replace hx292_0 := up HB.out hx292_0
   replace hx292_1 := up HB.out hx292_1
   replace hx292_2 := up HB.out hx292_2
   replace hx292_3 := up HB.out hx292_3
   replace hx292_4 := up HB.out hx292_4
   replace p292 := eq_true p292
   replace q292 := eq_true q292
   go_wp2_with (first | (refine bx 7 #[.int .i64 0, .int .i64 0, .int .i64 0, .int .i64 0, .int .i64 0] 71 rfl ?_; intro gb293 hg w22 hbox hb; have BK293 := am (hbox); have GW293 := am ((by rw [hg]; exact (below_size (ph HB.out)) : w.heap.size ≤ gb293)); have GE293 := GW293; replace HB := am (below_step (ph HB.out) hb); clear hb hbox hg; obtain ⟨hcz23_0, hcz23_1, hcz23_2, hcz23_3, hcz23_4⟩ := b5 BK293.out; obtain ⟨hfz23_0, hfz23_1, hfz23_2, hfz23_3, hfz23_4⟩ := f5 BK293.out) | (refine gl 42 Try.func66 #[.slice (some ad291) l0.length c0, .int .i64 ((rd_T71 ((rd_T65 l0 a1).f0) a2).f1.f2)] rfl ?_; (with_reducible refine (impl_FindLast.calls _ _ l0 ((rd_T71 ((rd_T65 l0 a1).f0) a2).f1.f2) t294 t295 t296 t297 true _ ?side1 ?side2 A20.out).mono ?_); (case side1 => exact Kd.C_below HR0.out (bg1 HB.out GE293.out)); (case side2 => exact HC0.out); rintro e w24 ⟨rfl, hb⟩; refine ⟨_, rfl, ?_⟩; replace BK293 := am (blk_below (g := gb293) (o := .cells #[.int .i64 ((rd_T71 ((rd_T65 l0 a1).f0) a2).f0), .int .i64 ((rd_T71 ((rd_T65 l0 a1).f0) a2).f1.f0), .int .i64 ((rd_T71 ((rd_T65 l0 a1).f0) a2).f1.f1), .int .i64 ((rd_T71 ((rd_T65 l0 a1).f0) a2).f1.f2), .int .i64 ((rd_T71 ((rd_T65 l0 a1).f0) a2).f1.f3)] 71 (0, 0)) (by (with_reducible repeat (first | refine blk_drewN ?_ _ | refine blk_drew ?_ | refine blk_alloc ?_ _)); refine blk_put (cs := #[.int .i64 ((rd_T71 ((rd_T65 l0 a1).f0) a2).f0), .int .i64 ((rd_T71 ((rd_T65 l0 a1).f0) a2).f1.f0), .int .i64 ((rd_T71 ((rd_T65 l0 a1).f0) a2).f1.f1), .int .i64 ((rd_T71 ((rd_T65 l0 a1).f0) a2).f1.f2), .int .i64 0]) ?_ 4 _ rfl; (with_reducible repeat (first | refine blk_drewN ?_ _ | refine blk_drew ?_ | refine blk_alloc ?_ _)); refine blk_put (cs := #[.int .i64 ((rd_T71 ((rd_T65 l0 a1).f0) a2).f0), .int .i64 ((rd_T71 ((rd_T65 l0 a1).f0) a2).f1.f0), .int .i64 ((rd_T71 ((rd_T65 l0 a1).f0) a2).f1.f1), .int .i64 0, .int .i64 0]) ?_ 3 _ rfl; (with_reducible repeat (first | refine blk_drewN ?_ _ | refine blk_drew ?_ | refine blk_alloc ?_ _)); refine blk_put (cs := #[.int .i64 ((rd_T71 ((rd_T65 l0 a1).f0) a2).f0), .int .i64 ((rd_T71 ((rd_T65 l0 a1).f0) a2).f1.f0), .int .i64 0, .int .i64 0, .int .i64 0]) ?_ 2 _ rfl; (with_reducible repeat (first | refine blk_drewN ?_ _ | refine blk_drew ?_ | refine blk_alloc ?_ _)); refine blk_put (cs := #[.int .i64 ((rd_T71 ((rd_T65 l0 a1).f0) a2).f0), .int .i64 0, .int .i64 0, .int .i64 0, .int .i64 0]) ?_ 1 _ rfl; (with_reducible repeat (first | refine blk_drewN ?_ _ | refine blk_drew ?_ | refine blk_alloc ?_ _)); refine blk_put (cs := #[.int .i64 0, .int .i64 0, .int .i64 0, .int .i64 0, .int .i64 0]) ?_ 0 _ rfl; (with_reducible repeat (first | refine blk_drewN ?_ _ | refine blk_drew ?_ | refine blk_alloc ?_ _)); exact BK293.out) hb); replace HB := am (below_step (bg1 HB.out GE293.out) hb); (try clear hb); (try clear hb2); (try clear hk); (try clear hi)) | (refine bx 8 #[.int .i64 0, .int .i64 0, .int .i64 0, .int .i64 0] 30 rfl ?_; intro gb299 hg w25 hbox hb; have BK299 := am (hbox); have GW299 := am ((by rw [hg]; exact (below_size (bg1 HB.out GE293.out)) : w.heap.size ≤ gb299)); have GE299 := GW299; replace HB := am (below_step (bg1 HB.out GE293.out) hb); have NB293_299 := am ((by rw [hg]; exact Nat.ne_of_lt (blk_lt (pb BK293.out)) : gb293 ≠ gb299)); have NB299_293 := am (Ne.symm NB293_299.out); replace BK293 := am (blk_below (pb BK293.out) hb); clear hb hbox hg; have hnb26 := NB299_293.out; have hnc26 := NB293_299.out; obtain ⟨hcz27_0, hcz27_1, hcz27_2, hcz27_3⟩ := b4 BK299.out; obtain ⟨hfz27_0, hfz27_1, hfz27_2, hfz27_3⟩ := f4 BK299.out; have hcz28_0 : w25.cell? ⟨gb293, 0, none⟩ = some (.int .i64 ((rd_T71 ((rd_T65 l0 a1).f0) a2).f0)) := (blk_cell BK293.out 0).trans rfl; have hcz28_1 : w25.cell? ⟨gb293, 1, none⟩ = some (.int .i64 ((rd_T71 ((rd_T65 l0 a1).f0) a2).f1.f0)) := (blk_cell BK293.out 1).trans rfl; have hcz28_2 : w25.cell? ⟨gb293, 2, none⟩ = some (.int .i64 ((rd_T71 ((rd_T65 l0 a1).f0) a2).f1.f1)) := (blk_cell BK293.out 2).trans rfl; have hcz28_3 : w25.cell? ⟨gb293, 3, none⟩ = some (.int .i64 ((rd_T71 ((rd_T65 l0 a1).f0) a2).f1.f2)) := (blk_cell BK293.out 3).trans rfl; have hcz28_4 : w25.cell? ⟨gb293, 4, none⟩ = some (.int .i64 ((rd_T71 ((rd_T65 l0 a1).f0) a2).f1.f3)) := (blk_cell BK293.out 4).trans rfl; obtain ⟨hfz28_0, hfz28_1, hfz28_2, hfz28_3, hfz28_4⟩ := f5 BK293.out))
   go_ret
   exact (rq (bg2 HB.out GE293.out GE299.out))
end Go.Proofs.Ytoedphbikgoapaa.Rc
namespace Go.Proofs.Ytoedphbikgoapaa.Rc
open Go.RowKit Go.Proofs.YtoedphbikgoapaaW.PrintWords Go.Proofs.YtoedphbikgoapaaW.PrintLast Go.Proofs.YtoedphbikgoapaaW.PrintMore
attribute [local go_sem] max2_int min2_int max_two min_two max_three min_three max_four min_four
set_option linter.unusedVariables false
set_option linter.unusedSimpArgs false
def impl_stepsWrite.l0 : Nat → List (S65) → Int → List (S85) → List (S71) → Int → Int → Int → Int → Int → Int → Option ((List (S85)))
 | 0, _, _, _, _, _, _, _, _, _, _ => none
 | k + 1, x0, x12, x13, x47, x48, x49, x302000, x302001, x302002, x302003 => if x49 < x48 then (if 0 ≤ x49 then (if x49 < (x47.length : Int) then ((impl_Rec_isDirty.f ((rd_T71 x47 x49).f1.f0) ((rd_T71 x47 x49).f1.f1) ((rd_T71 x47 x49).f1.f2) ((rd_T71 x47 x49).f1.f3)).bind fun t319 => (if t319 = true then ((impl_FindLive.f k x0 x12 x49).bind fun t320 => (if t320 = true then ((impl_diskStep.f ((rd_T71 x47 x49).f1.f0) ((rd_T71 x47 x49).f1.f1) ((rd_T71 x47 x49).f1.f2) ((rd_T71 x47 x49).f1.f3)).bind fun bt321 => (if x13.length < 2199023255552 then (impl_stepsWrite.l0 k x0 x12 (x13 ++ [(⟨bt321.1, bt321.2.1, bt321.2.2.1, bt321.2.2.2.1, (⟨bt321.2.2.2.2.1, bt321.2.2.2.2.2.1, bt321.2.2.2.2.2.2.1, bt321.2.2.2.2.2.2.2⟩ : S30)⟩ : S85)]) x47 x48 (wrap64 (x49 + 1)) x302000 x302001 x302002 x302003) else (none))) else (impl_stepsWrite.l0 k x0 x12 x13 x47 x48 (wrap64 (x49 + 1)) x302000 x302001 x302002 x302003))) else (impl_stepsWrite.l0 k x0 x12 x13 x47 x48 (wrap64 (x49 + 1)) x302000 x302001 x302002 x302003))) else (none)) else (none)) else (if x13.length < 2199023255552 then ((some (x13 ++ [(⟨2, 0, 0, x12, (⟨0, 0, 0, 0⟩ : S30)⟩ : S85)] : List (S85))).bind fun y311 => (if y311.length < 2199023255552 then (some (y311 ++ [(⟨3, 0, 0, x12, (⟨x302000, x302001, x302002, x302003⟩ : S30)⟩ : S85)])) else (none))) else (none))
def impl_stepsWrite.f (k : Nat) (l0 : List (S65)) (a1 : Int) (a2 : Int) (a3 : Int) : Option ((List (S85))) := (impl_FindNext.f l0).bind fun t300 => ((impl_RecOk.f a1 t300 a2 a3).bind fun t302 => (if t302 = true then ((impl_FindOpen.f k l0).bind fun bt303 => (if bt303.2 = true then (some (([(⟨3, 0, 0, bt303.1, (⟨a1, t300, a2, a3⟩ : S30)⟩ : S85)] : List (S85)))) else ((impl_FindOld.f l0).bind fun t308 => (if 0 ≤ t308 then (if t308 < (l0.length : Int) then (if ((rd_T65 l0 t308).f1) = 200 then (some ([] : List (S85))) else (impl_stepsWrite.l0 k l0 t308 ([] : List (S85)) ((rd_T65 l0 t308).f0) (((rd_T65 l0 t308).f0).length : Int) 0 a1 t300 a2 a3)) else (none)) else (none))))) else (some ([] : List (S85)))))
theorem impl_stepsWrite.mono_l : ∀ k, (∀ y0 y1 y2 y3 y4 y5 y6 y7 y8 y9, LeO (impl_stepsWrite.l0 k y0 y1 y2 y3 y4 y5 y6 y7 y8 y9) (impl_stepsWrite.l0 (k + 1) y0 y1 y2 y3 y4 y5 y6 y7 y8 y9))
 | 0 => fun _ _ _ _ _ _ _ _ _ _ r h => by simp [impl_stepsWrite.l0] at h
 | k + 1 => by
  have ih0 := impl_stepsWrite.mono_l k
  · intro y0 y1 y2 y3 y4 y5 y6 y7 y8 y9
    unfold impl_stepsWrite.l0
    repeat' first
    | (with_reducible exact ih0 _ _ _ _ _ _ _ _ _ _)
    | (with_reducible exact impl_FindLive.mono _ _ _ _)
    | (with_reducible exact impl_FindOpen.mono _ _)
    | (with_reducible exact LeO.refl _)
    | (with_reducible exact LeO.none _)
    | (with_reducible refine LeO.ite ?_ ?_)
    | (with_reducible refine LeO.bind ?_ (fun _ => ?_))
    | exact ih0 _ _ _ _ _ _ _ _ _ _
    | exact impl_FindLive.mono _ _ _ _
    | exact impl_FindOpen.mono _ _
    | exact LeO.none _
    | refine LeO.ite ?_ ?_
    | refine LeO.bind ?_ (fun _ => ?_)
theorem impl_stepsWrite.mono : ∀ a0 a1 a2 a3 k, LeO (impl_stepsWrite.f k a0 a1 a2 a3) (impl_stepsWrite.f (k + 1) a0 a1 a2 a3) := by
 intro a0 a1 a2 a3 k
 have ih0 := impl_stepsWrite.mono_l k
 unfold impl_stepsWrite.f
 repeat' first
  | (with_reducible exact ih0 _ _ _ _ _ _ _ _ _ _)
  | (with_reducible exact impl_FindLive.mono _ _ _ _)
  | (with_reducible exact impl_FindOpen.mono _ _)
  | (with_reducible exact LeO.refl _)
  | (with_reducible exact LeO.none _)
  | (with_reducible refine LeO.ite ?_ ?_)
  | (with_reducible refine LeO.bind ?_ (fun _ => ?_))
  | exact ih0 _ _ _ _ _ _ _ _ _ _
  | exact impl_FindLive.mono _ _ _ _
  | exact impl_FindOpen.mono _ _
  | exact LeO.none _
  | refine LeO.ite ?_ ?_
  | refine LeO.bind ?_ (fun _ => ?_)
set_option maxHeartbeats 8000000 in
set_option maxRecDepth 100000 in
theorem impl_stepsWrite.calls (k : Nat) (A0 : Option Addr) (c0 : Nat) (l0 : List (S65)) (a1 : Int) (a2 : Int) (a3 : Int) (r : List (S85)) (w : World) (hr0 : Kd.C k65 w A0 l0.length l0) (hc0 : l0.length ≤ c0) (h : impl_stepsWrite.f k l0 a1 a2 a3 = some r) :
 Calls Try.prog 62 #[.slice A0 l0.length c0, .int .i64 a1, .int .i64 a2, .int .i64 a3] w fun e w' => ∃ v0_ : Value, e = .returned (v0_) ∧ Kd.R k85 85 w' w.heap.size (fun _ => True) v0_ r ∧ Below w.heap.size w w' := by
 have hu30 := Try.underlying30
 have hu85 := Try.underlying85
 have hu71 := Try.underlying71
 have HR0 := am hr0
 have HC0 := am hc0
 clear hr0 hc0
 have HB := am (Below.refl w.heap.size w)
 have H : ((impl_FindNext.f l0).bind fun t300 => ((impl_RecOk.f a1 t300 a2 a3).bind fun t302 => (if t302 = true then ((impl_FindOpen.f k l0).bind fun bt303 => (if bt303.2 = true then (some (([(⟨3, 0, 0, bt303.1, (⟨a1, t300, a2, a3⟩ : S30)⟩ : S85)] : List (S85)))) else ((impl_FindOld.f l0).bind fun t308 => (if 0 ≤ t308 then (if t308 < (l0.length : Int) then (if ((rd_T65 l0 t308).f1) = 200 then (some ([] : List (S85))) else (impl_stepsWrite.l0 k l0 t308 ([] : List (S85)) ((rd_T65 l0 t308).f0) (((rd_T65 l0 t308).f0).length : Int) 0 a1 t300 a2 a3)) else (none)) else (none))))) else (some ([] : List (S85)))))) = some r := h
 clear h
 replace H := Option.bind_eq_some_iff.mp H
 obtain ⟨t300, A50, H⟩ := H
 replace H : ((impl_RecOk.f a1 t300 a2 a3).bind fun t302 => (if t302 = true then ((impl_FindOpen.f k l0).bind fun bt303 => (if bt303.2 = true then (some (([(⟨3, 0, 0, bt303.1, (⟨a1, t300, a2, a3⟩ : S30)⟩ : S85)] : List (S85)))) else ((impl_FindOld.f l0).bind fun t308 => (if 0 ≤ t308 then (if t308 < (l0.length : Int) then (if ((rd_T65 l0 t308).f1) = 200 then (some ([] : List (S85))) else (impl_stepsWrite.l0 k l0 t308 ([] : List (S85)) ((rd_T65 l0 t308).f0) (((rd_T65 l0 t308).f0).length : Int) 0 a1 t300 a2 a3)) else (none)) else (none))))) else (some ([] : List (S85))))) = some r := H
 have A5 := am A50
 clear A50
 replace H := Option.bind_eq_some_iff.mp H
 obtain ⟨t302, A60, H⟩ := H
 replace H : (if t302 = true then ((impl_FindOpen.f k l0).bind fun bt303 => (if bt303.2 = true then (some (([(⟨3, 0, 0, bt303.1, (⟨a1, t300, a2, a3⟩ : S30)⟩ : S85)] : List (S85)))) else ((impl_FindOld.f l0).bind fun t308 => (if 0 ≤ t308 then (if t308 < (l0.length : Int) then (if ((rd_T65 l0 t308).f1) = 200 then (some ([] : List (S85))) else (impl_stepsWrite.l0 k l0 t308 ([] : List (S85)) ((rd_T65 l0 t308).f0) (((rd_T65 l0 t308).f0).length : Int) 0 a1 t300 a2 a3)) else (none)) else (none))))) else (some ([] : List (S85)))) = some r := H
 have A6 := am A60
 clear A60
 by_cases c7 : t302 = true
 rotate_left
 · replace c7 := Bool.eq_false_iff.mpr c7
   subst c7
   have H1 : (some ([] : List (S85))) = some r := by rw [if_neg (show ¬ (false = true) by decide)] at H; exact H
   clear H
   have H := H1
   clear H1
   obtain rfl := Option.some.inj H
   go_enter Try.func62, Try.ntmps62
   go_wp2_with (first | (refine gl 18 Try.func86 #[.slice A0 l0.length c0] rfl ?_; (with_reducible refine (impl_FindNext.calls _ _ l0 t300 _ ?side1 ?side2 A5.out).mono ?_); (case side1 => repeat (first | exact HR0.out | (with_reducible refine Kd.C_alloc ?_ _) | (with_reducible refine Kd.C_drewN ?_ _) | (with_reducible refine Kd.C_drew ?_))); (case side2 => exact HC0.out); rintro e w65 ⟨rfl, hb⟩; refine ⟨_, rfl, ?_⟩; replace HB := am (below_step (ph HB.out) hb); (try clear hb); (try clear hb2); (try clear hk); (try clear hi)) | (refine bx 9 #[.int .i64 0, .int .i64 0, .int .i64 0, .int .i64 0] 30 rfl ?_; intro gb301 hg w66 hbox hb; have BK301 := am (hbox); have GW301 := am ((by rw [hg]; exact (below_size (ph HB.out)) : w.heap.size ≤ gb301)); have GE301 := GW301; replace HB := am (below_step (ph HB.out) hb); clear hb hbox hg; obtain ⟨hcz67_0, hcz67_1, hcz67_2, hcz67_3⟩ := b4 BK301.out; obtain ⟨hfz67_0, hfz67_1, hfz67_2, hfz67_3⟩ := f4 BK301.out) | (refine gl 23 Try.func46 #[.agg #[.int .i64 a1, .int .i64 t300, .int .i64 a2, .int .i64 a3]] rfl ?_; (with_reducible refine (impl_RecOk.calls a1 t300 a2 a3 false _ A6.out).mono ?_); rintro e w68 ⟨rfl, hb⟩; refine ⟨_, rfl, ?_⟩; replace BK301 := am (blk_below (g := gb301) (o := .cells #[.int .i64 a1, .int .i64 t300, .int .i64 a2, .int .i64 a3] 30 (0, 0)) (by (with_reducible repeat (first | refine blk_drewN ?_ _ | refine blk_drew ?_ | refine blk_alloc ?_ _)); refine blk_put (cs := #[.int .i64 a1, .int .i64 t300, .int .i64 a2, .int .i64 0]) ?_ 3 _ rfl; (with_reducible repeat (first | refine blk_drewN ?_ _ | refine blk_drew ?_ | refine blk_alloc ?_ _)); refine blk_put (cs := #[.int .i64 a1, .int .i64 t300, .int .i64 0, .int .i64 0]) ?_ 2 _ rfl; (with_reducible repeat (first | refine blk_drewN ?_ _ | refine blk_drew ?_ | refine blk_alloc ?_ _)); refine blk_put (cs := #[.int .i64 a1, .int .i64 0, .int .i64 0, .int .i64 0]) ?_ 1 _ rfl; (with_reducible repeat (first | refine blk_drewN ?_ _ | refine blk_drew ?_ | refine blk_alloc ?_ _)); refine blk_put (cs := #[.int .i64 0, .int .i64 0, .int .i64 0, .int .i64 0]) ?_ 0 _ rfl; (with_reducible repeat (first | refine blk_drewN ?_ _ | refine blk_drew ?_ | refine blk_alloc ?_ _)); exact BK301.out) hb); replace HB := am (below_step (bg1 HB.out GE301.out) hb); (try clear hb); (try clear hb2); (try clear hk); (try clear hi)))
   go_ret
   exact ⟨_, rq ⟨by first | exact Kd.R_nil _ _ _ _ _ | exact Kd.N_nil _ _ _ _ _ | exact Kd.V_nil _ _ _ _ _ | exact Kd.Q_nil _ _ _ _ _ | exact Kd.S_nil _ _ _ _ _, bg1 HB.out GE301.out⟩⟩
 subst c7
 have H1 : ((impl_FindOpen.f k l0).bind fun bt303 => (if bt303.2 = true then (some (([(⟨3, 0, 0, bt303.1, (⟨a1, t300, a2, a3⟩ : S30)⟩ : S85)] : List (S85)))) else ((impl_FindOld.f l0).bind fun t308 => (if 0 ≤ t308 then (if t308 < (l0.length : Int) then (if ((rd_T65 l0 t308).f1) = 200 then (some ([] : List (S85))) else (impl_stepsWrite.l0 k l0 t308 ([] : List (S85)) ((rd_T65 l0 t308).f0) (((rd_T65 l0 t308).f0).length : Int) 0 a1 t300 a2 a3)) else (none)) else (none))))) = some r := by rw [if_pos rfl] at H; exact H
 clear H
 have H := H1
 clear H1
 replace H := Option.bind_eq_some_iff.mp H
 obtain ⟨⟨t303, t304⟩, A80, H⟩ := H
 replace H : (if t304 = true then (some (([(⟨3, 0, 0, t303, (⟨a1, t300, a2, a3⟩ : S30)⟩ : S85)] : List (S85)))) else ((impl_FindOld.f l0).bind fun t308 => (if 0 ≤ t308 then (if t308 < (l0.length : Int) then (if ((rd_T65 l0 t308).f1) = 200 then (some ([] : List (S85))) else (impl_stepsWrite.l0 k l0 t308 ([] : List (S85)) ((rd_T65 l0 t308).f0) (((rd_T65 l0 t308).f0).length : Int) 0 a1 t300 a2 a3)) else (none)) else (none)))) = some r := H
 have A8 := am A80
 clear A80
 by_cases c9 : t304 = true
 · subst c9
   have H1 : (some (([(⟨3, 0, 0, t303, (⟨a1, t300, a2, a3⟩ : S30)⟩ : S85)] : List (S85)))) = some r := by rw [if_pos rfl] at H; exact H
   clear H
   have H := H1
   clear H1
   obtain ⟨y305, hy305⟩ : ∃ y_ : List (S85), y_ = (([(⟨3, 0, 0, t303, (⟨a1, t300, a2, a3⟩ : S30)⟩ : S85)] : List (S85))) := ⟨_, rfl⟩
   replace H : (some y305) = some r := by first | (rw [hy305]; with_reducible exact H) | (have H2_ := (Option.bind_some _ _).symm.trans H; rw [hy305]; with_reducible exact H2_) | (have H2_ := (Option.bind_some _ _).symm.trans H; with_reducible exact H2_) | with_reducible exact H | (rw [hy305]; exact H) | exact H
   have Ny305 := am hy305
   clear hy305
   obtain rfl := Option.some.inj H
   go_enter Try.func62, Try.ntmps62
   go_wp2_with (first | (refine gl 18 Try.func86 #[.slice A0 l0.length c0] rfl ?_; (with_reducible refine (impl_FindNext.calls _ _ l0 t300 _ ?side1 ?side2 A5.out).mono ?_); (case side1 => repeat (first | exact HR0.out | (with_reducible refine Kd.C_alloc ?_ _) | (with_reducible refine Kd.C_drewN ?_ _) | (with_reducible refine Kd.C_drew ?_))); (case side2 => exact HC0.out); rintro e w10 ⟨rfl, hb⟩; refine ⟨_, rfl, ?_⟩; replace HB := am (below_step (ph HB.out) hb); (try clear hb); (try clear hb2); (try clear hk); (try clear hi)) | (refine bx 9 #[.int .i64 0, .int .i64 0, .int .i64 0, .int .i64 0] 30 rfl ?_; intro gb301 hg w11 hbox hb; have BK301 := am (hbox); have GW301 := am ((by rw [hg]; exact (below_size (ph HB.out)) : w.heap.size ≤ gb301)); have GE301 := GW301; replace HB := am (below_step (ph HB.out) hb); clear hb hbox hg; obtain ⟨hcz12_0, hcz12_1, hcz12_2, hcz12_3⟩ := b4 BK301.out; obtain ⟨hfz12_0, hfz12_1, hfz12_2, hfz12_3⟩ := f4 BK301.out) | (refine gl 23 Try.func46 #[.agg #[.int .i64 a1, .int .i64 t300, .int .i64 a2, .int .i64 a3]] rfl ?_; (with_reducible refine (impl_RecOk.calls a1 t300 a2 a3 true _ A6.out).mono ?_); rintro e w13 ⟨rfl, hb⟩; refine ⟨_, rfl, ?_⟩; replace BK301 := am (blk_below (g := gb301) (o := .cells #[.int .i64 a1, .int .i64 t300, .int .i64 a2, .int .i64 a3] 30 (0, 0)) (by (with_reducible repeat (first | refine blk_drewN ?_ _ | refine blk_drew ?_ | refine blk_alloc ?_ _)); refine blk_put (cs := #[.int .i64 a1, .int .i64 t300, .int .i64 a2, .int .i64 0]) ?_ 3 _ rfl; (with_reducible repeat (first | refine blk_drewN ?_ _ | refine blk_drew ?_ | refine blk_alloc ?_ _)); refine blk_put (cs := #[.int .i64 a1, .int .i64 t300, .int .i64 0, .int .i64 0]) ?_ 2 _ rfl; (with_reducible repeat (first | refine blk_drewN ?_ _ | refine blk_drew ?_ | refine blk_alloc ?_ _)); refine blk_put (cs := #[.int .i64 a1, .int .i64 0, .int .i64 0, .int .i64 0]) ?_ 1 _ rfl; (with_reducible repeat (first | refine blk_drewN ?_ _ | refine blk_drew ?_ | refine blk_alloc ?_ _)); refine blk_put (cs := #[.int .i64 0, .int .i64 0, .int .i64 0, .int .i64 0]) ?_ 0 _ rfl; (with_reducible repeat (first | refine blk_drewN ?_ _ | refine blk_drew ?_ | refine blk_alloc ?_ _)); exact BK301.out) hb); replace HB := am (below_step (bg1 HB.out GE301.out) hb); (try clear hb); (try clear hb2); (try clear hk); (try clear hi)) | (refine gl 27 Try.func87 #[.slice A0 l0.length c0] rfl ?_; (with_reducible refine (impl_FindOpen.calls k _ _ l0 t303 true _ ?side1 ?side2 A8.out).mono ?_); (case side1 => exact pc (Kd.C_below HR0.out HB.out)); (case side2 => exact HC0.out); rintro e w14 ⟨rfl, hb⟩; refine ⟨_, rfl, ?_⟩; replace BK301 := am (blk_below (pb BK301.out) hb); replace HB := am (below_step (bg1 HB.out GE301.out) hb); (try clear hb); (try clear hb2); (try clear hk); (try clear hi); obtain ⟨hcz15_0, hcz15_1, hcz15_2, hcz15_3⟩ := b4 BK301.out; obtain ⟨hfz15_0, hfz15_1, hfz15_2, hfz15_3⟩ := f4 BK301.out) | ((with_reducible refine gate_dst (N := 34) rfl ?_); refine Kd.R_lit k85 _ 85 ?hg (N := 34) ?hd (xs := ([(⟨3, 0, 0, t303, (⟨a1, t300, a2, a3⟩ : S30)⟩ : S85)] : List (S85))) (inner := [.int .i64 3, .int .i64 0, .int .i64 0, .int .i64 t303, .int .i64 a1, .int .i64 t300, .int .i64 a2, .int .i64 a3]) (ok := fun _ => True) (okp := fun _ => True) ?hr ?hp (fun _ hk => hk) trivial (Below.refl _ _) (Nat.le_refl _) (by simp) ?_; (case hd => rfl); (case hg => rfl); (case hr => first | (go_simp; done) | (go_simp; rfl)); (case hp => exact (Reps.c8 (show Kd.M k85 _ _ _ (⟨3, 0, 0, t303, (⟨a1, t300, a2, a3⟩ : S30)⟩ : S85) [.int .i64 3, .int .i64 0, .int .i64 0, .int .i64 t303, .int .i64 a1, .int .i64 t300, .int .i64 a2, .int .i64 a3] from (k85_mkM _ _ _ (⟨3, 0, 0, t303, (⟨a1, t300, a2, a3⟩ : S30)⟩ : S85) )) (Reps.none _ _))); intro v306 w16 ho17 hb hg_ hnew_; clear hg_ hnew_; (first | rw [← Ny305.out] at ho17 | (simp only [Int.reduceToNat] at ho17; rw [← Ny305.out] at ho17)); have HO307 := am (Kd.R_lower ho17 (below_size (bg1 HB.out GE301.out))); replace BK301 := am (blk_below (pb BK301.out) hb); replace HB := am (below_step (bg1 HB.out GE301.out) hb); clear hb ho17))
   go_ret
   exact ⟨_, rq ⟨pr HO307.out, bg1 HB.out GE301.out⟩⟩
 replace c9 := Bool.eq_false_iff.mpr c9
 subst c9
 have H1 : ((impl_FindOld.f l0).bind fun t308 => (if 0 ≤ t308 then (if t308 < (l0.length : Int) then (if ((rd_T65 l0 t308).f1) = 200 then (some ([] : List (S85))) else (impl_stepsWrite.l0 k l0 t308 ([] : List (S85)) ((rd_T65 l0 t308).f0) (((rd_T65 l0 t308).f0).length : Int) 0 a1 t300 a2 a3)) else (none)) else (none))) = some r := by rw [if_neg (show ¬ (false = true) by decide)] at H; exact H
 clear H
 have H := H1
 clear H1
 replace H := Option.bind_eq_some_iff.mp H
 obtain ⟨t308, A180, H⟩ := H
 replace H : (if 0 ≤ t308 then (if t308 < (l0.length : Int) then (if ((rd_T65 l0 t308).f1) = 200 then (some ([] : List (S85))) else (impl_stepsWrite.l0 k l0 t308 ([] : List (S85)) ((rd_T65 l0 t308).f0) (((rd_T65 l0 t308).f0).length : Int) 0 a1 t300 a2 a3)) else (none)) else (none)) = some r := H
 have A18 := am A180
 clear A180
 by_cases c19 : 0 ≤ t308
 rotate_left
 · rw [if_neg c19] at H
   exact absurd H (by simp)
 rw [if_pos c19] at H
 have c19b0 := decide_eq_true c19
 clear c19
 by_cases c20 : t308 < (l0.length : Int)
 rotate_left
 · rw [if_neg c20] at H
   exact absurd H (by simp)
 rw [if_pos c20] at H
 have c20b0 := decide_eq_true c20
 clear c20
 by_cases c21 : ((rd_T65 l0 t308).f1) = 200
 · rw [if_pos c21] at H
   have c21b0 : (((rd_T65 l0 t308).f1) == 200) = true := beq_iff_eq.mpr c21
   have c21b1 : (((rd_T65 l0 t308).f1) != 200) = false := bne_eq_false_iff_eq.mpr c21
   clear c21
   obtain rfl := Option.some.inj H
   go_enter Try.func62, Try.ntmps62
   go_wp2_with (first | (refine gl 18 Try.func86 #[.slice A0 l0.length c0] rfl ?_; (with_reducible refine (impl_FindNext.calls _ _ l0 t300 _ ?side1 ?side2 A5.out).mono ?_); (case side1 => repeat (first | exact HR0.out | (with_reducible refine Kd.C_alloc ?_ _) | (with_reducible refine Kd.C_drewN ?_ _) | (with_reducible refine Kd.C_drew ?_))); (case side2 => exact HC0.out); rintro e w22 ⟨rfl, hb⟩; refine ⟨_, rfl, ?_⟩; replace HB := am (below_step (ph HB.out) hb); (try clear hb); (try clear hb2); (try clear hk); (try clear hi)) | (refine bx 9 #[.int .i64 0, .int .i64 0, .int .i64 0, .int .i64 0] 30 rfl ?_; intro gb301 hg w23 hbox hb; have BK301 := am (hbox); have GW301 := am ((by rw [hg]; exact (below_size (ph HB.out)) : w.heap.size ≤ gb301)); have GE301 := GW301; replace HB := am (below_step (ph HB.out) hb); clear hb hbox hg; obtain ⟨hcz24_0, hcz24_1, hcz24_2, hcz24_3⟩ := b4 BK301.out; obtain ⟨hfz24_0, hfz24_1, hfz24_2, hfz24_3⟩ := f4 BK301.out) | (refine gl 23 Try.func46 #[.agg #[.int .i64 a1, .int .i64 t300, .int .i64 a2, .int .i64 a3]] rfl ?_; (with_reducible refine (impl_RecOk.calls a1 t300 a2 a3 true _ A6.out).mono ?_); rintro e w25 ⟨rfl, hb⟩; refine ⟨_, rfl, ?_⟩; replace BK301 := am (blk_below (g := gb301) (o := .cells #[.int .i64 a1, .int .i64 t300, .int .i64 a2, .int .i64 a3] 30 (0, 0)) (by (with_reducible repeat (first | refine blk_drewN ?_ _ | refine blk_drew ?_ | refine blk_alloc ?_ _)); refine blk_put (cs := #[.int .i64 a1, .int .i64 t300, .int .i64 a2, .int .i64 0]) ?_ 3 _ rfl; (with_reducible repeat (first | refine blk_drewN ?_ _ | refine blk_drew ?_ | refine blk_alloc ?_ _)); refine blk_put (cs := #[.int .i64 a1, .int .i64 t300, .int .i64 0, .int .i64 0]) ?_ 2 _ rfl; (with_reducible repeat (first | refine blk_drewN ?_ _ | refine blk_drew ?_ | refine blk_alloc ?_ _)); refine blk_put (cs := #[.int .i64 a1, .int .i64 0, .int .i64 0, .int .i64 0]) ?_ 1 _ rfl; (with_reducible repeat (first | refine blk_drewN ?_ _ | refine blk_drew ?_ | refine blk_alloc ?_ _)); refine blk_put (cs := #[.int .i64 0, .int .i64 0, .int .i64 0, .int .i64 0]) ?_ 0 _ rfl; (with_reducible repeat (first | refine blk_drewN ?_ _ | refine blk_drew ?_ | refine blk_alloc ?_ _)); exact BK301.out) hb); replace HB := am (below_step (bg1 HB.out GE301.out) hb); (try clear hb); (try clear hb2); (try clear hk); (try clear hi)) | (refine gl 27 Try.func87 #[.slice A0 l0.length c0] rfl ?_; (with_reducible refine (impl_FindOpen.calls k _ _ l0 t303 false _ ?side1 ?side2 A8.out).mono ?_); (case side1 => exact pc (Kd.C_below HR0.out HB.out)); (case side2 => exact HC0.out); rintro e w26 ⟨rfl, hb⟩; refine ⟨_, rfl, ?_⟩; replace BK301 := am (blk_below (pb BK301.out) hb); replace HB := am (below_step (bg1 HB.out GE301.out) hb); (try clear hb); (try clear hb2); (try clear hk); (try clear hi)) | (refine gl 36 Try.func88 #[.slice A0 l0.length c0] rfl ?_; (with_reducible refine (impl_FindOld.calls _ _ l0 t308 _ ?side1 ?side2 A18.out).mono ?_); (case side1 => exact pc (Kd.C_below HR0.out HB.out)); (case side2 => exact HC0.out); rintro e w27 ⟨rfl, hb⟩; refine ⟨_, rfl, ?_⟩; replace BK301 := am (blk_below (pb BK301.out) hb); replace HB := am (below_step (bg1 HB.out GE301.out) hb); (try clear hb); (try clear hb2); (try clear hk); (try clear hi); have p309 : 0 ≤ (t308 : Int) := ofb; have q309 : t308 < (l0.length : Int) := ofb; obtain ⟨ad309, A309_0, c309_0, e309, hx309_0, hx309_1, hl309_0, hi309_0⟩ := at_T65 HR0.out t308 p309 q309; cases e309; replace hx309_0 := up HB.out hx309_0; replace hx309_1 := up HB.out hx309_1; have HR309_0 := am hi309_0; have HC309_0 := am hl309_0; clear hi309_0 hl309_0; replace p309 := eq_true p309; replace q309 := eq_true q309))
   go_ret
   exact ⟨_, rq ⟨by first | exact Kd.R_nil _ _ _ _ _ | exact Kd.N_nil _ _ _ _ _ | exact Kd.V_nil _ _ _ _ _ | exact Kd.Q_nil _ _ _ _ _ | exact Kd.S_nil _ _ _ _ _, bg1 HB.out GE301.out⟩⟩
 rw [if_neg c21] at H
 have c21b0 : (((rd_T65 l0 t308).f1) == 200) = false := beq_eq_false_iff_ne.mpr c21
 have c21b1 : (((rd_T65 l0 t308).f1) != 200) = true := bne_iff_ne.mpr c21
 have H' := am H
 clear H
 go_enter Try.func62, Try.ntmps62
 go_wp2_with (first | (refine gl 18 Try.func86 #[.slice A0 l0.length c0] rfl ?_; (with_reducible refine (impl_FindNext.calls _ _ l0 t300 _ ?side1 ?side2 A5.out).mono ?_); (case side1 => repeat (first | exact HR0.out | (with_reducible refine Kd.C_alloc ?_ _) | (with_reducible refine Kd.C_drewN ?_ _) | (with_reducible refine Kd.C_drew ?_))); (case side2 => exact HC0.out); rintro e w28 ⟨rfl, hb⟩; refine ⟨_, rfl, ?_⟩; replace HB := am (below_step (ph HB.out) hb); (try clear hb); (try clear hb2); (try clear hk); (try clear hi)) | (refine bx 9 #[.int .i64 0, .int .i64 0, .int .i64 0, .int .i64 0] 30 rfl ?_; intro gb301 hg w29 hbox hb; have BK301 := am (hbox); have GW301 := am ((by rw [hg]; exact (below_size (ph HB.out)) : w.heap.size ≤ gb301)); have GE301 := GW301; replace HB := am (below_step (ph HB.out) hb); clear hb hbox hg; obtain ⟨hcz30_0, hcz30_1, hcz30_2, hcz30_3⟩ := b4 BK301.out; obtain ⟨hfz30_0, hfz30_1, hfz30_2, hfz30_3⟩ := f4 BK301.out) | (refine gl 23 Try.func46 #[.agg #[.int .i64 a1, .int .i64 t300, .int .i64 a2, .int .i64 a3]] rfl ?_; (with_reducible refine (impl_RecOk.calls a1 t300 a2 a3 true _ A6.out).mono ?_); rintro e w31 ⟨rfl, hb⟩; refine ⟨_, rfl, ?_⟩; replace BK301 := am (blk_below (g := gb301) (o := .cells #[.int .i64 a1, .int .i64 t300, .int .i64 a2, .int .i64 a3] 30 (0, 0)) (by (with_reducible repeat (first | refine blk_drewN ?_ _ | refine blk_drew ?_ | refine blk_alloc ?_ _)); refine blk_put (cs := #[.int .i64 a1, .int .i64 t300, .int .i64 a2, .int .i64 0]) ?_ 3 _ rfl; (with_reducible repeat (first | refine blk_drewN ?_ _ | refine blk_drew ?_ | refine blk_alloc ?_ _)); refine blk_put (cs := #[.int .i64 a1, .int .i64 t300, .int .i64 0, .int .i64 0]) ?_ 2 _ rfl; (with_reducible repeat (first | refine blk_drewN ?_ _ | refine blk_drew ?_ | refine blk_alloc ?_ _)); refine blk_put (cs := #[.int .i64 a1, .int .i64 0, .int .i64 0, .int .i64 0]) ?_ 1 _ rfl; (with_reducible repeat (first | refine blk_drewN ?_ _ | refine blk_drew ?_ | refine blk_alloc ?_ _)); refine blk_put (cs := #[.int .i64 0, .int .i64 0, .int .i64 0, .int .i64 0]) ?_ 0 _ rfl; (with_reducible repeat (first | refine blk_drewN ?_ _ | refine blk_drew ?_ | refine blk_alloc ?_ _)); exact BK301.out) hb); replace HB := am (below_step (bg1 HB.out GE301.out) hb); (try clear hb); (try clear hb2); (try clear hk); (try clear hi)) | (refine gl 27 Try.func87 #[.slice A0 l0.length c0] rfl ?_; (with_reducible refine (impl_FindOpen.calls k _ _ l0 t303 false _ ?side1 ?side2 A8.out).mono ?_); (case side1 => exact pc (Kd.C_below HR0.out HB.out)); (case side2 => exact HC0.out); rintro e w32 ⟨rfl, hb⟩; refine ⟨_, rfl, ?_⟩; replace BK301 := am (blk_below (pb BK301.out) hb); replace HB := am (below_step (bg1 HB.out GE301.out) hb); (try clear hb); (try clear hb2); (try clear hk); (try clear hi)) | (refine gl 36 Try.func88 #[.slice A0 l0.length c0] rfl ?_; (with_reducible refine (impl_FindOld.calls _ _ l0 t308 _ ?side1 ?side2 A18.out).mono ?_); (case side1 => exact pc (Kd.C_below HR0.out HB.out)); (case side2 => exact HC0.out); rintro e w33 ⟨rfl, hb⟩; refine ⟨_, rfl, ?_⟩; replace BK301 := am (blk_below (pb BK301.out) hb); replace HB := am (below_step (bg1 HB.out GE301.out) hb); (try clear hb); (try clear hb2); (try clear hk); (try clear hi); have p309 : 0 ≤ (t308 : Int) := ofb; have q309 : t308 < (l0.length : Int) := ofb; obtain ⟨ad309, A309_0, c309_0, e309, hx309_0, hx309_1, hl309_0, hi309_0⟩ := at_T65 HR0.out t308 p309 q309; cases e309; replace hx309_0 := up HB.out hx309_0; replace hx309_1 := up HB.out hx309_1; have HR309_0 := am hi309_0; have HC309_0 := am hl309_0; clear hi309_0 hl309_0; replace p309 := eq_true p309; replace q309 := eq_true q309; have p310 : 0 ≤ (t308 : Int) := ofb; have q310 : t308 < (l0.length : Int) := ofb; obtain ⟨ad310, A310_0, c310_0, e310, hx310_0, hx310_1, hl310_0, hi310_0⟩ := at_T65 HR0.out t308 p310 q310; obtain rfl : ad309 = ad310 := (by injection e310); replace hx310_0 := up HB.out hx310_0; replace hx310_1 := up HB.out hx310_1; have HR310_0 := am hi310_0; have HC310_0 := am hl310_0; clear hi310_0 hl310_0; replace p310 := eq_true p310; replace q310 := eq_true q310; have ea_ := Option.some.inj (hx309_0.symm.trans hx310_0); injection ea_ with ea_ en_ ec_; subst ea_; subst ec_; clear en_))
 go_loopg [13, 49] k (fun kq v13 v49 w' => ∃ (x13_1 : List (S85)) (x49_1 : Int), v49 = .int .i64 x49_1 ∧ Aside0 (impl_stepsWrite.l0 kq l0 t308 x13_1 ((rd_T65 l0 t308).f0) (((rd_T65 l0 t308).f0).length : Int) x49_1 a1 t300 a2 a3 = some r) ∧ Aside0 (kq ≤ k) ∧ Aside0 (Kd.R k85 85 w' w.heap.size (fun _ => True) v13 x13_1) ∧ Aside0 (w'.heap[gb301]? = some (.cells #[.int .i64 a1, .int .i64 t300, .int .i64 a2, .int .i64 a3] 30 (0, 0))) ∧ Aside0 (Below w.heap.size w w'))
 case atStart => exact ⟨(([] : List (S85))), (0), rf, H', ⟨Nat.le_refl _⟩, ⟨by first | exact Kd.R_nil _ _ _ _ _ | exact Kd.N_nil _ _ _ _ _ | exact Kd.V_nil _ _ _ _ _ | exact Kd.Q_nil _ _ _ _ _ | exact Kd.S_nil _ _ _ _ _⟩, ⟨pb BK301.out⟩, ⟨bg1 HB.out GE301.out⟩⟩
 case round =>
  clear H'
  obtain ⟨x13_1, x49_1, rfl, HA, HK1, HO_13, BK301, HB⟩ := hrel
  cases gk with
  | zero => exact absurd HA.out (by simp [impl_stepsWrite.l0])
  | succ k1 =>
   have H := HA.out
   clear HA
   simp only [impl_stepsWrite.l0] at H
   by_cases c34 : x49_1 < (((rd_T65 l0 t308).f0).length : Int)
   rotate_left
   · rw [if_neg c34] at H
     have c34b0 := decide_eq_false c34
     clear c34
     by_cases c60 : x13_1.length < 2199023255552
     rotate_left
     · rw [if_neg c60] at H
       exact absurd H (by simp)
     rw [if_pos c60] at H
     have LMc60 := am c60
     clear c60
     obtain ⟨y311, hy311⟩ : ∃ y_ : List (S85), y_ = (x13_1 ++ [(⟨2, 0, 0, t308, (⟨0, 0, 0, 0⟩ : S30)⟩ : S85)]) := ⟨_, rfl⟩
     replace H : (if y311.length < 2199023255552 then (some (y311 ++ [(⟨3, 0, 0, t308, (⟨a1, t300, a2, a3⟩ : S30)⟩ : S85)])) else (none)) = some r := by first | (rw [hy311]; with_reducible exact H) | (have H2_ := (Option.bind_some _ _).symm.trans H; rw [hy311]; with_reducible exact H2_) | (have H2_ := (Option.bind_some _ _).symm.trans H; with_reducible exact H2_) | with_reducible exact H | (rw [hy311]; exact H) | exact H
     have Ny311 := am hy311
     clear hy311
     by_cases c61 : y311.length < 2199023255552
     rotate_left
     · rw [if_neg c61] at H
       exact absurd H (by simp)
     rw [if_pos c61] at H
     have LMc61 := am c61
     clear c61
     obtain ⟨y314, hy314⟩ : ∃ y_ : List (S85), y_ = (y311 ++ [(⟨3, 0, 0, t308, (⟨a1, t300, a2, a3⟩ : S30)⟩ : S85)]) := ⟨_, rfl⟩
     replace H : (some y314) = some r := by first | (rw [hy314]; with_reducible exact H) | (have H2_ := (Option.bind_some _ _).symm.trans H; rw [hy314]; with_reducible exact H2_) | (have H2_ := (Option.bind_some _ _).symm.trans H; with_reducible exact H2_) | with_reducible exact H | (rw [hy314]; exact H) | exact H
     have Ny314 := am hy314
     clear hy314
     obtain rfl := Option.some.inj H
     go_wp2_with (first | ((with_reducible refine gate_builtin (b := .append) (xs := #[.tmp 70, .tmp 73]) rfl ?_); at_builtin; refine Kd.R_append k85 (w0 := w) w.heap.size rfl (.tmp 70) (.tmp 73) 48 85 (.agg #[(.int .i64 0), (.int .i64 0), (.int .i64 0), (.int .i64 0), (.int .i64 0), (.int .i64 0), (.int .i64 0), (.int .i64 0)]) 64 rfl Try.underlying48 info85 rfl (by decide) (by omega) u13 x13_1 (⟨2, 0, 0, t308, (⟨0, 0, 0, 0⟩ : S30)⟩ : S85) [.int .i64 2, .int .i64 0, .int .i64 0, .int .i64 t308, .int .i64 0, .int .i64 0, .int .i64 0, .int .i64 0] (fun _ => True) (fun _ => False) rfl rfl ?aP (fun _ hk => hk.elim) ?aF ?aO ?aB ?aS ?aL ?_; (case aP => exact k85_mkM _ _ _ (⟨2, 0, 0, t308, (⟨0, 0, 0, 0⟩ : S30)⟩ : S85)); (case aB => exact (bg1 HB.out GE301.out)); (case aF => exact (fun _ _ => trivial)); (case aO => exact (pr HO_13.out)); (case aS => exact (below_size (bg1 HB.out GE301.out))); (case aL => have := LMc60.out; omega); intro v312 w62 ho hb hg hat; rw [← Ny311.out] at ho; replace BK301 := am (blk_grown (g := gb301) (o := .cells #[.int .i64 a1, .int .i64 t300, .int .i64 a2, .int .i64 a3] 30 (0, 0)) (pb BK301.out) hg (Kd.R_ne HO_13.out BK301.out (by decide))); replace HB := am (hb); have HO313 := am (ho); clear HO_13; clear ho hb hg hat; obtain ⟨hcz63_0, hcz63_1, hcz63_2, hcz63_3⟩ := b4 BK301.out; obtain ⟨hfz63_0, hfz63_1, hfz63_2, hfz63_3⟩ := f4 BK301.out) | ((with_reducible refine gate_builtin (b := .append) (xs := #[.tmp 75, .tmp 79]) rfl ?_); at_builtin; refine Kd.R_append k85 (w0 := w) w.heap.size rfl (.tmp 75) (.tmp 79) 48 85 (.agg #[(.int .i64 0), (.int .i64 0), (.int .i64 0), (.int .i64 0), (.int .i64 0), (.int .i64 0), (.int .i64 0), (.int .i64 0)]) 64 rfl Try.underlying48 info85 rfl (by decide) (by omega) v312 y311 (⟨3, 0, 0, t308, (⟨a1, t300, a2, a3⟩ : S30)⟩ : S85) [.int .i64 3, .int .i64 0, .int .i64 0, .int .i64 t308, .int .i64 a1, .int .i64 t300, .int .i64 a2, .int .i64 a3] (fun _ => True) (fun _ => False) rfl rfl ?aP (fun _ hk => hk.elim) ?aF ?aO ?aB ?aS ?aL ?_; (case aP => exact k85_mkM _ _ _ (⟨3, 0, 0, t308, (⟨a1, t300, a2, a3⟩ : S30)⟩ : S85)); (case aB => exact (bg1 HB.out GE301.out)); (case aF => exact (fun _ _ => trivial)); (case aO => exact (pr HO313.out)); (case aS => exact (below_size (bg1 HB.out GE301.out))); (case aL => have := LMc61.out; omega); intro v315 w64 ho hb hg hat; rw [← Ny314.out] at ho; replace BK301 := am (blk_grown (g := gb301) (o := .cells #[.int .i64 a1, .int .i64 t300, .int .i64 a2, .int .i64 a3] 30 (0, 0)) (pb BK301.out) hg (Kd.R_ne HO313.out BK301.out (by decide))); replace HB := am (hb); have HO316 := am (ho); clear HO313; clear ho hb hg hat))
     go_ret
     exact ⟨_, rq ⟨pr HO316.out, bg1 HB.out GE301.out⟩⟩
   rw [if_pos c34] at H
   have c34b0 := decide_eq_true c34
   clear c34
   by_cases c35 : 0 ≤ x49_1
   rotate_left
   · rw [if_neg c35] at H
     exact absurd H (by simp)
   rw [if_pos c35] at H
   have c35b0 := decide_eq_true c35
   clear c35
   by_cases c36 : x49_1 < (((rd_T65 l0 t308).f0).length : Int)
   rotate_left
   · rw [if_neg c36] at H
     exact absurd H (by simp)
   rw [if_pos c36] at H
   have c36b0 := decide_eq_true c36
   clear c36
   replace H := Option.bind_eq_some_iff.mp H
   obtain ⟨t319, A370, H⟩ := H
   replace H : (if t319 = true then ((impl_FindLive.f k1 l0 t308 x49_1).bind fun t320 => (if t320 = true then ((impl_diskStep.f ((rd_T71 ((rd_T65 l0 t308).f0) x49_1).f1.f0) ((rd_T71 ((rd_T65 l0 t308).f0) x49_1).f1.f1) ((rd_T71 ((rd_T65 l0 t308).f0) x49_1).f1.f2) ((rd_T71 ((rd_T65 l0 t308).f0) x49_1).f1.f3)).bind fun bt321 => (if x13_1.length < 2199023255552 then (impl_stepsWrite.l0 k1 l0 t308 (x13_1 ++ [(⟨bt321.1, bt321.2.1, bt321.2.2.1, bt321.2.2.2.1, (⟨bt321.2.2.2.2.1, bt321.2.2.2.2.2.1, bt321.2.2.2.2.2.2.1, bt321.2.2.2.2.2.2.2⟩ : S30)⟩ : S85)]) ((rd_T65 l0 t308).f0) (((rd_T65 l0 t308).f0).length : Int) (wrap64 (x49_1 + 1)) a1 t300 a2 a3) else (none))) else (impl_stepsWrite.l0 k1 l0 t308 x13_1 ((rd_T65 l0 t308).f0) (((rd_T65 l0 t308).f0).length : Int) (wrap64 (x49_1 + 1)) a1 t300 a2 a3))) else (impl_stepsWrite.l0 k1 l0 t308 x13_1 ((rd_T65 l0 t308).f0) (((rd_T65 l0 t308).f0).length : Int) (wrap64 (x49_1 + 1)) a1 t300 a2 a3)) = some r := H
   have A37 := am A370
   clear A370
   by_cases c38 : t319 = true
   rotate_left
   · replace c38 := Bool.eq_false_iff.mpr c38
     subst c38
     have H1 : (impl_stepsWrite.l0 k1 l0 t308 x13_1 ((rd_T65 l0 t308).f0) (((rd_T65 l0 t308).f0).length : Int) (wrap64 (x49_1 + 1)) a1 t300 a2 a3) = some r := by rw [if_neg (show ¬ (false = true) by decide)] at H; exact H
     clear H
     have H := H1
     clear H1
     have H' := am H
     clear H
     have p317 : 0 ≤ (x49_1 : Int) := ofb
     have q317 : x49_1 < (((rd_T65 l0 t308).f0).length : Int) := ofb
     obtain ⟨ad317, e317, hx317_0, hx317_1, hx317_2, hx317_3, hx317_4⟩ := at_T71 HR310_0.out x49_1 p317 q317
     cases e317
     replace hx317_0 := up HB.out hx317_0
     replace hx317_1 := up HB.out hx317_1
     replace hx317_2 := up HB.out hx317_2
     replace hx317_3 := up HB.out hx317_3
     replace hx317_4 := up HB.out hx317_4
     replace p317 := eq_true p317
     replace q317 := eq_true q317
     go_wp2_with (first | (refine bx 15 #[.int .i64 0, .int .i64 0, .int .i64 0, .int .i64 0, .int .i64 0] 71 rfl ?_; intro gb318 hg w56 hbox hb; replace HO_13 := am (Kd.R_below (pr HO_13.out) hb); have BK318 := am (hbox); have GW318 := am ((by rw [hg]; exact (below_size (bg1 HB.out GE301.out)) : w.heap.size ≤ gb318)); have GE318 := GW318; replace HB := am (below_step (bg1 HB.out GE301.out) hb); have NB301_318 := am ((by rw [hg]; exact Nat.ne_of_lt (blk_lt (pb BK301.out)) : gb301 ≠ gb318)); have NB318_301 := am (Ne.symm NB301_318.out); replace BK301 := am (blk_below (pb BK301.out) hb); clear hb hbox hg; have hnb57 := NB318_301.out; have hnc57 := NB301_318.out; obtain ⟨hcz58_0, hcz58_1, hcz58_2, hcz58_3, hcz58_4⟩ := b5 BK318.out; obtain ⟨hfz58_0, hfz58_1, hfz58_2, hfz58_3, hfz58_4⟩ := f5 BK318.out) | (refine gl 56 Try.func59 #[.agg #[.int .i64 ((rd_T71 ((rd_T65 l0 t308).f0) x49_1).f1.f0), .int .i64 ((rd_T71 ((rd_T65 l0 t308).f0) x49_1).f1.f1), .int .i64 ((rd_T71 ((rd_T65 l0 t308).f0) x49_1).f1.f2), .int .i64 ((rd_T71 ((rd_T65 l0 t308).f0) x49_1).f1.f3)]] rfl ?_; (with_reducible refine (impl_Rec_isDirty.calls ((rd_T71 ((rd_T65 l0 t308).f0) x49_1).f1.f0) ((rd_T71 ((rd_T65 l0 t308).f0) x49_1).f1.f1) ((rd_T71 ((rd_T65 l0 t308).f0) x49_1).f1.f2) ((rd_T71 ((rd_T65 l0 t308).f0) x49_1).f1.f3) false _ A37.out).mono ?_); rintro e w59 ⟨rfl, hb⟩; refine ⟨_, rfl, ?_⟩; replace HO_13 := am (Kd.R_below (by (with_reducible repeat (first | apply Kd.R_alloc | apply Kd.R_drewN | apply Kd.R_drew)); exact (Kd.R_mono (Kd.R_far (p := ⟨gb318, 4, none⟩) (Kd.R_far (p := ⟨gb318, 3, none⟩) (Kd.R_far (p := ⟨gb318, 2, none⟩) (Kd.R_far (p := ⟨gb318, 1, none⟩) (Kd.R_far (p := ⟨gb318, 0, none⟩) (Kd.R_types HO_13.out BK318.out (by decide)) (fun _ hk => hk.2) (.int .i64 ((rd_T71 ((rd_T65 l0 t308).f0) x49_1).f0))) (fun _ hk => hk.2) (.int .i64 ((rd_T71 ((rd_T65 l0 t308).f0) x49_1).f1.f0))) (fun _ hk => hk.2) (.int .i64 ((rd_T71 ((rd_T65 l0 t308).f0) x49_1).f1.f1))) (fun _ hk => hk.2) (.int .i64 ((rd_T71 ((rd_T65 l0 t308).f0) x49_1).f1.f2))) (fun _ hk => hk.2) (.int .i64 ((rd_T71 ((rd_T65 l0 t308).f0) x49_1).f1.f3))) (fun _ h_ => h_.1))) hb); replace BK301 := am (blk_below (g := gb301) (o := .cells #[.int .i64 a1, .int .i64 t300, .int .i64 a2, .int .i64 a3] 30 (0, 0)) (by (with_reducible repeat (first | refine blk_drewN ?_ _ | refine blk_drew ?_ | refine blk_alloc ?_ _)); refine blk_far ?_ NB301_318.out _; (with_reducible repeat (first | refine blk_drewN ?_ _ | refine blk_drew ?_ | refine blk_alloc ?_ _)); refine blk_far ?_ NB301_318.out _; (with_reducible repeat (first | refine blk_drewN ?_ _ | refine blk_drew ?_ | refine blk_alloc ?_ _)); refine blk_far ?_ NB301_318.out _; (with_reducible repeat (first | refine blk_drewN ?_ _ | refine blk_drew ?_ | refine blk_alloc ?_ _)); refine blk_far ?_ NB301_318.out _; (with_reducible repeat (first | refine blk_drewN ?_ _ | refine blk_drew ?_ | refine blk_alloc ?_ _)); refine blk_far ?_ NB301_318.out _; (with_reducible repeat (first | refine blk_drewN ?_ _ | refine blk_drew ?_ | refine blk_alloc ?_ _)); exact BK301.out) hb); replace BK318 := am (blk_below (g := gb318) (o := .cells #[.int .i64 ((rd_T71 ((rd_T65 l0 t308).f0) x49_1).f0), .int .i64 ((rd_T71 ((rd_T65 l0 t308).f0) x49_1).f1.f0), .int .i64 ((rd_T71 ((rd_T65 l0 t308).f0) x49_1).f1.f1), .int .i64 ((rd_T71 ((rd_T65 l0 t308).f0) x49_1).f1.f2), .int .i64 ((rd_T71 ((rd_T65 l0 t308).f0) x49_1).f1.f3)] 71 (0, 0)) (by (with_reducible repeat (first | refine blk_drewN ?_ _ | refine blk_drew ?_ | refine blk_alloc ?_ _)); refine blk_put (cs := #[.int .i64 ((rd_T71 ((rd_T65 l0 t308).f0) x49_1).f0), .int .i64 ((rd_T71 ((rd_T65 l0 t308).f0) x49_1).f1.f0), .int .i64 ((rd_T71 ((rd_T65 l0 t308).f0) x49_1).f1.f1), .int .i64 ((rd_T71 ((rd_T65 l0 t308).f0) x49_1).f1.f2), .int .i64 0]) ?_ 4 _ rfl; (with_reducible repeat (first | refine blk_drewN ?_ _ | refine blk_drew ?_ | refine blk_alloc ?_ _)); refine blk_put (cs := #[.int .i64 ((rd_T71 ((rd_T65 l0 t308).f0) x49_1).f0), .int .i64 ((rd_T71 ((rd_T65 l0 t308).f0) x49_1).f1.f0), .int .i64 ((rd_T71 ((rd_T65 l0 t308).f0) x49_1).f1.f1), .int .i64 0, .int .i64 0]) ?_ 3 _ rfl; (with_reducible repeat (first | refine blk_drewN ?_ _ | refine blk_drew ?_ | refine blk_alloc ?_ _)); refine blk_put (cs := #[.int .i64 ((rd_T71 ((rd_T65 l0 t308).f0) x49_1).f0), .int .i64 ((rd_T71 ((rd_T65 l0 t308).f0) x49_1).f1.f0), .int .i64 0, .int .i64 0, .int .i64 0]) ?_ 2 _ rfl; (with_reducible repeat (first | refine blk_drewN ?_ _ | refine blk_drew ?_ | refine blk_alloc ?_ _)); refine blk_put (cs := #[.int .i64 ((rd_T71 ((rd_T65 l0 t308).f0) x49_1).f0), .int .i64 0, .int .i64 0, .int .i64 0, .int .i64 0]) ?_ 1 _ rfl; (with_reducible repeat (first | refine blk_drewN ?_ _ | refine blk_drew ?_ | refine blk_alloc ?_ _)); refine blk_put (cs := #[.int .i64 0, .int .i64 0, .int .i64 0, .int .i64 0, .int .i64 0]) ?_ 0 _ rfl; (with_reducible repeat (first | refine blk_drewN ?_ _ | refine blk_drew ?_ | refine blk_alloc ?_ _)); exact BK318.out) hb); replace HB := am (below_step (bg2 HB.out GE301.out GE318.out) hb); (try clear hb); (try clear hb2); (try clear hk); (try clear hi)))
     go_roundg k1
     case measure => have := HK1.out; omega
     case rel => exact ⟨(x13_1), (wrap64 (x49_1 + 1)), rf, H', ⟨by have := HK1.out; omega⟩, ⟨pr HO_13.out⟩, ⟨pb BK301.out⟩, ⟨bg2 HB.out GE301.out GE318.out⟩⟩
   subst c38
   have H1 : ((impl_FindLive.f k1 l0 t308 x49_1).bind fun t320 => (if t320 = true then ((impl_diskStep.f ((rd_T71 ((rd_T65 l0 t308).f0) x49_1).f1.f0) ((rd_T71 ((rd_T65 l0 t308).f0) x49_1).f1.f1) ((rd_T71 ((rd_T65 l0 t308).f0) x49_1).f1.f2) ((rd_T71 ((rd_T65 l0 t308).f0) x49_1).f1.f3)).bind fun bt321 => (if x13_1.length < 2199023255552 then (impl_stepsWrite.l0 k1 l0 t308 (x13_1 ++ [(⟨bt321.1, bt321.2.1, bt321.2.2.1, bt321.2.2.2.1, (⟨bt321.2.2.2.2.1, bt321.2.2.2.2.2.1, bt321.2.2.2.2.2.2.1, bt321.2.2.2.2.2.2.2⟩ : S30)⟩ : S85)]) ((rd_T65 l0 t308).f0) (((rd_T65 l0 t308).f0).length : Int) (wrap64 (x49_1 + 1)) a1 t300 a2 a3) else (none))) else (impl_stepsWrite.l0 k1 l0 t308 x13_1 ((rd_T65 l0 t308).f0) (((rd_T65 l0 t308).f0).length : Int) (wrap64 (x49_1 + 1)) a1 t300 a2 a3))) = some r := by rw [if_pos rfl] at H; exact H
   clear H
   have H := H1
   clear H1
   replace H := Option.bind_eq_some_iff.mp H
   obtain ⟨t320, A390, H⟩ := H
   replace H : (if t320 = true then ((impl_diskStep.f ((rd_T71 ((rd_T65 l0 t308).f0) x49_1).f1.f0) ((rd_T71 ((rd_T65 l0 t308).f0) x49_1).f1.f1) ((rd_T71 ((rd_T65 l0 t308).f0) x49_1).f1.f2) ((rd_T71 ((rd_T65 l0 t308).f0) x49_1).f1.f3)).bind fun bt321 => (if x13_1.length < 2199023255552 then (impl_stepsWrite.l0 k1 l0 t308 (x13_1 ++ [(⟨bt321.1, bt321.2.1, bt321.2.2.1, bt321.2.2.2.1, (⟨bt321.2.2.2.2.1, bt321.2.2.2.2.2.1, bt321.2.2.2.2.2.2.1, bt321.2.2.2.2.2.2.2⟩ : S30)⟩ : S85)]) ((rd_T65 l0 t308).f0) (((rd_T65 l0 t308).f0).length : Int) (wrap64 (x49_1 + 1)) a1 t300 a2 a3) else (none))) else (impl_stepsWrite.l0 k1 l0 t308 x13_1 ((rd_T65 l0 t308).f0) (((rd_T65 l0 t308).f0).length : Int) (wrap64 (x49_1 + 1)) a1 t300 a2 a3)) = some r := H
   have A39 := am A390
   clear A390
   by_cases c40 : t320 = true
   rotate_left
   · replace c40 := Bool.eq_false_iff.mpr c40
     subst c40
     have H1 : (impl_stepsWrite.l0 k1 l0 t308 x13_1 ((rd_T65 l0 t308).f0) (((rd_T65 l0 t308).f0).length : Int) (wrap64 (x49_1 + 1)) a1 t300 a2 a3) = some r := by rw [if_neg (show ¬ (false = true) by decide)] at H; exact H
     clear H
     have H := H1
     clear H1
     have H' := am H
     clear H
     have p317 : 0 ≤ (x49_1 : Int) := ofb
     have q317 : x49_1 < (((rd_T65 l0 t308).f0).length : Int) := ofb
     obtain ⟨ad317, e317, hx317_0, hx317_1, hx317_2, hx317_3, hx317_4⟩ := at_T71 HR310_0.out x49_1 p317 q317
     cases e317
     replace hx317_0 := up HB.out hx317_0
     replace hx317_1 := up HB.out hx317_1
     replace hx317_2 := up HB.out hx317_2
     replace hx317_3 := up HB.out hx317_3
     replace hx317_4 := up HB.out hx317_4
     replace p317 := eq_true p317
     replace q317 := eq_true q317
     go_wp2_with (first | (refine bx 15 #[.int .i64 0, .int .i64 0, .int .i64 0, .int .i64 0, .int .i64 0] 71 rfl ?_; intro gb318 hg w51 hbox hb; replace HO_13 := am (Kd.R_below (pr HO_13.out) hb); have BK318 := am (hbox); have GW318 := am ((by rw [hg]; exact (below_size (bg1 HB.out GE301.out)) : w.heap.size ≤ gb318)); have GE318 := GW318; replace HB := am (below_step (bg1 HB.out GE301.out) hb); have NB301_318 := am ((by rw [hg]; exact Nat.ne_of_lt (blk_lt (pb BK301.out)) : gb301 ≠ gb318)); have NB318_301 := am (Ne.symm NB301_318.out); replace BK301 := am (blk_below (pb BK301.out) hb); clear hb hbox hg; have hnb52 := NB318_301.out; have hnc52 := NB301_318.out; obtain ⟨hcz53_0, hcz53_1, hcz53_2, hcz53_3, hcz53_4⟩ := b5 BK318.out; obtain ⟨hfz53_0, hfz53_1, hfz53_2, hfz53_3, hfz53_4⟩ := f5 BK318.out) | (refine gl 56 Try.func59 #[.agg #[.int .i64 ((rd_T71 ((rd_T65 l0 t308).f0) x49_1).f1.f0), .int .i64 ((rd_T71 ((rd_T65 l0 t308).f0) x49_1).f1.f1), .int .i64 ((rd_T71 ((rd_T65 l0 t308).f0) x49_1).f1.f2), .int .i64 ((rd_T71 ((rd_T65 l0 t308).f0) x49_1).f1.f3)]] rfl ?_; (with_reducible refine (impl_Rec_isDirty.calls ((rd_T71 ((rd_T65 l0 t308).f0) x49_1).f1.f0) ((rd_T71 ((rd_T65 l0 t308).f0) x49_1).f1.f1) ((rd_T71 ((rd_T65 l0 t308).f0) x49_1).f1.f2) ((rd_T71 ((rd_T65 l0 t308).f0) x49_1).f1.f3) true _ A37.out).mono ?_); rintro e w54 ⟨rfl, hb⟩; refine ⟨_, rfl, ?_⟩; replace HO_13 := am (Kd.R_below (by (with_reducible repeat (first | apply Kd.R_alloc | apply Kd.R_drewN | apply Kd.R_drew)); exact (Kd.R_mono (Kd.R_far (p := ⟨gb318, 4, none⟩) (Kd.R_far (p := ⟨gb318, 3, none⟩) (Kd.R_far (p := ⟨gb318, 2, none⟩) (Kd.R_far (p := ⟨gb318, 1, none⟩) (Kd.R_far (p := ⟨gb318, 0, none⟩) (Kd.R_types HO_13.out BK318.out (by decide)) (fun _ hk => hk.2) (.int .i64 ((rd_T71 ((rd_T65 l0 t308).f0) x49_1).f0))) (fun _ hk => hk.2) (.int .i64 ((rd_T71 ((rd_T65 l0 t308).f0) x49_1).f1.f0))) (fun _ hk => hk.2) (.int .i64 ((rd_T71 ((rd_T65 l0 t308).f0) x49_1).f1.f1))) (fun _ hk => hk.2) (.int .i64 ((rd_T71 ((rd_T65 l0 t308).f0) x49_1).f1.f2))) (fun _ hk => hk.2) (.int .i64 ((rd_T71 ((rd_T65 l0 t308).f0) x49_1).f1.f3))) (fun _ h_ => h_.1))) hb); replace BK301 := am (blk_below (g := gb301) (o := .cells #[.int .i64 a1, .int .i64 t300, .int .i64 a2, .int .i64 a3] 30 (0, 0)) (by (with_reducible repeat (first | refine blk_drewN ?_ _ | refine blk_drew ?_ | refine blk_alloc ?_ _)); refine blk_far ?_ NB301_318.out _; (with_reducible repeat (first | refine blk_drewN ?_ _ | refine blk_drew ?_ | refine blk_alloc ?_ _)); refine blk_far ?_ NB301_318.out _; (with_reducible repeat (first | refine blk_drewN ?_ _ | refine blk_drew ?_ | refine blk_alloc ?_ _)); refine blk_far ?_ NB301_318.out _; (with_reducible repeat (first | refine blk_drewN ?_ _ | refine blk_drew ?_ | refine blk_alloc ?_ _)); refine blk_far ?_ NB301_318.out _; (with_reducible repeat (first | refine blk_drewN ?_ _ | refine blk_drew ?_ | refine blk_alloc ?_ _)); refine blk_far ?_ NB301_318.out _; (with_reducible repeat (first | refine blk_drewN ?_ _ | refine blk_drew ?_ | refine blk_alloc ?_ _)); exact BK301.out) hb); replace BK318 := am (blk_below (g := gb318) (o := .cells #[.int .i64 ((rd_T71 ((rd_T65 l0 t308).f0) x49_1).f0), .int .i64 ((rd_T71 ((rd_T65 l0 t308).f0) x49_1).f1.f0), .int .i64 ((rd_T71 ((rd_T65 l0 t308).f0) x49_1).f1.f1), .int .i64 ((rd_T71 ((rd_T65 l0 t308).f0) x49_1).f1.f2), .int .i64 ((rd_T71 ((rd_T65 l0 t308).f0) x49_1).f1.f3)] 71 (0, 0)) (by (with_reducible repeat (first | refine blk_drewN ?_ _ | refine blk_drew ?_ | refine blk_alloc ?_ _)); refine blk_put (cs := #[.int .i64 ((rd_T71 ((rd_T65 l0 t308).f0) x49_1).f0), .int .i64 ((rd_T71 ((rd_T65 l0 t308).f0) x49_1).f1.f0), .int .i64 ((rd_T71 ((rd_T65 l0 t308).f0) x49_1).f1.f1), .int .i64 ((rd_T71 ((rd_T65 l0 t308).f0) x49_1).f1.f2), .int .i64 0]) ?_ 4 _ rfl; (with_reducible repeat (first | refine blk_drewN ?_ _ | refine blk_drew ?_ | refine blk_alloc ?_ _)); refine blk_put (cs := #[.int .i64 ((rd_T71 ((rd_T65 l0 t308).f0) x49_1).f0), .int .i64 ((rd_T71 ((rd_T65 l0 t308).f0) x49_1).f1.f0), .int .i64 ((rd_T71 ((rd_T65 l0 t308).f0) x49_1).f1.f1), .int .i64 0, .int .i64 0]) ?_ 3 _ rfl; (with_reducible repeat (first | refine blk_drewN ?_ _ | refine blk_drew ?_ | refine blk_alloc ?_ _)); refine blk_put (cs := #[.int .i64 ((rd_T71 ((rd_T65 l0 t308).f0) x49_1).f0), .int .i64 ((rd_T71 ((rd_T65 l0 t308).f0) x49_1).f1.f0), .int .i64 0, .int .i64 0, .int .i64 0]) ?_ 2 _ rfl; (with_reducible repeat (first | refine blk_drewN ?_ _ | refine blk_drew ?_ | refine blk_alloc ?_ _)); refine blk_put (cs := #[.int .i64 ((rd_T71 ((rd_T65 l0 t308).f0) x49_1).f0), .int .i64 0, .int .i64 0, .int .i64 0, .int .i64 0]) ?_ 1 _ rfl; (with_reducible repeat (first | refine blk_drewN ?_ _ | refine blk_drew ?_ | refine blk_alloc ?_ _)); refine blk_put (cs := #[.int .i64 0, .int .i64 0, .int .i64 0, .int .i64 0, .int .i64 0]) ?_ 0 _ rfl; (with_reducible repeat (first | refine blk_drewN ?_ _ | refine blk_drew ?_ | refine blk_alloc ?_ _)); exact BK318.out) hb); replace HB := am (below_step (bg2 HB.out GE301.out GE318.out) hb); (try clear hb); (try clear hb2); (try clear hk); (try clear hi)) | (go_at_call 89; (with_reducible refine (impl_FindLive.calls k1 _ _ l0 t308 x49_1 false _ ?side1 ?side2 A39.out).mono ?_); (case side1 => exact pc (Kd.C_below HR0.out HB.out)); (case side2 => exact HC0.out); rintro e w55 ⟨rfl, hb⟩; replace HO_13 := am (Kd.R_below (pr HO_13.out) hb); replace BK301 := am (blk_below (pb BK301.out) hb); replace BK318 := am (blk_below (pb BK318.out) hb); replace HB := am (below_step (bg2 HB.out GE301.out GE318.out) hb); (try clear hb); (try clear hb2); (try clear hk); (try clear hi)))
     go_roundg k1
     case measure => have := HK1.out; omega
     case rel => exact ⟨(x13_1), (wrap64 (x49_1 + 1)), rf, H', ⟨by have := HK1.out; omega⟩, ⟨pr HO_13.out⟩, ⟨pb BK301.out⟩, ⟨bg2 HB.out GE301.out GE318.out⟩⟩
   subst c40
   have H1 : ((impl_diskStep.f ((rd_T71 ((rd_T65 l0 t308).f0) x49_1).f1.f0) ((rd_T71 ((rd_T65 l0 t308).f0) x49_1).f1.f1) ((rd_T71 ((rd_T65 l0 t308).f0) x49_1).f1.f2) ((rd_T71 ((rd_T65 l0 t308).f0) x49_1).f1.f3)).bind fun bt321 => (if x13_1.length < 2199023255552 then (impl_stepsWrite.l0 k1 l0 t308 (x13_1 ++ [(⟨bt321.1, bt321.2.1, bt321.2.2.1, bt321.2.2.2.1, (⟨bt321.2.2.2.2.1, bt321.2.2.2.2.2.1, bt321.2.2.2.2.2.2.1, bt321.2.2.2.2.2.2.2⟩ : S30)⟩ : S85)]) ((rd_T65 l0 t308).f0) (((rd_T65 l0 t308).f0).length : Int) (wrap64 (x49_1 + 1)) a1 t300 a2 a3) else (none))) = some r := by rw [if_pos rfl] at H; exact H
   clear H
   have H := H1
   clear H1
   replace H := Option.bind_eq_some_iff.mp H
   obtain ⟨⟨t321, t322, t323, t324, t325, t326, t327, t328⟩, A410, H⟩ := H
   replace H : (if x13_1.length < 2199023255552 then (impl_stepsWrite.l0 k1 l0 t308 (x13_1 ++ [(⟨t321, t322, t323, t324, (⟨t325, t326, t327, t328⟩ : S30)⟩ : S85)]) ((rd_T65 l0 t308).f0) (((rd_T65 l0 t308).f0).length : Int) (wrap64 (x49_1 + 1)) a1 t300 a2 a3) else (none)) = some r := H
   have A41 := am A410
   clear A410
   by_cases c42 : x13_1.length < 2199023255552
   rotate_left
   · rw [if_neg c42] at H
     exact absurd H (by simp)
   rw [if_pos c42] at H
   have LMc42 := am c42
   clear c42
   obtain ⟨y329, hy329⟩ : ∃ y_ : List (S85), y_ = (x13_1 ++ [(⟨t321, t322, t323, t324, (⟨t325, t326, t327, t328⟩ : S30)⟩ : S85)]) := ⟨_, rfl⟩
   replace H : (impl_stepsWrite.l0 k1 l0 t308 y329 ((rd_T65 l0 t308).f0) (((rd_T65 l0 t308).f0).length : Int) (wrap64 (x49_1 + 1)) a1 t300 a2 a3) = some r := by first | (rw [hy329]; with_reducible exact H) | (have H2_ := (Option.bind_some _ _).symm.trans H; rw [hy329]; with_reducible exact H2_) | (have H2_ := (Option.bind_some _ _).symm.trans H; with_reducible exact H2_) | with_reducible exact H | (rw [hy329]; exact H) | exact H
   have Ny329 := am hy329
   clear hy329
   have H' := am H
   clear H
   have p317 : 0 ≤ (x49_1 : Int) := ofb
   have q317 : x49_1 < (((rd_T65 l0 t308).f0).length : Int) := ofb
   obtain ⟨ad317, e317, hx317_0, hx317_1, hx317_2, hx317_3, hx317_4⟩ := at_T71 HR310_0.out x49_1 p317 q317
   cases e317
   replace hx317_0 := up HB.out hx317_0
   replace hx317_1 := up HB.out hx317_1
   replace hx317_2 := up HB.out hx317_2
   replace hx317_3 := up HB.out hx317_3
   replace hx317_4 := up HB.out hx317_4
   replace p317 := eq_true p317
   replace q317 := eq_true q317
   go_wp2_with (first | (refine bx 15 #[.int .i64 0, .int .i64 0, .int .i64 0, .int .i64 0, .int .i64 0] 71 rfl ?_; intro gb318 hg w43 hbox hb; replace HO_13 := am (Kd.R_below (pr HO_13.out) hb); have BK318 := am (hbox); have GW318 := am ((by rw [hg]; exact (below_size (bg1 HB.out GE301.out)) : w.heap.size ≤ gb318)); have GE318 := GW318; replace HB := am (below_step (bg1 HB.out GE301.out) hb); have NB301_318 := am ((by rw [hg]; exact Nat.ne_of_lt (blk_lt (pb BK301.out)) : gb301 ≠ gb318)); have NB318_301 := am (Ne.symm NB301_318.out); replace BK301 := am (blk_below (pb BK301.out) hb); clear hb hbox hg; have hnb44 := NB318_301.out; have hnc44 := NB301_318.out; obtain ⟨hcz45_0, hcz45_1, hcz45_2, hcz45_3, hcz45_4⟩ := b5 BK318.out; obtain ⟨hfz45_0, hfz45_1, hfz45_2, hfz45_3, hfz45_4⟩ := f5 BK318.out) | (refine gl 56 Try.func59 #[.agg #[.int .i64 ((rd_T71 ((rd_T65 l0 t308).f0) x49_1).f1.f0), .int .i64 ((rd_T71 ((rd_T65 l0 t308).f0) x49_1).f1.f1), .int .i64 ((rd_T71 ((rd_T65 l0 t308).f0) x49_1).f1.f2), .int .i64 ((rd_T71 ((rd_T65 l0 t308).f0) x49_1).f1.f3)]] rfl ?_; (with_reducible refine (impl_Rec_isDirty.calls ((rd_T71 ((rd_T65 l0 t308).f0) x49_1).f1.f0) ((rd_T71 ((rd_T65 l0 t308).f0) x49_1).f1.f1) ((rd_T71 ((rd_T65 l0 t308).f0) x49_1).f1.f2) ((rd_T71 ((rd_T65 l0 t308).f0) x49_1).f1.f3) true _ A37.out).mono ?_); rintro e w46 ⟨rfl, hb⟩; refine ⟨_, rfl, ?_⟩; replace HO_13 := am (Kd.R_below (by (with_reducible repeat (first | apply Kd.R_alloc | apply Kd.R_drewN | apply Kd.R_drew)); exact (Kd.R_mono (Kd.R_far (p := ⟨gb318, 4, none⟩) (Kd.R_far (p := ⟨gb318, 3, none⟩) (Kd.R_far (p := ⟨gb318, 2, none⟩) (Kd.R_far (p := ⟨gb318, 1, none⟩) (Kd.R_far (p := ⟨gb318, 0, none⟩) (Kd.R_types HO_13.out BK318.out (by decide)) (fun _ hk => hk.2) (.int .i64 ((rd_T71 ((rd_T65 l0 t308).f0) x49_1).f0))) (fun _ hk => hk.2) (.int .i64 ((rd_T71 ((rd_T65 l0 t308).f0) x49_1).f1.f0))) (fun _ hk => hk.2) (.int .i64 ((rd_T71 ((rd_T65 l0 t308).f0) x49_1).f1.f1))) (fun _ hk => hk.2) (.int .i64 ((rd_T71 ((rd_T65 l0 t308).f0) x49_1).f1.f2))) (fun _ hk => hk.2) (.int .i64 ((rd_T71 ((rd_T65 l0 t308).f0) x49_1).f1.f3))) (fun _ h_ => h_.1))) hb); replace BK301 := am (blk_below (g := gb301) (o := .cells #[.int .i64 a1, .int .i64 t300, .int .i64 a2, .int .i64 a3] 30 (0, 0)) (by (with_reducible repeat (first | refine blk_drewN ?_ _ | refine blk_drew ?_ | refine blk_alloc ?_ _)); refine blk_far ?_ NB301_318.out _; (with_reducible repeat (first | refine blk_drewN ?_ _ | refine blk_drew ?_ | refine blk_alloc ?_ _)); refine blk_far ?_ NB301_318.out _; (with_reducible repeat (first | refine blk_drewN ?_ _ | refine blk_drew ?_ | refine blk_alloc ?_ _)); refine blk_far ?_ NB301_318.out _; (with_reducible repeat (first | refine blk_drewN ?_ _ | refine blk_drew ?_ | refine blk_alloc ?_ _)); refine blk_far ?_ NB301_318.out _; (with_reducible repeat (first | refine blk_drewN ?_ _ | refine blk_drew ?_ | refine blk_alloc ?_ _)); refine blk_far ?_ NB301_318.out _; (with_reducible repeat (first | refine blk_drewN ?_ _ | refine blk_drew ?_ | refine blk_alloc ?_ _)); exact BK301.out) hb); replace BK318 := am (blk_below (g := gb318) (o := .cells #[.int .i64 ((rd_T71 ((rd_T65 l0 t308).f0) x49_1).f0), .int .i64 ((rd_T71 ((rd_T65 l0 t308).f0) x49_1).f1.f0), .int .i64 ((rd_T71 ((rd_T65 l0 t308).f0) x49_1).f1.f1), .int .i64 ((rd_T71 ((rd_T65 l0 t308).f0) x49_1).f1.f2), .int .i64 ((rd_T71 ((rd_T65 l0 t308).f0) x49_1).f1.f3)] 71 (0, 0)) (by (with_reducible repeat (first | refine blk_drewN ?_ _ | refine blk_drew ?_ | refine blk_alloc ?_ _)); refine blk_put (cs := #[.int .i64 ((rd_T71 ((rd_T65 l0 t308).f0) x49_1).f0), .int .i64 ((rd_T71 ((rd_T65 l0 t308).f0) x49_1).f1.f0), .int .i64 ((rd_T71 ((rd_T65 l0 t308).f0) x49_1).f1.f1), .int .i64 ((rd_T71 ((rd_T65 l0 t308).f0) x49_1).f1.f2), .int .i64 0]) ?_ 4 _ rfl; (with_reducible repeat (first | refine blk_drewN ?_ _ | refine blk_drew ?_ | refine blk_alloc ?_ _)); refine blk_put (cs := #[.int .i64 ((rd_T71 ((rd_T65 l0 t308).f0) x49_1).f0), .int .i64 ((rd_T71 ((rd_T65 l0 t308).f0) x49_1).f1.f0), .int .i64 ((rd_T71 ((rd_T65 l0 t308).f0) x49_1).f1.f1), .int .i64 0, .int .i64 0]) ?_ 3 _ rfl; (with_reducible repeat (first | refine blk_drewN ?_ _ | refine blk_drew ?_ | refine blk_alloc ?_ _)); refine blk_put (cs := #[.int .i64 ((rd_T71 ((rd_T65 l0 t308).f0) x49_1).f0), .int .i64 ((rd_T71 ((rd_T65 l0 t308).f0) x49_1).f1.f0), .int .i64 0, .int .i64 0, .int .i64 0]) ?_ 2 _ rfl; (with_reducible repeat (first | refine blk_drewN ?_ _ | refine blk_drew ?_ | refine blk_alloc ?_ _)); refine blk_put (cs := #[.int .i64 ((rd_T71 ((rd_T65 l0 t308).f0) x49_1).f0), .int .i64 0, .int .i64 0, .int .i64 0, .int .i64 0]) ?_ 1 _ rfl; (with_reducible repeat (first | refine blk_drewN ?_ _ | refine blk_drew ?_ | refine blk_alloc ?_ _)); refine blk_put (cs := #[.int .i64 0, .int .i64 0, .int .i64 0, .int .i64 0, .int .i64 0]) ?_ 0 _ rfl; (with_reducible repeat (first | refine blk_drewN ?_ _ | refine blk_drew ?_ | refine blk_alloc ?_ _)); exact BK318.out) hb); replace HB := am (below_step (bg2 HB.out GE301.out GE318.out) hb); (try clear hb); (try clear hb2); (try clear hk); (try clear hi)) | (go_at_call 89; (with_reducible refine (impl_FindLive.calls k1 _ _ l0 t308 x49_1 true _ ?side1 ?side2 A39.out).mono ?_); (case side1 => exact pc (Kd.C_below HR0.out HB.out)); (case side2 => exact HC0.out); rintro e w47 ⟨rfl, hb⟩; replace HO_13 := am (Kd.R_below (pr HO_13.out) hb); replace BK301 := am (blk_below (pb BK301.out) hb); replace BK318 := am (blk_below (pb BK318.out) hb); replace HB := am (below_step (bg2 HB.out GE301.out GE318.out) hb); (try clear hb); (try clear hb2); (try clear hk); (try clear hi); have hcz48_0 : w47.cell? ⟨gb318, 0, none⟩ = some (.int .i64 ((rd_T71 ((rd_T65 l0 t308).f0) x49_1).f0)) := (blk_cell BK318.out 0).trans rfl; have hcz48_1 : w47.cell? ⟨gb318, 1, none⟩ = some (.int .i64 ((rd_T71 ((rd_T65 l0 t308).f0) x49_1).f1.f0)) := (blk_cell BK318.out 1).trans rfl; have hcz48_2 : w47.cell? ⟨gb318, 2, none⟩ = some (.int .i64 ((rd_T71 ((rd_T65 l0 t308).f0) x49_1).f1.f1)) := (blk_cell BK318.out 2).trans rfl; have hcz48_3 : w47.cell? ⟨gb318, 3, none⟩ = some (.int .i64 ((rd_T71 ((rd_T65 l0 t308).f0) x49_1).f1.f2)) := (blk_cell BK318.out 3).trans rfl; have hcz48_4 : w47.cell? ⟨gb318, 4, none⟩ = some (.int .i64 ((rd_T71 ((rd_T65 l0 t308).f0) x49_1).f1.f3)) := (blk_cell BK318.out 4).trans rfl; obtain ⟨hfz48_0, hfz48_1, hfz48_2, hfz48_3, hfz48_4⟩ := f5 BK318.out) | (refine gl 66 Try.func68 #[.agg #[.int .i64 ((rd_T71 ((rd_T65 l0 t308).f0) x49_1).f1.f0), .int .i64 ((rd_T71 ((rd_T65 l0 t308).f0) x49_1).f1.f1), .int .i64 ((rd_T71 ((rd_T65 l0 t308).f0) x49_1).f1.f2), .int .i64 ((rd_T71 ((rd_T65 l0 t308).f0) x49_1).f1.f3)]] rfl ?_; (with_reducible refine (impl_diskStep.calls ((rd_T71 ((rd_T65 l0 t308).f0) x49_1).f1.f0) ((rd_T71 ((rd_T65 l0 t308).f0) x49_1).f1.f1) ((rd_T71 ((rd_T65 l0 t308).f0) x49_1).f1.f2) ((rd_T71 ((rd_T65 l0 t308).f0) x49_1).f1.f3) t321 t322 t323 t324 t325 t326 t327 t328 _ A41.out).mono ?_); rintro e w49 ⟨rfl, hb⟩; refine ⟨_, rfl, ?_⟩; replace HO_13 := am (Kd.R_below (pr HO_13.out) hb); replace BK301 := am (blk_below (pb BK301.out) hb); replace BK318 := am (blk_below (pb BK318.out) hb); replace HB := am (below_step (bg2 HB.out GE301.out GE318.out) hb); (try clear hb); (try clear hb2); (try clear hk); (try clear hi)) | ((with_reducible refine gate_builtin (b := .append) (xs := #[.tmp 63, .tmp 67]) rfl ?_); at_builtin; refine Kd.R_append k85 (w0 := w) w.heap.size rfl (.tmp 63) (.tmp 67) 48 85 (.agg #[(.int .i64 0), (.int .i64 0), (.int .i64 0), (.int .i64 0), (.int .i64 0), (.int .i64 0), (.int .i64 0), (.int .i64 0)]) 64 rfl Try.underlying48 info85 rfl (by decide) (by omega) u13 x13_1 (⟨t321, t322, t323, t324, (⟨t325, t326, t327, t328⟩ : S30)⟩ : S85) [.int .i64 t321, .int .i64 t322, .int .i64 t323, .int .i64 t324, .int .i64 t325, .int .i64 t326, .int .i64 t327, .int .i64 t328] (fun _ => True) (fun _ => False) rfl rfl ?aP (fun _ hk => hk.elim) ?aF ?aO ?aB ?aS ?aL ?_; (case aP => exact k85_mkM _ _ _ (⟨t321, t322, t323, t324, (⟨t325, t326, t327, t328⟩ : S30)⟩ : S85)); (case aB => exact (bg2 HB.out GE301.out GE318.out)); (case aF => exact (fun _ _ => trivial)); (case aO => exact (pr HO_13.out)); (case aS => exact (below_size (bg2 HB.out GE301.out GE318.out))); (case aL => have := LMc42.out; omega); intro v330 w50 ho hb hg hat; rw [← Ny329.out] at ho; replace BK301 := am (blk_grown (g := gb301) (o := .cells #[.int .i64 a1, .int .i64 t300, .int .i64 a2, .int .i64 a3] 30 (0, 0)) (pb BK301.out) hg (Kd.R_ne HO_13.out BK301.out (by decide))); replace BK318 := am (blk_grown (g := gb318) (o := .cells #[.int .i64 ((rd_T71 ((rd_T65 l0 t308).f0) x49_1).f0), .int .i64 ((rd_T71 ((rd_T65 l0 t308).f0) x49_1).f1.f0), .int .i64 ((rd_T71 ((rd_T65 l0 t308).f0) x49_1).f1.f1), .int .i64 ((rd_T71 ((rd_T65 l0 t308).f0) x49_1).f1.f2), .int .i64 ((rd_T71 ((rd_T65 l0 t308).f0) x49_1).f1.f3)] 71 (0, 0)) (pb BK318.out) hg (Kd.R_ne HO_13.out BK318.out (by decide))); replace HB := am (hb); have HO331 := am (ho); clear HO_13; clear ho hb hg hat))
   go_roundg k1
   case measure => have := HK1.out; omega
   case rel => exact ⟨(y329), (wrap64 (x49_1 + 1)), rf, H', ⟨by have := HK1.out; omega⟩, ⟨pr HO331.out⟩, ⟨pb BK301.out⟩, ⟨bg2 HB.out GE301.out GE318.out⟩⟩
def impl_StepsPut.f (k : Nat) (l0_0 : List (S65)) (l0_1 : List Int) (a1 : Int) (a2 : Int) : Option ((List (S85))) := (impl_StoreOk.f l0_0 l0_1).bind fun t333 => (if t333 = true then ((impl_stepsWrite.f k l0_0 1 a1 a2).bind fun t334 => (some t334)) else (some ([] : List (S85))))
theorem impl_StepsPut.mono : ∀ a0 a1 a2 a3 k, LeO (impl_StepsPut.f k a0 a1 a2 a3) (impl_StepsPut.f (k + 1) a0 a1 a2 a3) := by
 intro a0 a1 a2 a3 k
 unfold impl_StepsPut.f
 repeat' first
  | (with_reducible exact impl_stepsWrite.mono _ _ _ _ _)
  | (with_reducible exact LeO.refl _)
  | (with_reducible exact LeO.none _)
  | (with_reducible refine LeO.ite ?_ ?_)
  | (with_reducible refine LeO.bind ?_ (fun _ => ?_))
  | exact impl_stepsWrite.mono _ _ _ _ _
  | exact LeO.none _
  | refine LeO.ite ?_ ?_
  | refine LeO.bind ?_ (fun _ => ?_)
set_option maxHeartbeats 8000000 in
set_option maxRecDepth 100000 in
theorem impl_StepsPut.calls (k : Nat) (A0_0 : Option Addr) (c0_0 : Nat) (l0_0 : List (S65)) (A0_1 : Option Addr) (c0_1 : Nat) (l0_1 : List Int) (a1 : Int) (a2 : Int) (r : List (S85)) (w : World) (hr0_0 : Kd.C k65 w A0_0 l0_0.length l0_0) (hc0_0 : l0_0.length ≤ c0_0) (hr0_1 : Kd.C (Kd.int .i64) w A0_1 l0_1.length l0_1) (hc0_1 : l0_1.length ≤ c0_1) (h : impl_StepsPut.f k l0_0 l0_1 a1 a2 = some r) :
 Calls Try.prog 29 #[.agg #[.slice A0_0 l0_0.length c0_0, .slice A0_1 l0_1.length c0_1], .int .i64 a1, .int .i64 a2] w fun e w' => ∃ v0_ : Value, e = .returned (v0_) ∧ Kd.R k85 85 w' w.heap.size (fun _ => True) v0_ r ∧ Below w.heap.size w w' := by
 have hu41 := Try.underlying41
 have HR0_0 := am hr0_0
 have HC0_0 := am hc0_0
 clear hr0_0 hc0_0
 have HR0_1 := am hr0_1
 have HC0_1 := am hc0_1
 clear hr0_1 hc0_1
 have HB := am (Below.refl w.heap.size w)
 have H : ((impl_StoreOk.f l0_0 l0_1).bind fun t333 => (if t333 = true then ((impl_stepsWrite.f k l0_0 1 a1 a2).bind fun t334 => (some t334)) else (some ([] : List (S85))))) = some r := h
 clear h
 replace H := Option.bind_eq_some_iff.mp H
 obtain ⟨t333, A40, H⟩ := H
 replace H : (if t333 = true then ((impl_stepsWrite.f k l0_0 1 a1 a2).bind fun t334 => (some t334)) else (some ([] : List (S85)))) = some r := H
 have A4 := am A40
 clear A40
 by_cases c5 : t333 = true
 rotate_left
 · replace c5 := Bool.eq_false_iff.mpr c5
   subst c5
   have H1 : (some ([] : List (S85))) = some r := by rw [if_neg (show ¬ (false = true) by decide)] at H; exact H
   clear H
   have H := H1
   clear H1
   obtain rfl := Option.some.inj H
   go_enter Try.func29, Try.ntmps29
   go_wp2_with (first | (refine bx 3 #[.slice A0_0 l0_0.length c0_0, .slice A0_1 l0_1.length c0_1] 41 rfl ?_; intro gb332 hg w12 hbox hb; have BK332 := am (hbox); have GW332 := am ((by rw [hg]; exact (below_size (ph HB.out)) : w.heap.size ≤ gb332)); have GE332 := GW332; replace HB := am (below_step (ph HB.out) hb); clear hb hbox hg; obtain ⟨hcz13_0, hcz13_1⟩ := b2 BK332.out; obtain ⟨hfz13_0, hfz13_1⟩ := f2 BK332.out) | (refine gl 8 Try.func57 #[.agg #[.slice A0_0 l0_0.length c0_0, .slice A0_1 l0_1.length c0_1]] rfl ?_; (with_reducible refine (impl_StoreOk.calls _ _ l0_0 _ _ l0_1 false _ ?side1 ?side2 ?side3 ?side4 A4.out).mono ?_); (case side1 => exact pc (Kd.C_below HR0_0.out HB.out)); (case side2 => exact HC0_0.out); (case side3 => exact pc (Kd.C_below HR0_1.out HB.out)); (case side4 => exact HC0_1.out); rintro e w14 ⟨rfl, hb⟩; refine ⟨_, rfl, ?_⟩; replace BK332 := am (blk_below (pb BK332.out) hb); replace HB := am (below_step (bg1 HB.out GE332.out) hb); (try clear hb); (try clear hb2); (try clear hk); (try clear hi)))
   go_ret
   exact ⟨_, rq ⟨by first | exact Kd.R_nil _ _ _ _ _ | exact Kd.N_nil _ _ _ _ _ | exact Kd.V_nil _ _ _ _ _ | exact Kd.Q_nil _ _ _ _ _ | exact Kd.S_nil _ _ _ _ _, bg1 HB.out GE332.out⟩⟩
 subst c5
 have H1 : ((impl_stepsWrite.f k l0_0 1 a1 a2).bind fun t334 => (some t334)) = some r := by rw [if_pos rfl] at H; exact H
 clear H
 have H := H1
 clear H1
 replace H := Option.bind_eq_some_iff.mp H
 obtain ⟨t334, A60, H⟩ := H
 replace H : (some t334) = some r := H
 have A6 := am A60
 clear A60
 obtain rfl := Option.some.inj H
 go_enter Try.func29, Try.ntmps29
 go_wp2_with (first | (refine bx 3 #[.slice A0_0 l0_0.length c0_0, .slice A0_1 l0_1.length c0_1] 41 rfl ?_; intro gb332 hg w7 hbox hb; have BK332 := am (hbox); have GW332 := am ((by rw [hg]; exact (below_size (ph HB.out)) : w.heap.size ≤ gb332)); have GE332 := GW332; replace HB := am (below_step (ph HB.out) hb); clear hb hbox hg; obtain ⟨hcz8_0, hcz8_1⟩ := b2 BK332.out; obtain ⟨hfz8_0, hfz8_1⟩ := f2 BK332.out) | (refine gl 8 Try.func57 #[.agg #[.slice A0_0 l0_0.length c0_0, .slice A0_1 l0_1.length c0_1]] rfl ?_; (with_reducible refine (impl_StoreOk.calls _ _ l0_0 _ _ l0_1 true _ ?side1 ?side2 ?side3 ?side4 A4.out).mono ?_); (case side1 => exact pc (Kd.C_below HR0_0.out HB.out)); (case side2 => exact HC0_0.out); (case side3 => exact pc (Kd.C_below HR0_1.out HB.out)); (case side4 => exact HC0_1.out); rintro e w9 ⟨rfl, hb⟩; refine ⟨_, rfl, ?_⟩; replace BK332 := am (blk_below (pb BK332.out) hb); replace HB := am (below_step (bg1 HB.out GE332.out) hb); (try clear hb); (try clear hb2); (try clear hk); (try clear hi); obtain ⟨hcz10_0, hcz10_1⟩ := b2 BK332.out; obtain ⟨hfz10_0, hfz10_1⟩ := f2 BK332.out) | (refine gl 14 Try.func62 #[.slice A0_0 l0_0.length c0_0, .int .i64 1, .int .i64 a1, .int .i64 a2] rfl ?_; (with_reducible refine (impl_stepsWrite.calls k _ _ l0_0 1 a1 a2 t334 _ ?side1 ?side2 A6.out).mono ?_); (case side1 => exact pc (Kd.C_below HR0_0.out HB.out)); (case side2 => exact HC0_0.out); rintro e w11 ⟨v335, rfl, ho0, hb⟩; refine ⟨_, rfl, ?_⟩; have HO336 := am (Kd.R_lower ho0 (below_size (bg1 HB.out GE332.out))); replace BK332 := am (blk_below (pb BK332.out) hb); replace HB := am (below_step (bg1 HB.out GE332.out) hb); (try clear hb); (try clear hb2); (try clear hk); (try clear hi); (try clear ho0)))
 go_ret
 exact ⟨_, rq ⟨pr HO336.out, bg1 HB.out GE332.out⟩⟩
end Go.Proofs.Ytoedphbikgoapaa.Rc
