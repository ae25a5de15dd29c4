-- printed by wip/pp/pp.py
import Derived.Test.YtenmnclkbleglaaP20
import Derived.Test.YtenmnclkbleglaaP22
import Derived.Test.YtenmnclkbleglaaP26
import Derived.Test.YtenmnclkbleglaaP211
import Derived.Test.YtenmnclkbleglaaP213
import Derived.Test.YtenmnclkbleglaaP214
namespace Go.Proofs.Ytenmnclkbleglaa.P2
set_option maxHeartbeats 8000000
set_option maxRecDepth 100000
open Go.RowKit Go.Proofs.YtenmnclkbleglaaW.PrintWords Go.Proofs.YtenmnclkbleglaaW.PrintLast Go.Proofs.YtenmnclkbleglaaW.PrintMore
attribute [local go_sem] max2_int min2_int max_two min_two max_three min_three max_four min_four
set_option linter.unusedVariables false
set_option linter.unusedSimpArgs false
def impl_stepsWrite.l0 : Nat → List (S42) → Int → List (S34) → List (S39) → Int → Int → Int → Int → Int → Int → Option ((List (S34)))
 | 0, _, _, _, _, _, _, _, _, _, _ => none
 | k + 1, x0, x12, x13, x47, x48, x49, x412000, x412001, x412002, x412003 => if x49 < x48 then (if 0 ≤ x49 then (if x49 < (x47.length : Int) then ((impl_Rec_isDirty.f ((rd_T39 x47 x49).f1.f0) ((rd_T39 x47 x49).f1.f1) ((rd_T39 x47 x49).f1.f2) ((rd_T39 x47 x49).f1.f3)).bind fun t429 => (if t429 = true then ((impl_FindLive.f k x0 x12 x49).bind fun t430 => (if t430 = true then ((impl_diskStep.f ((rd_T39 x47 x49).f1.f0) ((rd_T39 x47 x49).f1.f1) ((rd_T39 x47 x49).f1.f2) ((rd_T39 x47 x49).f1.f3)).bind fun bt431 => (if x13.length < 2199023255552 then (impl_stepsWrite.l0 k x0 x12 (x13 ++ [(⟨bt431.1, bt431.2.1, bt431.2.2.1, bt431.2.2.2.1, (⟨bt431.2.2.2.2.1, bt431.2.2.2.2.2.1, bt431.2.2.2.2.2.2.1, bt431.2.2.2.2.2.2.2⟩ : S32)⟩ : S34)]) x47 x48 (wrap64 (x49 + 1)) x412000 x412001 x412002 x412003) else (none))) else (impl_stepsWrite.l0 k x0 x12 x13 x47 x48 (wrap64 (x49 + 1)) x412000 x412001 x412002 x412003))) else (impl_stepsWrite.l0 k x0 x12 x13 x47 x48 (wrap64 (x49 + 1)) x412000 x412001 x412002 x412003))) else (none)) else (none)) else (if x13.length < 2199023255552 then ((some (x13 ++ [(⟨2, 0, 0, x12, (⟨0, 0, 0, 0⟩ : S32)⟩ : S34)] : List (S34))).bind fun y421 => (if y421.length < 2199023255552 then (some (y421 ++ [(⟨3, 0, 0, x12, (⟨x412000, x412001, x412002, x412003⟩ : S32)⟩ : S34)])) else (none))) else (none))
def impl_stepsWrite.f (k : Nat) (l0 : List (S42)) (a1 : Int) (a2 : Int) (a3 : Int) : Option ((List (S34))) := (impl_FindNext.f l0).bind fun t410 => ((impl_RecOk.f a1 t410 a2 a3).bind fun t412 => (if t412 = true then ((impl_FindOpen.f k l0).bind fun bt413 => (if bt413.2 = true then (some (([(⟨3, 0, 0, bt413.1, (⟨a1, t410, a2, a3⟩ : S32)⟩ : S34)] : List (S34)))) else ((impl_FindOld.f l0).bind fun t418 => (if 0 ≤ t418 then (if t418 < (l0.length : Int) then (if ((rd_T42 l0 t418).f1) = 200 then (some ([] : List (S34))) else (impl_stepsWrite.l0 k l0 t418 ([] : List (S34)) ((rd_T42 l0 t418).f0) (((rd_T42 l0 t418).f0).length : Int) 0 a1 t410 a2 a3)) else (none)) else (none))))) else (some ([] : List (S34)))))
theorem impl_stepsWrite.calls (k : Nat) (A0 : Option Addr) (c0 : Nat) (l0 : List (S42)) (a1 : Int) (a2 : Int) (a3 : Int) (r : List (S34)) (w : World) (hr0 : Kd.C k42 w A0 l0.length l0) (hc0 : l0.length ≤ c0) (h : impl_stepsWrite.f k l0 a1 a2 a3 = some r) :
 Calls Try.prog 15 #[.slice A0 l0.length c0, .int .i64 a1, .int .i64 a2, .int .i64 a3] w fun e w' => ∃ v0_ : Value, e = .returned (v0_) ∧ Kd.R k34 34 w' w.heap.size (fun _ => True) v0_ r ∧ Below w.heap.size w w' := by
 have hu32 := Try.underlying32
 have hu34 := Try.underlying34
 have hu39 := Try.underlying39
 have HR0 := am hr0
 have HC0 := am hc0
 clear hr0 hc0
 have HB := am (Below.refl w.heap.size w)
 have H : ((impl_FindNext.f l0).bind fun t410 => ((impl_RecOk.f a1 t410 a2 a3).bind fun t412 => (if t412 = true then ((impl_FindOpen.f k l0).bind fun bt413 => (if bt413.2 = true then (some (([(⟨3, 0, 0, bt413.1, (⟨a1, t410, a2, a3⟩ : S32)⟩ : S34)] : List (S34)))) else ((impl_FindOld.f l0).bind fun t418 => (if 0 ≤ t418 then (if t418 < (l0.length : Int) then (if ((rd_T42 l0 t418).f1) = 200 then (some ([] : List (S34))) else (impl_stepsWrite.l0 k l0 t418 ([] : List (S34)) ((rd_T42 l0 t418).f0) (((rd_T42 l0 t418).f0).length : Int) 0 a1 t410 a2 a3)) else (none)) else (none))))) else (some ([] : List (S34)))))) = some r := h
 clear h
 replace H := Option.bind_eq_some_iff.mp H
 obtain ⟨t410, A50, H⟩ := H
 have A5 := am A50
 clear A50
 replace H := Option.bind_eq_some_iff.mp H
 obtain ⟨t412, A60, H⟩ := H
 have A6 := am A60
 clear A60
 by_cases c7 : t412 = true
 rotate_left
 · replace c7 := Bool.eq_false_iff.mpr c7
   subst c7
   rw [if_neg (show ¬ (false = true) by decide)] at H
   obtain rfl := Option.some.inj H
   go_enter Try.func15, Try.ntmps15
   go_wp2_with (first | (refine gl 18 Try.func8 #[.slice A0 l0.length c0] rfl ?_; (with_reducible refine (impl_FindNext.calls _ _ l0 t410 _ ?side1 ?side2 A5.out).mono ?_); (case side1 => exact pc HR0.out); (case side2 => exact HC0.out); rintro e w65 ⟨rfl, hb⟩; refine ⟨_, rfl, ?_⟩; replace HB := am (below_step (ph HB.out) hb); clear hb) | (refine bx 9 #[.int .i64 0, .int .i64 0, .int .i64 0, .int .i64 0] 32 rfl ?_; intro gb411 hg w66 hbox hb; have BK411 := am (hbox); have GW411 := am (ge hg (ph HB.out)); have GE411 := GW411; replace HB := am (below_step (ph HB.out) hb); clear hb hbox hg; obtain ⟨hcz67_0, hcz67_1, hcz67_2, hcz67_3⟩ := b4 BK411.out; obtain ⟨hfz67_0, hfz67_1, hfz67_2, hfz67_3⟩ := f4 BK411.out) | (refine gl 23 Try.func32 #[.agg #[.int .i64 a1, .int .i64 t410, .int .i64 a2, .int .i64 a3]] rfl ?_; (with_reducible refine (impl_RecOk.calls a1 t410 a2 a3 false _ A6.out).mono ?_); rintro e w68 ⟨rfl, hb⟩; refine ⟨_, rfl, ?_⟩; replace BK411 := am (blk_below (bp4 (pb BK411.out)) hb); replace HB := am (below_step (bg1 HB.out GE411.out) hb); clear hb))
   go_ret
   exact ⟨_, rq ⟨by first | exact Kd.R_nil _ _ _ _ _ | exact Kd.N_nil _ _ _ _ _ | exact Kd.V_nil _ _ _ _ _ | exact Kd.Q_nil _ _ _ _ _ | exact Kd.S_nil _ _ _ _ _, bg1 HB.out GE411.out⟩⟩
 subst c7
 rw [if_pos rfl] at H
 replace H := Option.bind_eq_some_iff.mp H
 obtain ⟨⟨t413, t414⟩, A80, H⟩ := H
 have A8 := am A80
 clear A80
 by_cases c9 : t414 = true
 · subst c9
   rw [if_pos rfl] at H
   obtain ⟨y415, hy415⟩ : ∃ y_ : List (S34), y_ = (([(⟨3, 0, 0, t413, (⟨a1, t410, a2, a3⟩ : S32)⟩ : S34)] : List (S34))) := ⟨_, rfl⟩
   replace H : (some y415) = some r := yy hy415 H
   have Ny415 := am hy415
   clear hy415
   obtain rfl := Option.some.inj H
   go_enter Try.func15, Try.ntmps15
   go_wp2_with (first | (refine gl 18 Try.func8 #[.slice A0 l0.length c0] rfl ?_; (with_reducible refine (impl_FindNext.calls _ _ l0 t410 _ ?side1 ?side2 A5.out).mono ?_); (case side1 => exact pc HR0.out); (case side2 => exact HC0.out); rintro e w10 ⟨rfl, hb⟩; refine ⟨_, rfl, ?_⟩; replace HB := am (below_step (ph HB.out) hb); clear hb) | (refine bx 9 #[.int .i64 0, .int .i64 0, .int .i64 0, .int .i64 0] 32 rfl ?_; intro gb411 hg w11 hbox hb; have BK411 := am (hbox); have GW411 := am (ge hg (ph HB.out)); have GE411 := GW411; replace HB := am (below_step (ph HB.out) hb); clear hb hbox hg; obtain ⟨hcz12_0, hcz12_1, hcz12_2, hcz12_3⟩ := b4 BK411.out; obtain ⟨hfz12_0, hfz12_1, hfz12_2, hfz12_3⟩ := f4 BK411.out) | (refine gl 23 Try.func32 #[.agg #[.int .i64 a1, .int .i64 t410, .int .i64 a2, .int .i64 a3]] rfl ?_; (with_reducible refine (impl_RecOk.calls a1 t410 a2 a3 true _ A6.out).mono ?_); rintro e w13 ⟨rfl, hb⟩; refine ⟨_, rfl, ?_⟩; replace BK411 := am (blk_below (bp4 (pb BK411.out)) hb); replace HB := am (below_step (bg1 HB.out GE411.out) hb); clear hb) | (refine gl 27 Try.func7 #[.slice A0 l0.length c0] rfl ?_; (with_reducible refine (impl_FindOpen.calls k _ _ l0 t413 true _ ?side1 ?side2 A8.out).mono ?_); (case side1 => exact pc (Kd.C_below HR0.out HB.out)); (case side2 => exact HC0.out); rintro e w14 ⟨rfl, hb⟩; refine ⟨_, rfl, ?_⟩; replace BK411 := am (blk_below (pb BK411.out) hb); replace HB := am (below_step (bg1 HB.out GE411.out) hb); clear hb; obtain ⟨hcz15_0, hcz15_1, hcz15_2, hcz15_3⟩ := b4 BK411.out; obtain ⟨hfz15_0, hfz15_1, hfz15_2, hfz15_3⟩ := f4 BK411.out) | ((with_reducible refine gate_dst (N := 34) rfl ?_); refine Kd.R_lit k34 _ 34 ?hg (N := 34) ?hd (xs := ([(⟨3, 0, 0, t413, (⟨a1, t410, a2, a3⟩ : S32)⟩ : S34)] : List (S34))) (inner := [.int .i64 3, .int .i64 0, .int .i64 0, .int .i64 t413, .int .i64 a1, .int .i64 t410, .int .i64 a2, .int .i64 a3]) (ok := fun _ => True) (okp := fun _ => True) ?hr ?hp (fun _ hk => hk) trivial (Below.refl _ _) (Nat.le_refl _) (by simp) ?_; (case hd => rfl); (case hg => rfl); (case hr => first | (go_simp; done) | (go_simp; rfl)); (case hp => exact (Reps.c8 (show Kd.M k34 _ _ _ (⟨3, 0, 0, t413, (⟨a1, t410, a2, a3⟩ : S32)⟩ : S34) [.int .i64 3, .int .i64 0, .int .i64 0, .int .i64 t413, .int .i64 a1, .int .i64 t410, .int .i64 a2, .int .i64 a3] from (k34_mkM _ _ _ (⟨3, 0, 0, t413, (⟨a1, t410, a2, a3⟩ : S32)⟩ : S34) )) (Reps.none _ _))); intro v416 w16 ho17 hb hg_ hnew_; clear hg_ hnew_; (first | rw [← Ny415.out] at ho17 | (simp only [Int.reduceToNat] at ho17; rw [← Ny415.out] at ho17)); have HO417 := am (Kd.R_lower ho17 (below_size (bg1 HB.out GE411.out))); replace BK411 := am (blk_below (pb BK411.out) hb); replace HB := am (below_step (bg1 HB.out GE411.out) hb); clear hb ho17))
   go_ret
   exact ⟨_, rq ⟨pr HO417.out, bg1 HB.out GE411.out⟩⟩
 replace c9 := Bool.eq_false_iff.mpr c9
 subst c9
 rw [if_neg (show ¬ (false = true) by decide)] at H
 replace H := Option.bind_eq_some_iff.mp H
 obtain ⟨t418, A180, H⟩ := H
 have A18 := am A180
 clear A180
 obtain ⟨c19b0, H⟩ := ifd H
 obtain ⟨c20b0, H⟩ := ifd H
 by_cases c21 : ((rd_T42 l0 t418).f1) = 200
 · rw [if_pos c21] at H
   have c21b0 : (((rd_T42 l0 t418).f1) == 200) = true := beq_iff_eq.mpr c21
   have c21b1 : (((rd_T42 l0 t418).f1) != 200) = false := bne_eq_false_iff_eq.mpr c21
   clear c21
   obtain rfl := Option.some.inj H
   go_enter Try.func15, Try.ntmps15
   go_wp2_with (first | (refine gl 18 Try.func8 #[.slice A0 l0.length c0] rfl ?_; (with_reducible refine (impl_FindNext.calls _ _ l0 t410 _ ?side1 ?side2 A5.out).mono ?_); (case side1 => exact pc HR0.out); (case side2 => exact HC0.out); rintro e w22 ⟨rfl, hb⟩; refine ⟨_, rfl, ?_⟩; replace HB := am (below_step (ph HB.out) hb); clear hb) | (refine bx 9 #[.int .i64 0, .int .i64 0, .int .i64 0, .int .i64 0] 32 rfl ?_; intro gb411 hg w23 hbox hb; have BK411 := am (hbox); have GW411 := am (ge hg (ph HB.out)); have GE411 := GW411; replace HB := am (below_step (ph HB.out) hb); clear hb hbox hg; obtain ⟨hcz24_0, hcz24_1, hcz24_2, hcz24_3⟩ := b4 BK411.out; obtain ⟨hfz24_0, hfz24_1, hfz24_2, hfz24_3⟩ := f4 BK411.out) | (refine gl 23 Try.func32 #[.agg #[.int .i64 a1, .int .i64 t410, .int .i64 a2, .int .i64 a3]] rfl ?_; (with_reducible refine (impl_RecOk.calls a1 t410 a2 a3 true _ A6.out).mono ?_); rintro e w25 ⟨rfl, hb⟩; refine ⟨_, rfl, ?_⟩; replace BK411 := am (blk_below (bp4 (pb BK411.out)) hb); replace HB := am (below_step (bg1 HB.out GE411.out) hb); clear hb) | (refine gl 27 Try.func7 #[.slice A0 l0.length c0] rfl ?_; (with_reducible refine (impl_FindOpen.calls k _ _ l0 t413 false _ ?side1 ?side2 A8.out).mono ?_); (case side1 => exact pc (Kd.C_below HR0.out HB.out)); (case side2 => exact HC0.out); rintro e w26 ⟨rfl, hb⟩; refine ⟨_, rfl, ?_⟩; replace BK411 := am (blk_below (pb BK411.out) hb); replace HB := am (below_step (bg1 HB.out GE411.out) hb); clear hb) | (refine gl 36 Try.func9 #[.slice A0 l0.length c0] rfl ?_; (with_reducible refine (impl_FindOld.calls _ _ l0 t418 _ ?side1 ?side2 A18.out).mono ?_); (case side1 => exact pc (Kd.C_below HR0.out HB.out)); (case side2 => exact HC0.out); rintro e w27 ⟨rfl, hb⟩; refine ⟨_, rfl, ?_⟩; replace BK411 := am (blk_below (pb BK411.out) hb); replace HB := am (below_step (bg1 HB.out GE411.out) hb); clear hb; have p419 : 0 ≤ (t418 : Int) := ofb; have q419 : t418 < (l0.length : Int) := ofb; obtain ⟨ad419, A419_0, c419_0, e419, hx419_0, hx419_1, hl419_0, hi419_0⟩ := at_T42 HR0.out t418 p419 q419; cases e419; replace hx419_0 := up HB.out hx419_0; replace hx419_1 := up HB.out hx419_1; have HR419_0 := am hi419_0; have HC419_0 := am hl419_0; clear hi419_0 hl419_0; replace p419 := eq_true p419; replace q419 := eq_true q419))
   go_ret
   exact ⟨_, rq ⟨by first | exact Kd.R_nil _ _ _ _ _ | exact Kd.N_nil _ _ _ _ _ | exact Kd.V_nil _ _ _ _ _ | exact Kd.Q_nil _ _ _ _ _ | exact Kd.S_nil _ _ _ _ _, bg1 HB.out GE411.out⟩⟩
 rw [if_neg c21] at H
 have c21b0 : (((rd_T42 l0 t418).f1) == 200) = false := beq_eq_false_iff_ne.mpr c21
 have c21b1 : (((rd_T42 l0 t418).f1) != 200) = true := bne_iff_ne.mpr c21
 have H' := am H
 clear H
 go_enter Try.func15, Try.ntmps15
 go_wp2_with (first | (refine gl 18 Try.func8 #[.slice A0 l0.length c0] rfl ?_; (with_reducible refine (impl_FindNext.calls _ _ l0 t410 _ ?side1 ?side2 A5.out).mono ?_); (case side1 => exact pc HR0.out); (case side2 => exact HC0.out); rintro e w28 ⟨rfl, hb⟩; refine ⟨_, rfl, ?_⟩; replace HB := am (below_step (ph HB.out) hb); clear hb) | (refine bx 9 #[.int .i64 0, .int .i64 0, .int .i64 0, .int .i64 0] 32 rfl ?_; intro gb411 hg w29 hbox hb; have BK411 := am (hbox); have GW411 := am (ge hg (ph HB.out)); have GE411 := GW411; replace HB := am (below_step (ph HB.out) hb); clear hb hbox hg; obtain ⟨hcz30_0, hcz30_1, hcz30_2, hcz30_3⟩ := b4 BK411.out; obtain ⟨hfz30_0, hfz30_1, hfz30_2, hfz30_3⟩ := f4 BK411.out) | (refine gl 23 Try.func32 #[.agg #[.int .i64 a1, .int .i64 t410, .int .i64 a2, .int .i64 a3]] rfl ?_; (with_reducible refine (impl_RecOk.calls a1 t410 a2 a3 true _ A6.out).mono ?_); rintro e w31 ⟨rfl, hb⟩; refine ⟨_, rfl, ?_⟩; replace BK411 := am (blk_below (bp4 (pb BK411.out)) hb); replace HB := am (below_step (bg1 HB.out GE411.out) hb); clear hb) | (refine gl 27 Try.func7 #[.slice A0 l0.length c0] rfl ?_; (with_reducible refine (impl_FindOpen.calls k _ _ l0 t413 false _ ?side1 ?side2 A8.out).mono ?_); (case side1 => exact pc (Kd.C_below HR0.out HB.out)); (case side2 => exact HC0.out); rintro e w32 ⟨rfl, hb⟩; refine ⟨_, rfl, ?_⟩; replace BK411 := am (blk_below (pb BK411.out) hb); replace HB := am (below_step (bg1 HB.out GE411.out) hb); clear hb) | (refine gl 36 Try.func9 #[.slice A0 l0.length c0] rfl ?_; (with_reducible refine (impl_FindOld.calls _ _ l0 t418 _ ?side1 ?side2 A18.out).mono ?_); (case side1 => exact pc (Kd.C_below HR0.out HB.out)); (case side2 => exact HC0.out); rintro e w33 ⟨rfl, hb⟩; refine ⟨_, rfl, ?_⟩; replace BK411 := am (blk_below (pb BK411.out) hb); replace HB := am (below_step (bg1 HB.out GE411.out) hb); clear hb; have p419 : 0 ≤ (t418 : Int) := ofb; have q419 : t418 < (l0.length : Int) := ofb; obtain ⟨ad419, A419_0, c419_0, e419, hx419_0, hx419_1, hl419_0, hi419_0⟩ := at_T42 HR0.out t418 p419 q419; cases e419; replace hx419_0 := up HB.out hx419_0; replace hx419_1 := up HB.out hx419_1; have HR419_0 := am hi419_0; have HC419_0 := am hl419_0; clear hi419_0 hl419_0; replace p419 := eq_true p419; replace q419 := eq_true q419; have p420 : 0 ≤ (t418 : Int) := ofb; have q420 : t418 < (l0.length : Int) := ofb; obtain ⟨ad420, A420_0, c420_0, e420, hx420_0, hx420_1, hl420_0, hi420_0⟩ := at_T42 HR0.out t418 p420 q420; obtain rfl : ad419 = ad420 := (by injection e420); replace hx420_0 := up HB.out hx420_0; replace hx420_1 := up HB.out hx420_1; have HR420_0 := am hi420_0; have HC420_0 := am hl420_0; clear hi420_0 hl420_0; replace p420 := eq_true p420; replace q420 := eq_true q420; have ea_ := Option.some.inj (hx419_0.symm.trans hx420_0); injection ea_ with ea_ en_ ec_; subst ea_; subst ec_; clear en_))
 go_loopg [13, 49] k (fun kq v13 v49 w' => ∃ (x13_1 : List (S34)) (x49_1 : Int), v49 = .int .i64 x49_1 ∧ Aside0 (impl_stepsWrite.l0 kq l0 t418 x13_1 ((rd_T42 l0 t418).f0) (((rd_T42 l0 t418).f0).length : Int) x49_1 a1 t410 a2 a3 = some r) ∧ Aside0 (kq ≤ k) ∧ Aside0 (Kd.R k34 34 w' w.heap.size (fun _ => True) v13 x13_1) ∧ Aside0 (w'.heap[gb411]? = some (.cells #[.int .i64 a1, .int .i64 t410, .int .i64 a2, .int .i64 a3] 32 (0, 0))) ∧ Aside0 (Below w.heap.size w w'))
 case atStart => exact ⟨(([] : List (S34))), (0), rf, H', ⟨Nat.le_refl _⟩, ⟨by first | exact Kd.R_nil _ _ _ _ _ | exact Kd.N_nil _ _ _ _ _ | exact Kd.V_nil _ _ _ _ _ | exact Kd.Q_nil _ _ _ _ _ | exact Kd.S_nil _ _ _ _ _⟩, ⟨pb BK411.out⟩, ⟨bg1 HB.out GE411.out⟩⟩
 case round =>
  clear H'
  obtain ⟨x13_1, x49_1, rfl, HA, HK1, HO_13, BK411, HB⟩ := hrel
  cases gk with
  | zero => exact absurd HA.out (by simp [impl_stepsWrite.l0])
  | succ k1 =>
   have H := HA.out
   clear HA
   simp only [impl_stepsWrite.l0] at H
   by_cases c34 : x49_1 < (((rd_T42 l0 t418).f0).length : Int)
   rotate_left
   · rw [if_neg c34] at H
     have c34b0 := decide_eq_false c34
     clear c34
     by_cases c60 : x13_1.length < 2199023255552
     rotate_left
     · rw [if_neg c60] at H
       exact absurd H (by simp)
     rw [if_pos c60] at H
     have LMc60 := am c60
     clear c60
     obtain ⟨y421, hy421⟩ : ∃ y_ : List (S34), y_ = (x13_1 ++ [(⟨2, 0, 0, t418, (⟨0, 0, 0, 0⟩ : S32)⟩ : S34)]) := ⟨_, rfl⟩
     replace H : (if y421.length < 2199023255552 then (some (y421 ++ [(⟨3, 0, 0, t418, (⟨a1, t410, a2, a3⟩ : S32)⟩ : S34)])) else (none)) = some r := yy hy421 H
     have Ny421 := am hy421
     clear hy421
     by_cases c61 : y421.length < 2199023255552
     rotate_left
     · rw [if_neg c61] at H
       exact absurd H (by simp)
     rw [if_pos c61] at H
     have LMc61 := am c61
     clear c61
     obtain ⟨y424, hy424⟩ : ∃ y_ : List (S34), y_ = (y421 ++ [(⟨3, 0, 0, t418, (⟨a1, t410, a2, a3⟩ : S32)⟩ : S34)]) := ⟨_, rfl⟩
     replace H : (some y424) = some r := yy hy424 H
     have Ny424 := am hy424
     clear hy424
     obtain rfl := Option.some.inj H
     go_wp2_with (first | ((with_reducible refine gate_builtin (b := .append) (xs := #[.tmp 70, .tmp 73]) rfl ?_); at_builtin; refine Kd.R_append k34 (w0 := w) w.heap.size rfl (.tmp 70) (.tmp 73) 29 34 (.agg #[(.int .i64 0), (.int .i64 0), (.int .i64 0), (.int .i64 0), (.int .i64 0), (.int .i64 0), (.int .i64 0), (.int .i64 0)]) 64 rfl Try.underlying29 info34 rfl (by decide) (by omega) u13 x13_1 (⟨2, 0, 0, t418, (⟨0, 0, 0, 0⟩ : S32)⟩ : S34) [.int .i64 2, .int .i64 0, .int .i64 0, .int .i64 t418, .int .i64 0, .int .i64 0, .int .i64 0, .int .i64 0] (fun _ => True) (fun _ => False) rfl rfl ?aP (fun _ hk => hk.elim) ?aF ?aO ?aB ?aS ?aL ?_; (case aP => exact k34_mkM _ _ _ (⟨2, 0, 0, t418, (⟨0, 0, 0, 0⟩ : S32)⟩ : S34)); (case aB => exact (bg1 HB.out GE411.out)); (case aF => exact (fun _ _ => trivial)); (case aO => exact (pr HO_13.out)); (case aS => exact (below_size (bg1 HB.out GE411.out))); (case aL => have := LMc60.out; omega); intro v422 w62 ho hb hg hat; rw [← Ny421.out] at ho; replace BK411 := am (blk_grown (g := gb411) (o := .cells #[.int .i64 a1, .int .i64 t410, .int .i64 a2, .int .i64 a3] 32 (0, 0)) (pb BK411.out) hg (Kd.R_ne HO_13.out BK411.out (by decide))); replace HB := am (hb); have HO423 := am (ho); clear HO_13; clear ho hb hg hat; obtain ⟨hcz63_0, hcz63_1, hcz63_2, hcz63_3⟩ := b4 BK411.out; obtain ⟨hfz63_0, hfz63_1, hfz63_2, hfz63_3⟩ := f4 BK411.out) | ((with_reducible refine gate_builtin (b := .append) (xs := #[.tmp 75, .tmp 79]) rfl ?_); at_builtin; refine Kd.R_append k34 (w0 := w) w.heap.size rfl (.tmp 75) (.tmp 79) 29 34 (.agg #[(.int .i64 0), (.int .i64 0), (.int .i64 0), (.int .i64 0), (.int .i64 0), (.int .i64 0), (.int .i64 0), (.int .i64 0)]) 64 rfl Try.underlying29 info34 rfl (by decide) (by omega) v422 y421 (⟨3, 0, 0, t418, (⟨a1, t410, a2, a3⟩ : S32)⟩ : S34) [.int .i64 3, .int .i64 0, .int .i64 0, .int .i64 t418, .int .i64 a1, .int .i64 t410, .int .i64 a2, .int .i64 a3] (fun _ => True) (fun _ => False) rfl rfl ?aP (fun _ hk => hk.elim) ?aF ?aO ?aB ?aS ?aL ?_; (case aP => exact k34_mkM _ _ _ (⟨3, 0, 0, t418, (⟨a1, t410, a2, a3⟩ : S32)⟩ : S34)); (case aB => exact (bg1 HB.out GE411.out)); (case aF => exact (fun _ _ => trivial)); (case aO => exact (pr HO423.out)); (case aS => exact (below_size (bg1 HB.out GE411.out))); (case aL => have := LMc61.out; omega); intro v425 w64 ho hb hg hat; rw [← Ny424.out] at ho; replace BK411 := am (blk_grown (g := gb411) (o := .cells #[.int .i64 a1, .int .i64 t410, .int .i64 a2, .int .i64 a3] 32 (0, 0)) (pb BK411.out) hg (Kd.R_ne HO423.out BK411.out (by decide))); replace HB := am (hb); have HO426 := am (ho); clear HO423; clear ho hb hg hat))
     go_ret
     exact ⟨_, rq ⟨pr HO426.out, bg1 HB.out GE411.out⟩⟩
   rw [if_pos c34] at H
   have c34b0 := decide_eq_true c34
   clear c34
   obtain ⟨c35b0, H⟩ := ifd H
   obtain ⟨c36b0, H⟩ := ifd H
   replace H := Option.bind_eq_some_iff.mp H
   obtain ⟨t429, A370, H⟩ := H
   have A37 := am A370
   clear A370
   by_cases c38 : t429 = true
   rotate_left
   · replace c38 := Bool.eq_false_iff.mpr c38
     subst c38
     rw [if_neg (show ¬ (false = true) by decide)] at H
     have H' := am H
     clear H
     have p427 : 0 ≤ (x49_1 : Int) := ofb
     have q427 : x49_1 < (((rd_T42 l0 t418).f0).length : Int) := ofb
     obtain ⟨ad427, e427, hx427_0, hx427_1, hx427_2, hx427_3, hx427_4⟩ := at_T39 HR420_0.out x49_1 p427 q427
     cases e427
     replace hx427_0 := up HB.out hx427_0
     replace hx427_1 := up HB.out hx427_1
     replace hx427_2 := up HB.out hx427_2
     replace hx427_3 := up HB.out hx427_3
     replace hx427_4 := up HB.out hx427_4
     replace p427 := eq_true p427
     replace q427 := eq_true q427
     go_wp2_with (first | (refine bx 15 #[.int .i64 0, .int .i64 0, .int .i64 0, .int .i64 0, .int .i64 0] 39 rfl ?_; intro gb428 hg w56 hbox hb; replace HO_13 := am (Kd.R_below (pr HO_13.out) hb); have BK428 := am (hbox); have GW428 := am (ge hg (bg1 HB.out GE411.out)); have GE428 := GW428; replace HB := am (below_step (bg1 HB.out GE411.out) hb); have NB411_428 := am (nb hg (pb BK411.out)); have NB428_411 := am (Ne.symm NB411_428.out); replace BK411 := am (blk_below (pb BK411.out) hb); clear hb hbox hg; have hnb57 := NB428_411.out; have hnc57 := NB411_428.out; obtain ⟨hcz58_0, hcz58_1, hcz58_2, hcz58_3, hcz58_4⟩ := b5 BK428.out; obtain ⟨hfz58_0, hfz58_1, hfz58_2, hfz58_3, hfz58_4⟩ := f5 BK428.out) | (refine gl 56 Try.func30 #[.agg #[.int .i64 ((rd_T39 ((rd_T42 l0 t418).f0) x49_1).f1.f0), .int .i64 ((rd_T39 ((rd_T42 l0 t418).f0) x49_1).f1.f1), .int .i64 ((rd_T39 ((rd_T42 l0 t418).f0) x49_1).f1.f2), .int .i64 ((rd_T39 ((rd_T42 l0 t418).f0) x49_1).f1.f3)]] rfl ?_; (with_reducible refine (impl_Rec_isDirty.calls ((rd_T39 ((rd_T42 l0 t418).f0) x49_1).f1.f0) ((rd_T39 ((rd_T42 l0 t418).f0) x49_1).f1.f1) ((rd_T39 ((rd_T42 l0 t418).f0) x49_1).f1.f2) ((rd_T39 ((rd_T42 l0 t418).f0) x49_1).f1.f3) false _ A37.out).mono ?_); rintro e w59 ⟨rfl, hb⟩; refine ⟨_, rfl, ?_⟩; replace HO_13 := am (Kd.R_below (pr ((Kd.R_mono (Kd.R_far (p := ⟨gb428, 4, none⟩) (Kd.R_far (p := ⟨gb428, 3, none⟩) (Kd.R_far (p := ⟨gb428, 2, none⟩) (Kd.R_far (p := ⟨gb428, 1, none⟩) (Kd.R_far (p := ⟨gb428, 0, none⟩) (Kd.R_types HO_13.out BK428.out (by decide)) (fun _ hk => hk.2) (.int .i64 ((rd_T39 ((rd_T42 l0 t418).f0) x49_1).f0))) (fun _ hk => hk.2) (.int .i64 ((rd_T39 ((rd_T42 l0 t418).f0) x49_1).f1.f0))) (fun _ hk => hk.2) (.int .i64 ((rd_T39 ((rd_T42 l0 t418).f0) x49_1).f1.f1))) (fun _ hk => hk.2) (.int .i64 ((rd_T39 ((rd_T42 l0 t418).f0) x49_1).f1.f2))) (fun _ hk => hk.2) (.int .i64 ((rd_T39 ((rd_T42 l0 t418).f0) x49_1).f1.f3))) (fun _ h_ => h_.1)))) hb); replace BK411 := am (blk_below (bf5 (pb BK411.out) NB411_428.out) hb); replace BK428 := am (blk_below (bp5 (pb BK428.out)) hb); replace HB := am (below_step (bg2 HB.out GE411.out GE428.out) hb); clear hb))
     go_roundg k1
     case measure => have := HK1.out; omega
     case rel => exact ⟨(x13_1), (wrap64 (x49_1 + 1)), rf, H', ⟨by have := HK1.out; omega⟩, ⟨pr HO_13.out⟩, ⟨pb BK411.out⟩, ⟨bg2 HB.out GE411.out GE428.out⟩⟩
   subst c38
   rw [if_pos rfl] at H
   replace H := Option.bind_eq_some_iff.mp H
   obtain ⟨t430, A390, H⟩ := H
   have A39 := am A390
   clear A390
   by_cases c40 : t430 = true
   rotate_left
   · replace c40 := Bool.eq_false_iff.mpr c40
     subst c40
     rw [if_neg (show ¬ (false = true) by decide)] at H
     have H' := am H
     clear H
     have p427 : 0 ≤ (x49_1 : Int) := ofb
     have q427 : x49_1 < (((rd_T42 l0 t418).f0).length : Int) := ofb
     obtain ⟨ad427, e427, hx427_0, hx427_1, hx427_2, hx427_3, hx427_4⟩ := at_T39 HR420_0.out x49_1 p427 q427
     cases e427
     replace hx427_0 := up HB.out hx427_0
     replace hx427_1 := up HB.out hx427_1
     replace hx427_2 := up HB.out hx427_2
     replace hx427_3 := up HB.out hx427_3
     replace hx427_4 := up HB.out hx427_4
     replace p427 := eq_true p427
     replace q427 := eq_true q427
     go_wp2_with (first | (refine bx 15 #[.int .i64 0, .int .i64 0, .int .i64 0, .int .i64 0, .int .i64 0] 39 rfl ?_; intro gb428 hg w51 hbox hb; replace HO_13 := am (Kd.R_below (pr HO_13.out) hb); have BK428 := am (hbox); have GW428 := am (ge hg (bg1 HB.out GE411.out)); have GE428 := GW428; replace HB := am (below_step (bg1 HB.out GE411.out) hb); have NB411_428 := am (nb hg (pb BK411.out)); have NB428_411 := am (Ne.symm NB411_428.out); replace BK411 := am (blk_below (pb BK411.out) hb); clear hb hbox hg; have hnb52 := NB428_411.out; have hnc52 := NB411_428.out; obtain ⟨hcz53_0, hcz53_1, hcz53_2, hcz53_3, hcz53_4⟩ := b5 BK428.out; obtain ⟨hfz53_0, hfz53_1, hfz53_2, hfz53_3, hfz53_4⟩ := f5 BK428.out) | (refine gl 56 Try.func30 #[.agg #[.int .i64 ((rd_T39 ((rd_T42 l0 t418).f0) x49_1).f1.f0), .int .i64 ((rd_T39 ((rd_T42 l0 t418).f0) x49_1).f1.f1), .int .i64 ((rd_T39 ((rd_T42 l0 t418).f0) x49_1).f1.f2), .int .i64 ((rd_T39 ((rd_T42 l0 t418).f0) x49_1).f1.f3)]] rfl ?_; (with_reducible refine (impl_Rec_isDirty.calls ((rd_T39 ((rd_T42 l0 t418).f0) x49_1).f1.f0) ((rd_T39 ((rd_T42 l0 t418).f0) x49_1).f1.f1) ((rd_T39 ((rd_T42 l0 t418).f0) x49_1).f1.f2) ((rd_T39 ((rd_T42 l0 t418).f0) x49_1).f1.f3) true _ A37.out).mono ?_); rintro e w54 ⟨rfl, hb⟩; refine ⟨_, rfl, ?_⟩; replace HO_13 := am (Kd.R_below (pr ((Kd.R_mono (Kd.R_far (p := ⟨gb428, 4, none⟩) (Kd.R_far (p := ⟨gb428, 3, none⟩) (Kd.R_far (p := ⟨gb428, 2, none⟩) (Kd.R_far (p := ⟨gb428, 1, none⟩) (Kd.R_far (p := ⟨gb428, 0, none⟩) (Kd.R_types HO_13.out BK428.out (by decide)) (fun _ hk => hk.2) (.int .i64 ((rd_T39 ((rd_T42 l0 t418).f0) x49_1).f0))) (fun _ hk => hk.2) (.int .i64 ((rd_T39 ((rd_T42 l0 t418).f0) x49_1).f1.f0))) (fun _ hk => hk.2) (.int .i64 ((rd_T39 ((rd_T42 l0 t418).f0) x49_1).f1.f1))) (fun _ hk => hk.2) (.int .i64 ((rd_T39 ((rd_T42 l0 t418).f0) x49_1).f1.f2))) (fun _ hk => hk.2) (.int .i64 ((rd_T39 ((rd_T42 l0 t418).f0) x49_1).f1.f3))) (fun _ h_ => h_.1)))) hb); replace BK411 := am (blk_below (bf5 (pb BK411.out) NB411_428.out) hb); replace BK428 := am (blk_below (bp5 (pb BK428.out)) hb); replace HB := am (below_step (bg2 HB.out GE411.out GE428.out) hb); clear hb) | (go_at_call 10; (with_reducible refine (impl_FindLive.calls k1 _ _ l0 t418 x49_1 false _ ?side1 ?side2 A39.out).mono ?_); (case side1 => exact pc (Kd.C_below HR0.out HB.out)); (case side2 => exact HC0.out); rintro e w55 ⟨rfl, hb⟩; replace HO_13 := am (Kd.R_below (pr HO_13.out) hb); replace BK411 := am (blk_below (pb BK411.out) hb); replace BK428 := am (blk_below (pb BK428.out) hb); replace HB := am (below_step (bg2 HB.out GE411.out GE428.out) hb); clear hb))
     go_roundg k1
     case measure => have := HK1.out; omega
     case rel => exact ⟨(x13_1), (wrap64 (x49_1 + 1)), rf, H', ⟨by have := HK1.out; omega⟩, ⟨pr HO_13.out⟩, ⟨pb BK411.out⟩, ⟨bg2 HB.out GE411.out GE428.out⟩⟩
   subst c40
   rw [if_pos rfl] at H
   replace H := Option.bind_eq_some_iff.mp H
   obtain ⟨⟨t431, t432, t433, t434, t435, t436, t437, t438⟩, A410, H⟩ := H
   have A41 := am A410
   clear A410
   by_cases c42 : x13_1.length < 2199023255552
   rotate_left
   · rw [if_neg c42] at H
     exact absurd H (by simp)
   rw [if_pos c42] at H
   have LMc42 := am c42
   clear c42
   obtain ⟨y439, hy439⟩ : ∃ y_ : List (S34), y_ = (x13_1 ++ [(⟨t431, t432, t433, t434, (⟨t435, t436, t437, t438⟩ : S32)⟩ : S34)]) := ⟨_, rfl⟩
   replace H : (impl_stepsWrite.l0 k1 l0 t418 y439 ((rd_T42 l0 t418).f0) (((rd_T42 l0 t418).f0).length : Int) (wrap64 (x49_1 + 1)) a1 t410 a2 a3) = some r := yy hy439 H
   have Ny439 := am hy439
   clear hy439
   have H' := am H
   clear H
   have p427 : 0 ≤ (x49_1 : Int) := ofb
   have q427 : x49_1 < (((rd_T42 l0 t418).f0).length : Int) := ofb
   obtain ⟨ad427, e427, hx427_0, hx427_1, hx427_2, hx427_3, hx427_4⟩ := at_T39 HR420_0.out x49_1 p427 q427
   cases e427
   replace hx427_0 := up HB.out hx427_0
   replace hx427_1 := up HB.out hx427_1
   replace hx427_2 := up HB.out hx427_2
   replace hx427_3 := up HB.out hx427_3
   replace hx427_4 := up HB.out hx427_4
   replace p427 := eq_true p427
   replace q427 := eq_true q427
   go_wp2_with (first | (refine bx 15 #[.int .i64 0, .int .i64 0, .int .i64 0, .int .i64 0, .int .i64 0] 39 rfl ?_; intro gb428 hg w43 hbox hb; replace HO_13 := am (Kd.R_below (pr HO_13.out) hb); have BK428 := am (hbox); have GW428 := am (ge hg (bg1 HB.out GE411.out)); have GE428 := GW428; replace HB := am (below_step (bg1 HB.out GE411.out) hb); have NB411_428 := am (nb hg (pb BK411.out)); have NB428_411 := am (Ne.symm NB411_428.out); replace BK411 := am (blk_below (pb BK411.out) hb); clear hb hbox hg; have hnb44 := NB428_411.out; have hnc44 := NB411_428.out; obtain ⟨hcz45_0, hcz45_1, hcz45_2, hcz45_3, hcz45_4⟩ := b5 BK428.out; obtain ⟨hfz45_0, hfz45_1, hfz45_2, hfz45_3, hfz45_4⟩ := f5 BK428.out) | (refine gl 56 Try.func30 #[.agg #[.int .i64 ((rd_T39 ((rd_T42 l0 t418).f0) x49_1).f1.f0), .int .i64 ((rd_T39 ((rd_T42 l0 t418).f0) x49_1).f1.f1), .int .i64 ((rd_T39 ((rd_T42 l0 t418).f0) x49_1).f1.f2), .int .i64 ((rd_T39 ((rd_T42 l0 t418).f0) x49_1).f1.f3)]] rfl ?_; (with_reducible refine (impl_Rec_isDirty.calls ((rd_T39 ((rd_T42 l0 t418).f0) x49_1).f1.f0) ((rd_T39 ((rd_T42 l0 t418).f0) x49_1).f1.f1) ((rd_T39 ((rd_T42 l0 t418).f0) x49_1).f1.f2) ((rd_T39 ((rd_T42 l0 t418).f0) x49_1).f1.f3) true _ A37.out).mono ?_); rintro e w46 ⟨rfl, hb⟩; refine ⟨_, rfl, ?_⟩; replace HO_13 := am (Kd.R_below (pr ((Kd.R_mono (Kd.R_far (p := ⟨gb428, 4, none⟩) (Kd.R_far (p := ⟨gb428, 3, none⟩) (Kd.R_far (p := ⟨gb428, 2, none⟩) (Kd.R_far (p := ⟨gb428, 1, none⟩) (Kd.R_far (p := ⟨gb428, 0, none⟩) (Kd.R_types HO_13.out BK428.out (by decide)) (fun _ hk => hk.2) (.int .i64 ((rd_T39 ((rd_T42 l0 t418).f0) x49_1).f0))) (fun _ hk => hk.2) (.int .i64 ((rd_T39 ((rd_T42 l0 t418).f0) x49_1).f1.f0))) (fun _ hk => hk.2) (.int .i64 ((rd_T39 ((rd_T42 l0 t418).f0) x49_1).f1.f1))) (fun _ hk => hk.2) (.int .i64 ((rd_T39 ((rd_T42 l0 t418).f0) x49_1).f1.f2))) (fun _ hk => hk.2) (.int .i64 ((rd_T39 ((rd_T42 l0 t418).f0) x49_1).f1.f3))) (fun _ h_ => h_.1)))) hb); replace BK411 := am (blk_below (bf5 (pb BK411.out) NB411_428.out) hb); replace BK428 := am (blk_below (bp5 (pb BK428.out)) hb); replace HB := am (below_step (bg2 HB.out GE411.out GE428.out) hb); clear hb) | (go_at_call 10; (with_reducible refine (impl_FindLive.calls k1 _ _ l0 t418 x49_1 true _ ?side1 ?side2 A39.out).mono ?_); (case side1 => exact pc (Kd.C_below HR0.out HB.out)); (case side2 => exact HC0.out); rintro e w47 ⟨rfl, hb⟩; replace HO_13 := am (Kd.R_below (pr HO_13.out) hb); replace BK411 := am (blk_below (pb BK411.out) hb); replace BK428 := am (blk_below (pb BK428.out) hb); replace HB := am (below_step (bg2 HB.out GE411.out GE428.out) hb); clear hb; have hcz48_0 : w47.cell? ⟨gb428, 0, none⟩ = some (.int .i64 ((rd_T39 ((rd_T42 l0 t418).f0) x49_1).f0)) := (blk_cell BK428.out 0).trans rfl; have hcz48_1 : w47.cell? ⟨gb428, 1, none⟩ = some (.int .i64 ((rd_T39 ((rd_T42 l0 t418).f0) x49_1).f1.f0)) := (blk_cell BK428.out 1).trans rfl; have hcz48_2 : w47.cell? ⟨gb428, 2, none⟩ = some (.int .i64 ((rd_T39 ((rd_T42 l0 t418).f0) x49_1).f1.f1)) := (blk_cell BK428.out 2).trans rfl; have hcz48_3 : w47.cell? ⟨gb428, 3, none⟩ = some (.int .i64 ((rd_T39 ((rd_T42 l0 t418).f0) x49_1).f1.f2)) := (blk_cell BK428.out 3).trans rfl; have hcz48_4 : w47.cell? ⟨gb428, 4, none⟩ = some (.int .i64 ((rd_T39 ((rd_T42 l0 t418).f0) x49_1).f1.f3)) := (blk_cell BK428.out 4).trans rfl; obtain ⟨hfz48_0, hfz48_1, hfz48_2, hfz48_3, hfz48_4⟩ := f5 BK428.out) | (refine gl 66 Try.func33 #[.agg #[.int .i64 ((rd_T39 ((rd_T42 l0 t418).f0) x49_1).f1.f0), .int .i64 ((rd_T39 ((rd_T42 l0 t418).f0) x49_1).f1.f1), .int .i64 ((rd_T39 ((rd_T42 l0 t418).f0) x49_1).f1.f2), .int .i64 ((rd_T39 ((rd_T42 l0 t418).f0) x49_1).f1.f3)]] rfl ?_; (with_reducible refine (impl_diskStep.calls ((rd_T39 ((rd_T42 l0 t418).f0) x49_1).f1.f0) ((rd_T39 ((rd_T42 l0 t418).f0) x49_1).f1.f1) ((rd_T39 ((rd_T42 l0 t418).f0) x49_1).f1.f2) ((rd_T39 ((rd_T42 l0 t418).f0) x49_1).f1.f3) t431 t432 t433 t434 t435 t436 t437 t438 _ A41.out).mono ?_); rintro e w49 ⟨rfl, hb⟩; refine ⟨_, rfl, ?_⟩; replace HO_13 := am (Kd.R_below (pr HO_13.out) hb); replace BK411 := am (blk_below (pb BK411.out) hb); replace BK428 := am (blk_below (pb BK428.out) hb); replace HB := am (below_step (bg2 HB.out GE411.out GE428.out) hb); clear hb) | ((with_reducible refine gate_builtin (b := .append) (xs := #[.tmp 63, .tmp 67]) rfl ?_); at_builtin; refine Kd.R_append k34 (w0 := w) w.heap.size rfl (.tmp 63) (.tmp 67) 29 34 (.agg #[(.int .i64 0), (.int .i64 0), (.int .i64 0), (.int .i64 0), (.int .i64 0), (.int .i64 0), (.int .i64 0), (.int .i64 0)]) 64 rfl Try.underlying29 info34 rfl (by decide) (by omega) u13 x13_1 (⟨t431, t432, t433, t434, (⟨t435, t436, t437, t438⟩ : S32)⟩ : S34) [.int .i64 t431, .int .i64 t432, .int .i64 t433, .int .i64 t434, .int .i64 t435, .int .i64 t436, .int .i64 t437, .int .i64 t438] (fun _ => True) (fun _ => False) rfl rfl ?aP (fun _ hk => hk.elim) ?aF ?aO ?aB ?aS ?aL ?_; (case aP => exact k34_mkM _ _ _ (⟨t431, t432, t433, t434, (⟨t435, t436, t437, t438⟩ : S32)⟩ : S34)); (case aB => exact (bg2 HB.out GE411.out GE428.out)); (case aF => exact (fun _ _ => trivial)); (case aO => exact (pr HO_13.out)); (case aS => exact (below_size (bg2 HB.out GE411.out GE428.out))); (case aL => have := LMc42.out; omega); intro v440 w50 ho hb hg hat; rw [← Ny439.out] at ho; replace BK411 := am (blk_grown (g := gb411) (o := .cells #[.int .i64 a1, .int .i64 t410, .int .i64 a2, .int .i64 a3] 32 (0, 0)) (pb BK411.out) hg (Kd.R_ne HO_13.out BK411.out (by decide))); replace BK428 := am (blk_grown (g := gb428) (o := .cells #[.int .i64 ((rd_T39 ((rd_T42 l0 t418).f0) x49_1).f0), .int .i64 ((rd_T39 ((rd_T42 l0 t418).f0) x49_1).f1.f0), .int .i64 ((rd_T39 ((rd_T42 l0 t418).f0) x49_1).f1.f1), .int .i64 ((rd_T39 ((rd_T42 l0 t418).f0) x49_1).f1.f2), .int .i64 ((rd_T39 ((rd_T42 l0 t418).f0) x49_1).f1.f3)] 39 (0, 0)) (pb BK428.out) hg (Kd.R_ne HO_13.out BK428.out (by decide))); replace HB := am (hb); have HO441 := am (ho); clear HO_13; clear ho hb hg hat))
   go_roundg k1
   case measure => have := HK1.out; omega
   case rel => exact ⟨(y439), (wrap64 (x49_1 + 1)), rf, H', ⟨by have := HK1.out; omega⟩, ⟨pr HO441.out⟩, ⟨pb BK411.out⟩, ⟨bg2 HB.out GE411.out GE428.out⟩⟩
def impl_StepsPut.f (k : Nat) (l0_0 : List (S42)) (l0_1 : List Int) (a1 : Int) (a2 : Int) : Option ((List (S34))) := (impl_StoreOk.f l0_0 l0_1).bind fun t443 => (if t443 = true then ((impl_stepsWrite.f k l0_0 1 a1 a2).bind fun t444 => (some t444)) else (some ([] : List (S34))))
theorem impl_StepsPut.calls (k : Nat) (A0_0 : Option Addr) (c0_0 : Nat) (l0_0 : List (S42)) (A0_1 : Option Addr) (c0_1 : Nat) (l0_1 : List Int) (a1 : Int) (a2 : Int) (r : List (S34)) (w : World) (hr0_0 : Kd.C k42 w A0_0 l0_0.length l0_0) (hc0_0 : l0_0.length ≤ c0_0) (hr0_1 : Kd.C (Kd.int .i64) w A0_1 l0_1.length l0_1) (hc0_1 : l0_1.length ≤ c0_1) (h : impl_StepsPut.f k l0_0 l0_1 a1 a2 = some r) :
 Calls Try.prog 5 #[.agg #[.slice A0_0 l0_0.length c0_0, .slice A0_1 l0_1.length c0_1], .int .i64 a1, .int .i64 a2] w fun e w' => ∃ v0_ : Value, e = .returned (v0_) ∧ Kd.R k34 34 w' w.heap.size (fun _ => True) v0_ r ∧ Below w.heap.size w w' := by
 have hu26 := Try.underlying26
 have HR0_0 := am hr0_0
 have HC0_0 := am hc0_0
 clear hr0_0 hc0_0
 have HR0_1 := am hr0_1
 have HC0_1 := am hc0_1
 clear hr0_1 hc0_1
 have HB := am (Below.refl w.heap.size w)
 have H : ((impl_StoreOk.f l0_0 l0_1).bind fun t443 => (if t443 = true then ((impl_stepsWrite.f k l0_0 1 a1 a2).bind fun t444 => (some t444)) else (some ([] : List (S34))))) = some r := h
 clear h
 replace H := Option.bind_eq_some_iff.mp H
 obtain ⟨t443, A40, H⟩ := H
 have A4 := am A40
 clear A40
 by_cases c5 : t443 = true
 rotate_left
 · replace c5 := Bool.eq_false_iff.mpr c5
   subst c5
   rw [if_neg (show ¬ (false = true) by decide)] at H
   obtain rfl := Option.some.inj H
   go_enter Try.func5, Try.ntmps5
   go_wp2_with (first | (refine bx 3 #[.slice A0_0 l0_0.length c0_0, .slice A0_1 l0_1.length c0_1] 26 rfl ?_; intro gb442 hg w12 hbox hb; have BK442 := am (hbox); have GW442 := am (ge hg (ph HB.out)); have GE442 := GW442; replace HB := am (below_step (ph HB.out) hb); clear hb hbox hg; obtain ⟨hcz13_0, hcz13_1⟩ := b2 BK442.out; obtain ⟨hfz13_0, hfz13_1⟩ := f2 BK442.out) | (refine gl 8 Try.func14 #[.agg #[.slice A0_0 l0_0.length c0_0, .slice A0_1 l0_1.length c0_1]] rfl ?_; (with_reducible refine (impl_StoreOk.calls _ _ l0_0 _ _ l0_1 false _ ?side1 ?side2 ?side3 ?side4 A4.out).mono ?_); (case side1 => exact pc (Kd.C_below HR0_0.out HB.out)); (case side2 => exact HC0_0.out); (case side3 => exact pc (Kd.C_below HR0_1.out HB.out)); (case side4 => exact HC0_1.out); rintro e w14 ⟨rfl, hb⟩; refine ⟨_, rfl, ?_⟩; replace BK442 := am (blk_below (pb BK442.out) hb); replace HB := am (below_step (bg1 HB.out GE442.out) hb); clear hb))
   go_ret
   exact ⟨_, rq ⟨by first | exact Kd.R_nil _ _ _ _ _ | exact Kd.N_nil _ _ _ _ _ | exact Kd.V_nil _ _ _ _ _ | exact Kd.Q_nil _ _ _ _ _ | exact Kd.S_nil _ _ _ _ _, bg1 HB.out GE442.out⟩⟩
 subst c5
 rw [if_pos rfl] at H
 replace H := Option.bind_eq_some_iff.mp H
 obtain ⟨t444, A60, H⟩ := H
 have A6 := am A60
 clear A60
 obtain rfl := Option.some.inj H
 go_enter Try.func5, Try.ntmps5
 go_wp2_with (first | (refine bx 3 #[.slice A0_0 l0_0.length c0_0, .slice A0_1 l0_1.length c0_1] 26 rfl ?_; intro gb442 hg w7 hbox hb; have BK442 := am (hbox); have GW442 := am (ge hg (ph HB.out)); have GE442 := GW442; replace HB := am (below_step (ph HB.out) hb); clear hb hbox hg; obtain ⟨hcz8_0, hcz8_1⟩ := b2 BK442.out; obtain ⟨hfz8_0, hfz8_1⟩ := f2 BK442.out) | (refine gl 8 Try.func14 #[.agg #[.slice A0_0 l0_0.length c0_0, .slice A0_1 l0_1.length c0_1]] rfl ?_; (with_reducible refine (impl_StoreOk.calls _ _ l0_0 _ _ l0_1 true _ ?side1 ?side2 ?side3 ?side4 A4.out).mono ?_); (case side1 => exact pc (Kd.C_below HR0_0.out HB.out)); (case side2 => exact HC0_0.out); (case side3 => exact pc (Kd.C_below HR0_1.out HB.out)); (case side4 => exact HC0_1.out); rintro e w9 ⟨rfl, hb⟩; refine ⟨_, rfl, ?_⟩; replace BK442 := am (blk_below (pb BK442.out) hb); replace HB := am (below_step (bg1 HB.out GE442.out) hb); clear hb; obtain ⟨hcz10_0, hcz10_1⟩ := b2 BK442.out; obtain ⟨hfz10_0, hfz10_1⟩ := f2 BK442.out) | (refine gl 14 Try.func15 #[.slice A0_0 l0_0.length c0_0, .int .i64 1, .int .i64 a1, .int .i64 a2] rfl ?_; (with_reducible refine (impl_stepsWrite.calls k _ _ l0_0 1 a1 a2 t444 _ ?side1 ?side2 A6.out).mono ?_); (case side1 => exact pc (Kd.C_below HR0_0.out HB.out)); (case side2 => exact HC0_0.out); rintro e w11 ⟨v445, rfl, ho0, hb⟩; refine ⟨_, rfl, ?_⟩; have HO446 := am (Kd.R_lower ho0 (below_size (bg1 HB.out GE442.out))); replace BK442 := am (blk_below (pb BK442.out) hb); replace HB := am (below_step (bg1 HB.out GE442.out) hb); clear hb ho0))
 go_ret
 exact ⟨_, rq ⟨pr HO446.out, bg1 HB.out GE442.out⟩⟩
def spec_StepsPut.f (k : Nat) (l0_0 : List (S42)) (l0_1 : List Int) (a1 : Int) (a2 : Int) : Option ((List (S34))) := (spec_StoreOk.f k l0_0 l0_1).bind fun t448 => (if t448 = true then ((spec_l12Write.f k l0_0 l0_1 1 a1 a2).bind fun t449 => (some t449)) else (some (([] : List (S34)))))
theorem spec_StepsPut.calls (k : Nat) (A0_0 : Option Addr) (c0_0 : Nat) (l0_0 : List (S42)) (A0_1 : Option Addr) (c0_1 : Nat) (l0_1 : List Int) (a1 : Int) (a2 : Int) (r : List (S34)) (w : World) (hr0_0 : Kd.C k42 w A0_0 l0_0.length l0_0) (hc0_0 : l0_0.length ≤ c0_0) (hr0_1 : Kd.C (Kd.int .i64) w A0_1 l0_1.length l0_1) (hc0_1 : l0_1.length ≤ c0_1) (h : spec_StepsPut.f k l0_0 l0_1 a1 a2 = some r) :
 Calls Try.prog 6 #[.agg #[.slice A0_0 l0_0.length c0_0, .slice A0_1 l0_1.length c0_1], .int .i64 a1, .int .i64 a2] w fun e w' => ∃ v0_ : Value, e = .returned (v0_) ∧ Kd.R k34 34 w' w.heap.size (fun _ => True) v0_ r ∧ Below w.heap.size w w' := by
 have hu26 := Try.underlying26
 have HR0_0 := am hr0_0
 have HC0_0 := am hc0_0
 clear hr0_0 hc0_0
 have HR0_1 := am hr0_1
 have HC0_1 := am hc0_1
 clear hr0_1 hc0_1
 have HB := am (Below.refl w.heap.size w)
 have H : ((spec_StoreOk.f k l0_0 l0_1).bind fun t448 => (if t448 = true then ((spec_l12Write.f k l0_0 l0_1 1 a1 a2).bind fun t449 => (some t449)) else (some (([] : List (S34)))))) = some r := h
 clear h
 replace H := Option.bind_eq_some_iff.mp H
 obtain ⟨t448, A40, H⟩ := H
 have A4 := am A40
 clear A40
 by_cases c5 : t448 = true
 rotate_left
 · replace c5 := Bool.eq_false_iff.mpr c5
   subst c5
   rw [if_neg (show ¬ (false = true) by decide)] at H
   obtain ⟨y452, hy452⟩ : ∃ y_ : List (S34), y_ = (([] : List (S34))) := ⟨_, rfl⟩
   replace H : (some y452) = some r := yy hy452 H
   have Ny452 := am hy452
   clear hy452
   obtain rfl := Option.some.inj H
   go_enter Try.func6, Try.ntmps6
   go_wp2_with (first | (refine bx 3 #[.slice A0_0 l0_0.length c0_0, .slice A0_1 l0_1.length c0_1] 26 rfl ?_; intro gb447 hg w12 hbox hb; have BK447 := am (hbox); have GW447 := am (ge hg (ph HB.out)); have GE447 := GW447; replace HB := am (below_step (ph HB.out) hb); clear hb hbox hg; obtain ⟨hcz13_0, hcz13_1⟩ := b2 BK447.out; obtain ⟨hfz13_0, hfz13_1⟩ := f2 BK447.out) | (refine gl 8 Try.func16 #[.agg #[.slice A0_0 l0_0.length c0_0, .slice A0_1 l0_1.length c0_1]] rfl ?_; (with_reducible refine (spec_StoreOk.calls k _ _ l0_0 _ _ l0_1 false _ ?side1 ?side2 ?side3 ?side4 A4.out).mono ?_); (case side1 => exact pc (Kd.C_below HR0_0.out HB.out)); (case side2 => exact HC0_0.out); (case side3 => exact pc (Kd.C_below HR0_1.out HB.out)); (case side4 => exact HC0_1.out); rintro e w14 ⟨rfl, hb⟩; refine ⟨_, rfl, ?_⟩; replace BK447 := am (blk_below (pb BK447.out) hb); replace HB := am (below_step (bg1 HB.out GE447.out) hb); clear hb) | ((with_reducible refine gate_dst (N := 10) rfl ?_); refine Kd.R_lit k34 _ 34 ?hg (N := 10) ?hd (xs := ([] : List (S34))) (inner := []) (ok := fun _ => True) (okp := fun _ => True) ?hr ?hp (fun _ hk => hk) trivial (Below.refl _ _) (Nat.le_refl _) (by simp) ?_; (case hd => rfl); (case hg => rfl); (case hr => first | (go_simp; done) | (go_simp; rfl)); (case hp => exact (Reps.none _ _)); intro v453 w15 ho16 hb hg_ hnew_; clear hg_ hnew_; (first | rw [← Ny452.out] at ho16 | (simp only [Int.reduceToNat] at ho16; rw [← Ny452.out] at ho16)); have HO454 := am (Kd.R_lower ho16 (below_size (bg1 HB.out GE447.out))); replace BK447 := am (blk_below (pb BK447.out) hb); replace HB := am (below_step (bg1 HB.out GE447.out) hb); clear hb ho16))
   go_ret
   exact ⟨_, rq ⟨pr HO454.out, bg1 HB.out GE447.out⟩⟩
 subst c5
 rw [if_pos rfl] at H
 replace H := Option.bind_eq_some_iff.mp H
 obtain ⟨t449, A60, H⟩ := H
 have A6 := am A60
 clear A60
 obtain rfl := Option.some.inj H
 go_enter Try.func6, Try.ntmps6
 go_wp2_with (first | (refine bx 3 #[.slice A0_0 l0_0.length c0_0, .slice A0_1 l0_1.length c0_1] 26 rfl ?_; intro gb447 hg w7 hbox hb; have BK447 := am (hbox); have GW447 := am (ge hg (ph HB.out)); have GE447 := GW447; replace HB := am (below_step (ph HB.out) hb); clear hb hbox hg; obtain ⟨hcz8_0, hcz8_1⟩ := b2 BK447.out; obtain ⟨hfz8_0, hfz8_1⟩ := f2 BK447.out) | (refine gl 8 Try.func16 #[.agg #[.slice A0_0 l0_0.length c0_0, .slice A0_1 l0_1.length c0_1]] rfl ?_; (with_reducible refine (spec_StoreOk.calls k _ _ l0_0 _ _ l0_1 true _ ?side1 ?side2 ?side3 ?side4 A4.out).mono ?_); (case side1 => exact pc (Kd.C_below HR0_0.out HB.out)); (case side2 => exact HC0_0.out); (case side3 => exact pc (Kd.C_below HR0_1.out HB.out)); (case side4 => exact HC0_1.out); rintro e w9 ⟨rfl, hb⟩; refine ⟨_, rfl, ?_⟩; replace BK447 := am (blk_below (pb BK447.out) hb); replace HB := am (below_step (bg1 HB.out GE447.out) hb); clear hb; obtain ⟨hcz10_0, hcz10_1⟩ := b2 BK447.out; obtain ⟨hfz10_0, hfz10_1⟩ := f2 BK447.out) | (refine gl 14 Try.func17 #[.agg #[.slice A0_0 l0_0.length c0_0, .slice A0_1 l0_1.length c0_1], .int .i64 1, .int .i64 a1, .int .i64 a2] rfl ?_; (with_reducible refine (spec_l12Write.calls k _ _ l0_0 _ _ l0_1 1 a1 a2 t449 _ ?side1 ?side2 ?side3 ?side4 A6.out).mono ?_); (case side1 => exact pc (Kd.C_below HR0_0.out HB.out)); (case side2 => exact HC0_0.out); (case side3 => exact pc (Kd.C_below HR0_1.out HB.out)); (case side4 => exact HC0_1.out); rintro e w11 ⟨v450, rfl, ho0, hb⟩; refine ⟨_, rfl, ?_⟩; have HO451 := am (Kd.R_lower ho0 (below_size (bg1 HB.out GE447.out))); replace BK447 := am (blk_below (pb BK447.out) hb); replace HB := am (below_step (bg1 HB.out GE447.out) hb); clear hb ho0))
 go_ret
 exact ⟨_, rq ⟨pr HO451.out, bg1 HB.out GE447.out⟩⟩
end Go.Proofs.Ytenmnclkbleglaa.P2
