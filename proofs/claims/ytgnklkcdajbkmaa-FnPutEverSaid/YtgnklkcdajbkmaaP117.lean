-- printed by wip/pp/pp.py
import Derived.Test.YtgnklkcdajbkmaaP10
import Derived.Test.YtgnklkcdajbkmaaP13
import Derived.Test.YtgnklkcdajbkmaaP112
import Derived.Test.YtgnklkcdajbkmaaP114
import Derived.Test.YtgnklkcdajbkmaaP115
import Derived.Test.YtgnklkcdajbkmaaP116
namespace Go.Proofs.Ytgnklkcdajbkmaa.P1
open Go.RowKit Go.Proofs.YtgnklkcdajbkmaaW.PrintWords Go.Proofs.YtgnklkcdajbkmaaW.PrintLast Go.Proofs.YtgnklkcdajbkmaaW.PrintMore
attribute [local go_sem] max2_int min2_int max_two min_two max_three min_three max_four min_four
set_option linter.unusedVariables false
set_option linter.unusedSimpArgs false
def laws_FnPutEver.j0 : Nat → Int → Int → List (S75) → Bool → List (S37) → List Int → Option (Bool)
 | 0, _, _, _, _, _, _ => none
 | k + 1, x4, x5, x6, x51, x464000, x464001 => if x51 = true then ((spec_StepsPut.f k x464000 x464001 x4 x5).bind fun t471 => (some ((x6.length : Int) == (t471.length : Int)))) else ((impl_FindOpen.f k x464000).bind fun bt474 => ((impl_FindNext.f x464000).bind fun t476 => (if t476 ≤ 600 then (if bt474.2 = true then (some ((decide ((x6.length : Int) > 0)) == true)) else ((impl_FindOld.f x464000).bind fun t477 => (if 0 ≤ t477 then (if t477 < (x464000.length : Int) then (some ((decide ((x6.length : Int) > 0)) == (decide (((rd_T37 x464000 t477).f1) < 200)))) else (none)) else (none)))) else (some ((decide ((x6.length : Int) > 0)) == false)))))
def laws_FnPutEver.f (k : Nat) (l0 : List Int) : Option (Bool) := if (l0.length : Int) > 1048576 then (some true) else ((spec_DrawStepsPut.f k l0).bind fun bt455 => ((impl_StepsPut.f k bt455.1 bt455.2.1 bt455.2.2.1 bt455.2.2.2).bind fun t464 => ((spec_StepsPut.f k bt455.1 bt455.2.1 bt455.2.2.1 bt455.2.2.2).bind fun t467 => (if (t464.length : Int) = (t467.length : Int) then ((spec_StoreOk.f k bt455.1 bt455.2.1).bind fun t470 => (if t470 = true then (if bt455.2.2.1 < 1 then (laws_FnPutEver.j0 k bt455.2.2.1 bt455.2.2.2 t464 true bt455.1 bt455.2.1) else (if bt455.2.2.1 > 6 then (laws_FnPutEver.j0 k bt455.2.2.1 bt455.2.2.2 t464 true bt455.1 bt455.2.1) else (if bt455.2.2.2 < 0 then (laws_FnPutEver.j0 k bt455.2.2.1 bt455.2.2.2 t464 true bt455.1 bt455.2.1) else (laws_FnPutEver.j0 k bt455.2.2.1 bt455.2.2.2 t464 (decide (bt455.2.2.2 > 9)) bt455.1 bt455.2.1)))) else (laws_FnPutEver.j0 k bt455.2.2.1 bt455.2.2.2 t464 true bt455.1 bt455.2.1))) else (laws_FnPutEver.j0 k bt455.2.2.1 bt455.2.2.2 t464 true bt455.1 bt455.2.1)))))
def laws_FnPutEver.T8 : Bool × List (List Nat × List Nat) := (true, [([], []), ([0], [0]), ([1], [1]), ([2], [2]), ([3, 2], [3]), ([4], [4]), ([5, 4, 4], [4, 5]), ([6], [6]), ([7, 6], [6, 7]), ([6], [6]), ([9, 6], [6, 9]), ([10, 6, 6], [6, 10]), ([8, 11, 6], [6, 8, 11]), ([12, 6], [6, 12]), ([13, 6], [6, 13]), ([14, 6], [6, 14]), ([6, 15, 4], [4, 6, 15]), ([4, 16], [4, 16]), ([17, 11, 0, 1, 2, 3, 4, 5, 6, 7, 8, 9, 10, 11, 12, 13, 14, 15, 16, 17], [17])])
def laws_FnPutEver.B8 : List Nat := [0, 1, 3, 7, 15, 31, 63, 127, 255, 127, 639, 1663, 4095, 8191, 16383, 32767, 65535, 131071, 262143]
theorem laws_FnPutEver.tab8 : rtab .any (opsOf Try.f3 8) = laws_FnPutEver.T8 := by kernel_rfl
theorem laws_FnPutEver.bits8 : waitsOk laws_FnPutEver.T8.2 laws_FnPutEver.B8 = true := by kernel_rfl
set_option maxHeartbeats 8000000 in
set_option maxRecDepth 100000 in
theorem laws_FnPutEver.calls (k : Nat) (A0 : Option Addr) (c0 : Nat) (l0 : List Int) (r : Bool) (w : World) (hr0 : Kd.C (Kd.int .u8) w A0 l0.length l0) (hc0 : l0.length ≤ c0) (h : laws_FnPutEver.f k l0 = some r) :
 Calls Try.prog 3 #[.slice A0 l0.length c0] w fun e w' => e = .returned (.bool r) ∧ Below w.heap.size w w' := by
 have hu26 := Try.underlying26
 have HR0 := am hr0
 have HC0 := am hc0
 clear hr0 hc0
 have HB := am (Below.refl w.heap.size w)
 have H : (if (l0.length : Int) > 1048576 then (some true) else ((spec_DrawStepsPut.f k l0).bind fun bt455 => ((impl_StepsPut.f k bt455.1 bt455.2.1 bt455.2.2.1 bt455.2.2.2).bind fun t464 => ((spec_StepsPut.f k bt455.1 bt455.2.1 bt455.2.2.1 bt455.2.2.2).bind fun t467 => (if (t464.length : Int) = (t467.length : Int) then ((spec_StoreOk.f k bt455.1 bt455.2.1).bind fun t470 => (if t470 = true then (if bt455.2.2.1 < 1 then (laws_FnPutEver.j0 k bt455.2.2.1 bt455.2.2.2 t464 true bt455.1 bt455.2.1) else (if bt455.2.2.1 > 6 then (laws_FnPutEver.j0 k bt455.2.2.1 bt455.2.2.2 t464 true bt455.1 bt455.2.1) else (if bt455.2.2.2 < 0 then (laws_FnPutEver.j0 k bt455.2.2.1 bt455.2.2.2 t464 true bt455.1 bt455.2.1) else (laws_FnPutEver.j0 k bt455.2.2.1 bt455.2.2.2 t464 (decide (bt455.2.2.2 > 9)) bt455.1 bt455.2.1)))) else (laws_FnPutEver.j0 k bt455.2.2.1 bt455.2.2.2 t464 true bt455.1 bt455.2.1))) else (laws_FnPutEver.j0 k bt455.2.2.1 bt455.2.2.2 t464 true bt455.1 bt455.2.1)))))) = some r := h
 clear h
 by_cases c2 : (l0.length : Int) > 1048576
 · rw [if_pos c2] at H
   have c2b0 := decide_eq_true c2
   have c2b1 : decide (1048576 < l0.length) = true := decide_eq_true (by omega)
   clear c2
   obtain rfl := Option.some.inj H
   go_enter Try.func3, Try.ntmps3
   go_wp2
   go_ret
   exact (rq (ph HB.out))
 rw [if_neg c2] at H
 have c2b0 := decide_eq_false c2
 have c2b1 : decide (1048576 < l0.length) = false := decide_eq_false (by omega)
 clear c2
 replace H := Option.bind_eq_some_iff.mp H
 obtain ⟨⟨t455, t458, t461, t462⟩, A30, H⟩ := H
 have A3 := am A30
 clear A30
 replace H := Option.bind_eq_some_iff.mp H
 obtain ⟨t464, A40, H⟩ := H
 have A4 := am A40
 clear A40
 have HC5 := am H
 clear H
 go_enter Try.func3, Try.ntmps3
 go_upto_region 5 with (first | (refine gl 15 Try.func4 #[.slice A0 l0.length c0] rfl ?_; (with_reducible refine (spec_DrawStepsPut.calls k _ _ l0 t455 t458 t461 t462 _ ?side1 ?side2 A3.out).mono ?_); (case side1 => exact pc HR0.out); (case side2 => exact HC0.out); rintro e w6 ⟨v456, v459, rfl, ho0, ho1, hb⟩; refine ⟨_, rfl, ?_⟩; have HO457 := am (Kd.V_lower (Kd.V_mono (ok' := fun k_ => some k_ ≠ (v459 : Value).ownBlock) ho0 (fun k_ hk_ => hk_.2)) (below_size (ph HB.out))); have HO460 := am (Kd.Q_lower (Kd.Q_mono (ok' := fun k_ => True) ho1 (fun _ hk_ => trivial)) (below_size (ph HB.out))); replace HB := am (below_step (ph HB.out) hb); clear hb ho0 ho1) | (refine bx 3 #[.slice none 0 0, .slice none 0 0] 26 rfl ?_; intro gb463 hg w7 hbox hb; replace HO457 := am (Kd.V_below (Kd.V_elderB (pv HO457.out) gb463 (Nat.le_of_eq hg.symm)) hb); replace HO460 := am (Kd.Q_below (pq HO460.out) hb); have BK463 := am (hbox); have GW463 := am (ge hg (ph HB.out)); have GE463 := GW463; replace HB := am (below_step (ph HB.out) hb); clear hb hbox hg; obtain ⟨Ao8, co8, eo8⟩ := Kd.V_slice HO457.out; subst eo8; obtain ⟨hcz9_0, hcz9_1⟩ := b2 BK463.out; obtain ⟨hfz9_0, hfz9_1⟩ := f2 BK463.out; obtain ⟨Ao10, co10, eo10, _⟩ := Kd.Q_slice HO460.out; subst eo10) | (refine gl 22 Try.func5 #[.agg #[.slice Ao8 t455.length co8, .slice Ao10 t458.length co10], .int .i64 t461, .int .i64 t462] rfl ?_; (with_reducible refine (impl_StepsPut.calls k _ _ t455 _ _ t458 t461 t462 t464 _ ?side1 ?side2 ?side3 ?side4 A4.out).mono ?_); (case side1 => refine (Kd.V_reads' (e := 37) (base := w.heap.size) (ok := fun k_ => (some k_ ≠ (.slice Ao10 t458.length co10 : Value).ownBlock ∧ k_ ≠ gb463)) (n := t455.length) (c := co8) ?_).2.2; exact (pv ((Kd.V_mono (Kd.V_far (p := ⟨gb463, 1, none⟩) (Kd.V_far (p := ⟨gb463, 0, none⟩) (Kd.V_mono HO457.out (fun k_ hk => (⟨hk, hk.2⟩ : _ ∧ k_ ≠ gb463))) (fun _ hk => hk.2) (.slice Ao8 t455.length co8)) (fun _ hk => hk.2) (.slice Ao10 t458.length co10)) (fun _ h_ => h_.1))))); (case side2 => exact (Kd.V_reads' HO457.out).2.1); (case side3 => refine (Kd.Q_reads' (e := 3) (base := w.heap.size) (ok := fun k_ => True) (n := t458.length) (c := co10) ?_).2.2; exact (pq ((Kd.Q_mono (Kd.Q_far (p := ⟨gb463, 1, none⟩) (Kd.Q_far (p := ⟨gb463, 0, none⟩) (Kd.Q_types HO460.out BK463.out (by decide)) (fun _ hk => hk.2) (.slice Ao8 t455.length co8)) (fun _ hk => hk.2) (.slice Ao10 t458.length co10)) (fun _ h_ => h_.1))))); (case side4 => exact (Kd.Q_reads' HO460.out).2.1); rintro e w11 ⟨v465, rfl, ho0, hb⟩; refine ⟨_, rfl, ?_⟩; replace HO457 := am (Kd.V_elder' (pv ((Kd.V_mono (Kd.V_far (p := ⟨gb463, 1, none⟩) (Kd.V_far (p := ⟨gb463, 0, none⟩) (Kd.V_mono HO457.out (fun k_ hk => (⟨hk, hk.2⟩ : _ ∧ k_ ≠ gb463))) (fun _ hk => hk.2) (.slice Ao8 t455.length co8)) (fun _ hk => hk.2) (.slice Ao10 t458.length co10)) (fun _ h_ => h_.1)))) (Kd.R_base ho0) hb); replace HO460 := am (Kd.Q_below (pq ((Kd.Q_mono (Kd.Q_far (p := ⟨gb463, 1, none⟩) (Kd.Q_far (p := ⟨gb463, 0, none⟩) (Kd.Q_types HO460.out BK463.out (by decide)) (fun _ hk => hk.2) (.slice Ao8 t455.length co8)) (fun _ hk => hk.2) (.slice Ao10 t458.length co10)) (fun _ h_ => h_.1)))) hb); have HO466 := am (Kd.R_lower ho0 (below_size (bg1 HB.out GE463.out))); replace BK463 := am (blk_below (bp2 (pb BK463.out)) hb); replace HB := am (below_step (bg1 HB.out GE463.out) hb); clear hb ho0))
 (try simp only [Act.put, List.setIfInBounds_toArray, List.set_cons_zero, List.set_cons_succ])
 go_cut [51] (fun v51 wc => ∃ (kq : Nat) (x51_4 : Bool), v51 = .bool x51_4 ∧ Aside0 (laws_FnPutEver.j0 kq t461 t462 t464 x51_4 t455 t458 = some r) ∧ Aside0 (kq ≤ k) ∧ Aside0 (Kd.R k75 75 wc w.heap.size (fun _ => True) v465 t464) ∧ Aside0 (Kd.V k37 37 wc w.heap.size (fun k_ => some k_ ≠ (v465 : Value).ownBlock ∧ some k_ ≠ ((.slice Ao10 t458.length co10) : Value).ownBlock ∧ k_ ≠ gb463) (.slice Ao8 t455.length co8) t455) ∧ Aside0 (Kd.Q (Kd.int .i64) 3 wc w.heap.size (fun _ => True) (.slice Ao10 t458.length co10) t458) ∧ Aside0 (wc.heap[gb463]? = some (.cells #[(.slice Ao8 t455.length co8), (.slice Ao10 t458.length co10)] 26 (0, 0))) ∧ Aside0 (Below w.heap.size w wc))
 case first =>
  have H := HC5.out
  clear HC5
  replace H := Option.bind_eq_some_iff.mp H
  obtain ⟨t467, A120, H⟩ := H
  have A12 := am A120
  clear A120
  by_cases c13 : (t464.length : Int) = (t467.length : Int)
  rotate_left
  · rw [if_neg c13] at H
    have c13b0 : ((t464.length : Int) == (t467.length : Int)) = false := beq_eq_false_iff_ne.mpr c13
    have c13b1 : ((t464.length : Int) != (t467.length : Int)) = true := bne_iff_ne.mpr c13
    have c13b2 : (t464.length == t467.length) = false := by first | simpa using c13 | (simp at c13 ⊢; omega)
    (first | rw [c13b0] | (simp only [i64_w, i32_w]; rw [c13b0]) | skip)
    have H' := am H
    clear H
    obtain ⟨Ao49, co49, eo49⟩ := Kd.R_slice HO466.out
    subst eo49
    obtain ⟨hcz50_0, hcz50_1⟩ := b2 BK463.out
    obtain ⟨hfz50_0, hfz50_1⟩ := f2 BK463.out
    go_wp2_with (first | (refine gl 28 Try.func6 #[.agg #[.slice Ao8 t455.length co8, .slice Ao10 t458.length co10], .int .i64 t461, .int .i64 t462] rfl ?_; (with_reducible refine (spec_StepsPut.calls k _ _ t455 _ _ t458 t461 t462 t467 _ ?side1 ?side2 ?side3 ?side4 A12.out).mono ?_); (case side1 => exact pc ((Kd.V_reads' HO457.out).2.2)); (case side2 => exact (Kd.V_reads' HO457.out).2.1); (case side3 => exact pc ((Kd.Q_reads' HO460.out).2.2)); (case side4 => exact (Kd.Q_reads' HO460.out).2.1); rintro e w51 ⟨v468, rfl, ho0, hb⟩; refine ⟨_, rfl, ?_⟩; replace HO457 := am (Kd.V_elder' (pv HO457.out) (Kd.R_base ho0) hb); replace HO460 := am (Kd.Q_below (pq HO460.out) hb); have HO469 := am (Kd.R_lower (Kd.R_new' ho0 (Kd.R_lt (pr HO466.out))) (below_size (bg1 HB.out GE463.out))); replace HO466 := am (Kd.R_elder' (pr HO466.out) (Kd.R_base ho0) hb); replace BK463 := am (blk_below (pb BK463.out) hb); replace HB := am (below_step (bg1 HB.out GE463.out) hb); clear hb ho0; obtain ⟨Ao52, co52, eo52⟩ := Kd.R_slice HO469.out; subst eo52))
    go_meet
    case rel => exact ⟨_, (true), rf, H', ⟨by first | omega | exact Nat.le_refl _⟩, ⟨pr (Kd.R_mono HO466.out (fun _ hk => trivial))⟩, ⟨pv (Kd.V_mono HO457.out (fun _ hk => ⟨hk.1.2, ⟨hk.1.1.1, hk.1.1.2⟩⟩))⟩, ⟨pq HO460.out⟩, ⟨pb BK463.out⟩, ⟨bg1 HB.out GE463.out⟩⟩
  rw [if_pos c13] at H
  have c13b0 : ((t464.length : Int) == (t467.length : Int)) = true := beq_iff_eq.mpr c13
  have c13b1 : ((t464.length : Int) != (t467.length : Int)) = false := bne_eq_false_iff_eq.mpr c13
  have c13b2 : (t464.length == t467.length) = true := by first | simpa using c13 | (simp at c13 ⊢; omega)
  clear c13
  (first | rw [c13b0] | (simp only [i64_w, i32_w]; rw [c13b0]) | skip)
  replace H := Option.bind_eq_some_iff.mp H
  obtain ⟨t470, A140, H⟩ := H
  have A14 := am A140
  clear A140
  by_cases c15 : t470 = true
  rotate_left
  · replace c15 := Bool.eq_false_iff.mpr c15
    subst c15
    rw [if_neg (show ¬ (false = true) by decide)] at H
    have H' := am H
    clear H
    obtain ⟨Ao43, co43, eo43⟩ := Kd.R_slice HO466.out
    subst eo43
    obtain ⟨hcz44_0, hcz44_1⟩ := b2 BK463.out
    obtain ⟨hfz44_0, hfz44_1⟩ := f2 BK463.out
    go_wp2_with (first | (refine gl 28 Try.func6 #[.agg #[.slice Ao8 t455.length co8, .slice Ao10 t458.length co10], .int .i64 t461, .int .i64 t462] rfl ?_; (with_reducible refine (spec_StepsPut.calls k _ _ t455 _ _ t458 t461 t462 t467 _ ?side1 ?side2 ?side3 ?side4 A12.out).mono ?_); (case side1 => exact pc ((Kd.V_reads' HO457.out).2.2)); (case side2 => exact (Kd.V_reads' HO457.out).2.1); (case side3 => exact pc ((Kd.Q_reads' HO460.out).2.2)); (case side4 => exact (Kd.Q_reads' HO460.out).2.1); rintro e w45 ⟨v468, rfl, ho0, hb⟩; refine ⟨_, rfl, ?_⟩; replace HO457 := am (Kd.V_elder' (pv HO457.out) (Kd.R_base ho0) hb); replace HO460 := am (Kd.Q_below (pq HO460.out) hb); have HO469 := am (Kd.R_lower (Kd.R_new' ho0 (Kd.R_lt (pr HO466.out))) (below_size (bg1 HB.out GE463.out))); replace HO466 := am (Kd.R_elder' (pr HO466.out) (Kd.R_base ho0) hb); replace BK463 := am (blk_below (pb BK463.out) hb); replace HB := am (below_step (bg1 HB.out GE463.out) hb); clear hb ho0; obtain ⟨Ao46, co46, eo46⟩ := Kd.R_slice HO469.out; subst eo46; obtain ⟨hcz47_0, hcz47_1⟩ := b2 BK463.out; obtain ⟨hfz47_0, hfz47_1⟩ := f2 BK463.out) | (go_at_call 7; (with_reducible refine (spec_StoreOk.calls k _ _ t455 _ _ t458 false _ ?side1 ?side2 ?side3 ?side4 A14.out).mono ?_); (case side1 => exact pc ((Kd.V_reads' HO457.out).2.2)); (case side2 => exact (Kd.V_reads' HO457.out).2.1); (case side3 => exact pc ((Kd.Q_reads' HO460.out).2.2)); (case side4 => exact (Kd.Q_reads' HO460.out).2.1); rintro e w48 ⟨rfl, hb⟩; replace HO457 := am (Kd.V_below (pv HO457.out) hb); replace HO460 := am (Kd.Q_below (pq HO460.out) hb); replace HO466 := am (Kd.R_below (pr HO466.out) hb); replace HO469 := am (Kd.R_below (pr HO469.out) hb); replace BK463 := am (blk_below (pb BK463.out) hb); replace HB := am (below_step (bg1 HB.out GE463.out) hb); clear hb))
    go_meet
    case rel => exact ⟨_, (true), rf, H', ⟨by first | omega | exact Nat.le_refl _⟩, ⟨pr (Kd.R_mono HO466.out (fun _ hk => trivial))⟩, ⟨pv (Kd.V_mono HO457.out (fun _ hk => ⟨hk.1.2, ⟨hk.1.1.1, hk.1.1.2⟩⟩))⟩, ⟨pq HO460.out⟩, ⟨pb BK463.out⟩, ⟨bg1 HB.out GE463.out⟩⟩
  subst c15
  rw [if_pos rfl] at H
  by_cases c16 : t461 < 1
  · rw [if_pos c16] at H
    have c16b0 := decide_eq_true c16
    clear c16
    have H' := am H
    clear H
    obtain ⟨Ao17, co17, eo17⟩ := Kd.R_slice HO466.out
    subst eo17
    obtain ⟨hcz18_0, hcz18_1⟩ := b2 BK463.out
    obtain ⟨hfz18_0, hfz18_1⟩ := f2 BK463.out
    go_wp2_with (first | (refine gl 28 Try.func6 #[.agg #[.slice Ao8 t455.length co8, .slice Ao10 t458.length co10], .int .i64 t461, .int .i64 t462] rfl ?_; (with_reducible refine (spec_StepsPut.calls k _ _ t455 _ _ t458 t461 t462 t467 _ ?side1 ?side2 ?side3 ?side4 A12.out).mono ?_); (case side1 => exact pc ((Kd.V_reads' HO457.out).2.2)); (case side2 => exact (Kd.V_reads' HO457.out).2.1); (case side3 => exact pc ((Kd.Q_reads' HO460.out).2.2)); (case side4 => exact (Kd.Q_reads' HO460.out).2.1); rintro e w19 ⟨v468, rfl, ho0, hb⟩; refine ⟨_, rfl, ?_⟩; replace HO457 := am (Kd.V_elder' (pv HO457.out) (Kd.R_base ho0) hb); replace HO460 := am (Kd.Q_below (pq HO460.out) hb); have HO469 := am (Kd.R_lower (Kd.R_new' ho0 (Kd.R_lt (pr HO466.out))) (below_size (bg1 HB.out GE463.out))); replace HO466 := am (Kd.R_elder' (pr HO466.out) (Kd.R_base ho0) hb); replace BK463 := am (blk_below (pb BK463.out) hb); replace HB := am (below_step (bg1 HB.out GE463.out) hb); clear hb ho0; obtain ⟨Ao20, co20, eo20⟩ := Kd.R_slice HO469.out; subst eo20; obtain ⟨hcz21_0, hcz21_1⟩ := b2 BK463.out; obtain ⟨hfz21_0, hfz21_1⟩ := f2 BK463.out) | (go_at_call 7; (with_reducible refine (spec_StoreOk.calls k _ _ t455 _ _ t458 true _ ?side1 ?side2 ?side3 ?side4 A14.out).mono ?_); (case side1 => exact pc ((Kd.V_reads' HO457.out).2.2)); (case side2 => exact (Kd.V_reads' HO457.out).2.1); (case side3 => exact pc ((Kd.Q_reads' HO460.out).2.2)); (case side4 => exact (Kd.Q_reads' HO460.out).2.1); rintro e w22 ⟨rfl, hb⟩; replace HO457 := am (Kd.V_below (pv HO457.out) hb); replace HO460 := am (Kd.Q_below (pq HO460.out) hb); replace HO466 := am (Kd.R_below (pr HO466.out) hb); replace HO469 := am (Kd.R_below (pr HO469.out) hb); replace BK463 := am (blk_below (pb BK463.out) hb); replace HB := am (below_step (bg1 HB.out GE463.out) hb); clear hb))
    go_meet
    case rel => exact ⟨_, (true), rf, H', ⟨by first | omega | exact Nat.le_refl _⟩, ⟨pr (Kd.R_mono HO466.out (fun _ hk => trivial))⟩, ⟨pv (Kd.V_mono HO457.out (fun _ hk => ⟨hk.1.2, ⟨hk.1.1.1, hk.1.1.2⟩⟩))⟩, ⟨pq HO460.out⟩, ⟨pb BK463.out⟩, ⟨bg1 HB.out GE463.out⟩⟩
  rw [if_neg c16] at H
  have c16b0 := decide_eq_false c16
  clear c16
  by_cases c23 : t461 > 6
  · rw [if_pos c23] at H
    have c23b0 := decide_eq_true c23
    clear c23
    have H' := am H
    clear H
    obtain ⟨Ao24, co24, eo24⟩ := Kd.R_slice HO466.out
    subst eo24
    obtain ⟨hcz25_0, hcz25_1⟩ := b2 BK463.out
    obtain ⟨hfz25_0, hfz25_1⟩ := f2 BK463.out
    go_wp2_with (first | (refine gl 28 Try.func6 #[.agg #[.slice Ao8 t455.length co8, .slice Ao10 t458.length co10], .int .i64 t461, .int .i64 t462] rfl ?_; (with_reducible refine (spec_StepsPut.calls k _ _ t455 _ _ t458 t461 t462 t467 _ ?side1 ?side2 ?side3 ?side4 A12.out).mono ?_); (case side1 => exact pc ((Kd.V_reads' HO457.out).2.2)); (case side2 => exact (Kd.V_reads' HO457.out).2.1); (case side3 => exact pc ((Kd.Q_reads' HO460.out).2.2)); (case side4 => exact (Kd.Q_reads' HO460.out).2.1); rintro e w26 ⟨v468, rfl, ho0, hb⟩; refine ⟨_, rfl, ?_⟩; replace HO457 := am (Kd.V_elder' (pv HO457.out) (Kd.R_base ho0) hb); replace HO460 := am (Kd.Q_below (pq HO460.out) hb); have HO469 := am (Kd.R_lower (Kd.R_new' ho0 (Kd.R_lt (pr HO466.out))) (below_size (bg1 HB.out GE463.out))); replace HO466 := am (Kd.R_elder' (pr HO466.out) (Kd.R_base ho0) hb); replace BK463 := am (blk_below (pb BK463.out) hb); replace HB := am (below_step (bg1 HB.out GE463.out) hb); clear hb ho0; obtain ⟨Ao27, co27, eo27⟩ := Kd.R_slice HO469.out; subst eo27; obtain ⟨hcz28_0, hcz28_1⟩ := b2 BK463.out; obtain ⟨hfz28_0, hfz28_1⟩ := f2 BK463.out) | (go_at_call 7; (with_reducible refine (spec_StoreOk.calls k _ _ t455 _ _ t458 true _ ?side1 ?side2 ?side3 ?side4 A14.out).mono ?_); (case side1 => exact pc ((Kd.V_reads' HO457.out).2.2)); (case side2 => exact (Kd.V_reads' HO457.out).2.1); (case side3 => exact pc ((Kd.Q_reads' HO460.out).2.2)); (case side4 => exact (Kd.Q_reads' HO460.out).2.1); rintro e w29 ⟨rfl, hb⟩; replace HO457 := am (Kd.V_below (pv HO457.out) hb); replace HO460 := am (Kd.Q_below (pq HO460.out) hb); replace HO466 := am (Kd.R_below (pr HO466.out) hb); replace HO469 := am (Kd.R_below (pr HO469.out) hb); replace BK463 := am (blk_below (pb BK463.out) hb); replace HB := am (below_step (bg1 HB.out GE463.out) hb); clear hb))
    go_meet
    case rel => exact ⟨_, (true), rf, H', ⟨by first | omega | exact Nat.le_refl _⟩, ⟨pr (Kd.R_mono HO466.out (fun _ hk => trivial))⟩, ⟨pv (Kd.V_mono HO457.out (fun _ hk => ⟨hk.1.2, ⟨hk.1.1.1, hk.1.1.2⟩⟩))⟩, ⟨pq HO460.out⟩, ⟨pb BK463.out⟩, ⟨bg1 HB.out GE463.out⟩⟩
  rw [if_neg c23] at H
  have c23b0 := decide_eq_false c23
  clear c23
  by_cases c30 : t462 < 0
  · rw [if_pos c30] at H
    have c30b0 := decide_eq_true c30
    clear c30
    have H' := am H
    clear H
    obtain ⟨Ao31, co31, eo31⟩ := Kd.R_slice HO466.out
    subst eo31
    obtain ⟨hcz32_0, hcz32_1⟩ := b2 BK463.out
    obtain ⟨hfz32_0, hfz32_1⟩ := f2 BK463.out
    go_wp2_with (first | (refine gl 28 Try.func6 #[.agg #[.slice Ao8 t455.length co8, .slice Ao10 t458.length co10], .int .i64 t461, .int .i64 t462] rfl ?_; (with_reducible refine (spec_StepsPut.calls k _ _ t455 _ _ t458 t461 t462 t467 _ ?side1 ?side2 ?side3 ?side4 A12.out).mono ?_); (case side1 => exact pc ((Kd.V_reads' HO457.out).2.2)); (case side2 => exact (Kd.V_reads' HO457.out).2.1); (case side3 => exact pc ((Kd.Q_reads' HO460.out).2.2)); (case side4 => exact (Kd.Q_reads' HO460.out).2.1); rintro e w33 ⟨v468, rfl, ho0, hb⟩; refine ⟨_, rfl, ?_⟩; replace HO457 := am (Kd.V_elder' (pv HO457.out) (Kd.R_base ho0) hb); replace HO460 := am (Kd.Q_below (pq HO460.out) hb); have HO469 := am (Kd.R_lower (Kd.R_new' ho0 (Kd.R_lt (pr HO466.out))) (below_size (bg1 HB.out GE463.out))); replace HO466 := am (Kd.R_elder' (pr HO466.out) (Kd.R_base ho0) hb); replace BK463 := am (blk_below (pb BK463.out) hb); replace HB := am (below_step (bg1 HB.out GE463.out) hb); clear hb ho0; obtain ⟨Ao34, co34, eo34⟩ := Kd.R_slice HO469.out; subst eo34; obtain ⟨hcz35_0, hcz35_1⟩ := b2 BK463.out; obtain ⟨hfz35_0, hfz35_1⟩ := f2 BK463.out) | (go_at_call 7; (with_reducible refine (spec_StoreOk.calls k _ _ t455 _ _ t458 true _ ?side1 ?side2 ?side3 ?side4 A14.out).mono ?_); (case side1 => exact pc ((Kd.V_reads' HO457.out).2.2)); (case side2 => exact (Kd.V_reads' HO457.out).2.1); (case side3 => exact pc ((Kd.Q_reads' HO460.out).2.2)); (case side4 => exact (Kd.Q_reads' HO460.out).2.1); rintro e w36 ⟨rfl, hb⟩; replace HO457 := am (Kd.V_below (pv HO457.out) hb); replace HO460 := am (Kd.Q_below (pq HO460.out) hb); replace HO466 := am (Kd.R_below (pr HO466.out) hb); replace HO469 := am (Kd.R_below (pr HO469.out) hb); replace BK463 := am (blk_below (pb BK463.out) hb); replace HB := am (below_step (bg1 HB.out GE463.out) hb); clear hb))
    go_meet
    case rel => exact ⟨_, (true), rf, H', ⟨by first | omega | exact Nat.le_refl _⟩, ⟨pr (Kd.R_mono HO466.out (fun _ hk => trivial))⟩, ⟨pv (Kd.V_mono HO457.out (fun _ hk => ⟨hk.1.2, ⟨hk.1.1.1, hk.1.1.2⟩⟩))⟩, ⟨pq HO460.out⟩, ⟨pb BK463.out⟩, ⟨bg1 HB.out GE463.out⟩⟩
  rw [if_neg c30] at H
  have c30b0 := decide_eq_false c30
  clear c30
  have H' := am H
  clear H
  obtain ⟨Ao37, co37, eo37⟩ := Kd.R_slice HO466.out
  subst eo37
  obtain ⟨hcz38_0, hcz38_1⟩ := b2 BK463.out
  obtain ⟨hfz38_0, hfz38_1⟩ := f2 BK463.out
  go_wp2_with (first | (refine gl 28 Try.func6 #[.agg #[.slice Ao8 t455.length co8, .slice Ao10 t458.length co10], .int .i64 t461, .int .i64 t462] rfl ?_; (with_reducible refine (spec_StepsPut.calls k _ _ t455 _ _ t458 t461 t462 t467 _ ?side1 ?side2 ?side3 ?side4 A12.out).mono ?_); (case side1 => exact pc ((Kd.V_reads' HO457.out).2.2)); (case side2 => exact (Kd.V_reads' HO457.out).2.1); (case side3 => exact pc ((Kd.Q_reads' HO460.out).2.2)); (case side4 => exact (Kd.Q_reads' HO460.out).2.1); rintro e w39 ⟨v468, rfl, ho0, hb⟩; refine ⟨_, rfl, ?_⟩; replace HO457 := am (Kd.V_elder' (pv HO457.out) (Kd.R_base ho0) hb); replace HO460 := am (Kd.Q_below (pq HO460.out) hb); have HO469 := am (Kd.R_lower (Kd.R_new' ho0 (Kd.R_lt (pr HO466.out))) (below_size (bg1 HB.out GE463.out))); replace HO466 := am (Kd.R_elder' (pr HO466.out) (Kd.R_base ho0) hb); replace BK463 := am (blk_below (pb BK463.out) hb); replace HB := am (below_step (bg1 HB.out GE463.out) hb); clear hb ho0; obtain ⟨Ao40, co40, eo40⟩ := Kd.R_slice HO469.out; subst eo40; obtain ⟨hcz41_0, hcz41_1⟩ := b2 BK463.out; obtain ⟨hfz41_0, hfz41_1⟩ := f2 BK463.out) | (go_at_call 7; (with_reducible refine (spec_StoreOk.calls k _ _ t455 _ _ t458 true _ ?side1 ?side2 ?side3 ?side4 A14.out).mono ?_); (case side1 => exact pc ((Kd.V_reads' HO457.out).2.2)); (case side2 => exact (Kd.V_reads' HO457.out).2.1); (case side3 => exact pc ((Kd.Q_reads' HO460.out).2.2)); (case side4 => exact (Kd.Q_reads' HO460.out).2.1); rintro e w42 ⟨rfl, hb⟩; replace HO457 := am (Kd.V_below (pv HO457.out) hb); replace HO460 := am (Kd.Q_below (pq HO460.out) hb); replace HO466 := am (Kd.R_below (pr HO466.out) hb); replace HO469 := am (Kd.R_below (pr HO469.out) hb); replace BK463 := am (blk_below (pb BK463.out) hb); replace HB := am (below_step (bg1 HB.out GE463.out) hb); clear hb))
  go_meet
  case rel => exact ⟨_, (decide (t462 > 9)), rf, H', ⟨by first | omega | exact Nat.le_refl _⟩, ⟨pr (Kd.R_mono HO466.out (fun _ hk => trivial))⟩, ⟨pv (Kd.V_mono HO457.out (fun _ hk => ⟨hk.1.2, ⟨hk.1.1.1, hk.1.1.2⟩⟩))⟩, ⟨pq HO460.out⟩, ⟨pb BK463.out⟩, ⟨bg1 HB.out GE463.out⟩⟩
 case rest =>
  clear HC5
  obtain ⟨kq, x51_4, rfl, HA, HJ4, HO_6, HO_464000, HO_464001, BK463, HB⟩ := hcut
  cases kq with
  | zero => exact absurd HA.out (by simp [laws_FnPutEver.j0])
  | succ kj4 =>
   have H := HA.out
   clear HA
   simp only [laws_FnPutEver.j0] at H
   by_cases c53 : x51_4 = true
   · subst c53
     rw [if_pos rfl] at H
     replace H := Option.bind_eq_some_iff.mp H
     obtain ⟨t471, A540, H⟩ := H
     have A54 := am A540
     clear A540
     obtain rfl := Option.some.inj H
     obtain ⟨Ao55, co55, eo55⟩ := Kd.R_slice HO_6.out
     subst eo55
     obtain ⟨hcz56_0, hcz56_1⟩ := b2 BK463.out
     obtain ⟨hfz56_0, hfz56_1⟩ := f2 BK463.out
     go_wp2_with (first | (refine gl 57 Try.func6 #[.agg #[.slice Ao8 t455.length co8, .slice Ao10 t458.length co10], .int .i64 t461, .int .i64 t462] rfl ?_; (with_reducible refine (spec_StepsPut.calls kj4 _ _ t455 _ _ t458 t461 t462 t471 _ ?side1 ?side2 ?side3 ?side4 A54.out).mono ?_); (case side1 => exact pc ((Kd.V_reads' HO_464000.out).2.2)); (case side2 => exact (Kd.V_reads' HO_464000.out).2.1); (case side3 => exact pc ((Kd.Q_reads' HO_464001.out).2.2)); (case side4 => exact (Kd.Q_reads' HO_464001.out).2.1); rintro e w57 ⟨v472, rfl, ho0, hb⟩; refine ⟨_, rfl, ?_⟩; replace HO_464000 := am (Kd.V_elder' (pv HO_464000.out) (Kd.R_base ho0) hb); replace HO_464001 := am (Kd.Q_below (pq HO_464001.out) hb); have HO473 := am (Kd.R_lower (Kd.R_new' ho0 (Kd.R_lt (pr HO_6.out))) (below_size (bg1 HB.out GE463.out))); replace HO_6 := am (Kd.R_elder' (pr HO_6.out) (Kd.R_base ho0) hb); replace BK463 := am (blk_below (pb BK463.out) hb); replace HB := am (below_step (bg1 HB.out GE463.out) hb); clear hb ho0; obtain ⟨Ao58, co58, eo58⟩ := Kd.R_slice HO473.out; subst eo58))
     go_ret
     exact (rq (bg1 HB.out GE463.out))
   replace c53 := Bool.eq_false_iff.mpr c53
   subst c53
   rw [if_neg (show ¬ (false = true) by decide)] at H
   replace H := Option.bind_eq_some_iff.mp H
   obtain ⟨⟨t474, t475⟩, A590, H⟩ := H
   have A59 := am A590
   clear A590
   replace H := Option.bind_eq_some_iff.mp H
   obtain ⟨t476, A600, H⟩ := H
   have A60 := am A600
   clear A600
   by_cases c61 : t476 ≤ 600
   rotate_left
   · rw [if_neg c61] at H
     have c61b0 := decide_eq_false c61
     clear c61
     obtain rfl := Option.some.inj H
     obtain ⟨hcz77_0, hcz77_1⟩ := b2 BK463.out
     obtain ⟨hfz77_0, hfz77_1⟩ := f2 BK463.out
     try go_wp2_with (first | (refine gl 63 Try.func8 #[.slice Ao8 t455.length co8] rfl ?_; (with_reducible refine (impl_FindOpen.calls kj4 _ _ t455 t474 t475 _ ?side1 ?side2 A59.out).mono ?_); (case side1 => exact pc ((Kd.V_reads' HO_464000.out).2.2)); (case side2 => exact (Kd.V_reads' HO_464000.out).2.1); rintro e w78 ⟨rfl, hb⟩; refine ⟨_, rfl, ?_⟩; replace HO_6 := am (Kd.R_below (pr HO_6.out) hb); replace HO_464000 := am (Kd.V_below (pv HO_464000.out) hb); replace HO_464001 := am (Kd.Q_below (pq HO_464001.out) hb); replace BK463 := am (blk_below (pb BK463.out) hb); replace HB := am (below_step (bg1 HB.out GE463.out) hb); clear hb))
     replace HO_6 := am (Kd.R_drew HO_6.out)
     replace HO_464000 := am (Kd.V_drew HO_464000.out)
     replace HO_464001 := am (Kd.Q_drew HO_464001.out)
     replace BK463 := am (blk_drew BK463.out)
     replace HB := am (below_drew1 HB.out)
     refine start_ (n := 19) (S := fun w' => w'.cell? ⟨gb463, 0, none⟩ = some (.slice Ao8 t455.length co8) ∧ w'.cell? ⟨gb463, 1, none⟩ = some (.slice Ao10 t458.length co10)) (ds := []) (bt 19 0) (by kernel_rfl) rfl rfl ⟨(blk_cell BK463.out 0).trans rfl, (blk_cell BK463.out 1).trans rfl⟩ (fun hHeld => ?_); refine with_tabW laws_FnPutEver.tab8 laws_FnPutEver.bits8 (fun HT_ HW_ => ?_)
     generalize w78.drew = w79 at HO_6 HO_464000 HO_464001 BK463 HB hHeld ⊢
     refine qj 0 66 (bt 19 1) rfl rfl HT_.out ?_
     refine qm 1 67 (bt 19 3) rfl rfl HT_.out HW_.out hHeld ?_
     refine qo 2 (some 68) (bt 19 7) rfl rfl HT_.out fun K hK => ?_
     refine qg Try.func9 #[.slice Ao8 t455.length co8] rfl rfl ?_
     with_reducible refine (impl_FindNext.calls _ _ t455 t476 _ ?side1 ?side2 A60.out).mono ?_
     (case side1 => exact pc ((Kd.V_reads' HO_464000.out).2.2))
     (case side2 => exact (Kd.V_reads' HO_464000.out).2.1)
     rintro e w80 ⟨rfl, hb⟩
     refine ⟨_, rfl, ?_⟩
     replace HO_6 := am (Kd.R_below (pr HO_6.out) hb)
     replace HO_464000 := am (Kd.V_below (pv HO_464000.out) hb)
     replace HO_464001 := am (Kd.Q_below (pq HO_464001.out) hb)
     replace BK463 := am (blk_below (pb BK463.out) hb)
     replace HB := am (below_step (bg1 HB.out GE463.out) hb)
     clear hb
     refine hK.out _ _ ⟨(blk_cell BK463.out 0).trans rfl, (blk_cell BK463.out 1).trans rfl⟩ (fun hHeld => ?_)
     clear hK K
     refine qn (some 68) ?_
     refine qj 3 69 (bt 19 15) rfl rfl HT_.out ?_
     refine qj 4 70 (bt 19 31) rfl rfl HT_.out ?_
     refine qv 5 71 (bt 19 63) rfl rfl HT_.out ?_
     refine qv 6 72 (bt 19 127) rfl rfl HT_.out ?_
     refine qv 7 73 (bt 19 255) rfl rfl HT_.out ?_
     refine qv 8 74 (bt 19 511) rfl rfl HT_.out ?_
     refine qv 9 75 (bt 19 1023) rfl rfl HT_.out ?_
     refine qv 10 76 (bt 19 2047) rfl rfl HT_.out ?_
     refine qv 11 77 (bt 19 4095) rfl rfl HT_.out ?_
     refine qv 12 78 (bt 19 8191) rfl rfl HT_.out ?_
     refine qv 13 79 (bt 19 16383) rfl rfl HT_.out ?_
     refine qv 14 80 (bt 19 32767) rfl rfl HT_.out ?_
     refine qv 15 81 (bt 19 65535) rfl rfl HT_.out ?_
     refine qv 16 82 (bt 19 131071) rfl rfl HT_.out ?_
     refine qj 17 83 (bt 19 262143) rfl rfl HT_.out ?_
     refine qj 18 9 (bt 19 524287) rfl rfl HT_.out ?_
     refine done_ (done_of HT_.out (by kernel_rfl)) ?_
     obtain ⟨Ao81, co81, eo81⟩ := Kd.R_slice HO_6.out
     subst eo81
     try go_wp2
     go_ret
     exact (rq (bg1 HB.out GE463.out))
   rw [if_pos c61] at H
   have c61b0 := decide_eq_true c61
   clear c61
   by_cases c62 : t475 = true
   · subst c62
     rw [if_pos rfl] at H
     obtain rfl := Option.some.inj H
     obtain ⟨hcz63_0, hcz63_1⟩ := b2 BK463.out
     obtain ⟨hfz63_0, hfz63_1⟩ := f2 BK463.out
     try go_wp2_with (first | (refine gl 63 Try.func8 #[.slice Ao8 t455.length co8] rfl ?_; (with_reducible refine (impl_FindOpen.calls kj4 _ _ t455 t474 true _ ?side1 ?side2 A59.out).mono ?_); (case side1 => exact pc ((Kd.V_reads' HO_464000.out).2.2)); (case side2 => exact (Kd.V_reads' HO_464000.out).2.1); rintro e w64 ⟨rfl, hb⟩; refine ⟨_, rfl, ?_⟩; replace HO_6 := am (Kd.R_below (pr HO_6.out) hb); replace HO_464000 := am (Kd.V_below (pv HO_464000.out) hb); replace HO_464001 := am (Kd.Q_below (pq HO_464001.out) hb); replace BK463 := am (blk_below (pb BK463.out) hb); replace HB := am (below_step (bg1 HB.out GE463.out) hb); clear hb))
     replace HO_6 := am (Kd.R_drew HO_6.out)
     replace HO_464000 := am (Kd.V_drew HO_464000.out)
     replace HO_464001 := am (Kd.Q_drew HO_464001.out)
     replace BK463 := am (blk_drew BK463.out)
     replace HB := am (below_drew1 HB.out)
     refine start_ (n := 19) (S := fun w' => w'.cell? ⟨gb463, 0, none⟩ = some (.slice Ao8 t455.length co8) ∧ w'.cell? ⟨gb463, 1, none⟩ = some (.slice Ao10 t458.length co10)) (ds := []) (bt 19 0) (by kernel_rfl) rfl rfl ⟨(blk_cell BK463.out 0).trans rfl, (blk_cell BK463.out 1).trans rfl⟩ (fun hHeld => ?_); refine with_tabW laws_FnPutEver.tab8 laws_FnPutEver.bits8 (fun HT_ HW_ => ?_)
     generalize w64.drew = w65 at HO_6 HO_464000 HO_464001 BK463 HB hHeld ⊢
     refine qj 0 66 (bt 19 1) rfl rfl HT_.out ?_
     refine qm 1 67 (bt 19 3) rfl rfl HT_.out HW_.out hHeld ?_
     refine qo 2 (some 68) (bt 19 7) rfl rfl HT_.out fun K hK => ?_
     refine qg Try.func9 #[.slice Ao8 t455.length co8] rfl rfl ?_
     with_reducible refine (impl_FindNext.calls _ _ t455 t476 _ ?side1 ?side2 A60.out).mono ?_
     (case side1 => exact pc ((Kd.V_reads' HO_464000.out).2.2))
     (case side2 => exact (Kd.V_reads' HO_464000.out).2.1)
     rintro e w66 ⟨rfl, hb⟩
     refine ⟨_, rfl, ?_⟩
     replace HO_6 := am (Kd.R_below (pr HO_6.out) hb)
     replace HO_464000 := am (Kd.V_below (pv HO_464000.out) hb)
     replace HO_464001 := am (Kd.Q_below (pq HO_464001.out) hb)
     replace BK463 := am (blk_below (pb BK463.out) hb)
     replace HB := am (below_step (bg1 HB.out GE463.out) hb)
     clear hb
     refine hK.out _ _ ⟨(blk_cell BK463.out 0).trans rfl, (blk_cell BK463.out 1).trans rfl⟩ (fun hHeld => ?_)
     clear hK K
     refine qn (some 68) ?_
     refine qj 3 69 (bt 19 15) rfl rfl HT_.out ?_
     refine qj 4 70 (bt 19 31) rfl rfl HT_.out ?_
     refine qj 5 71 (bt 19 63) rfl rfl HT_.out ?_
     refine qj 6 72 (bt 19 127) rfl rfl HT_.out ?_
     refine qv 7 73 (bt 19 255) rfl rfl HT_.out ?_
     refine qv 8 74 (bt 19 511) rfl rfl HT_.out ?_
     refine qv 9 75 (bt 19 1023) rfl rfl HT_.out ?_
     refine qv 10 76 (bt 19 2047) rfl rfl HT_.out ?_
     refine qv 11 77 (bt 19 4095) rfl rfl HT_.out ?_
     refine qv 12 78 (bt 19 8191) rfl rfl HT_.out ?_
     refine qv 13 79 (bt 19 16383) rfl rfl HT_.out ?_
     refine qv 14 80 (bt 19 32767) rfl rfl HT_.out ?_
     refine qv 15 81 (bt 19 65535) rfl rfl HT_.out ?_
     refine qj 16 82 (bt 19 131071) rfl rfl HT_.out ?_
     refine qj 17 83 (bt 19 262143) rfl rfl HT_.out ?_
     refine qj 18 9 (bt 19 524287) rfl rfl HT_.out ?_
     refine done_ (done_of HT_.out (by kernel_rfl)) ?_
     obtain ⟨Ao67, co67, eo67⟩ := Kd.R_slice HO_6.out
     subst eo67
     try go_wp2
     go_ret
     exact (rq (bg1 HB.out GE463.out))
   replace c62 := Bool.eq_false_iff.mpr c62
   subst c62
   rw [if_neg (show ¬ (false = true) by decide)] at H
   replace H := Option.bind_eq_some_iff.mp H
   obtain ⟨t477, A680, H⟩ := H
   have A68 := am A680
   clear A680
   obtain ⟨c69b0, H⟩ := ifd H
   obtain ⟨c70b0, H⟩ := ifd H
   obtain rfl := Option.some.inj H
   obtain ⟨hcz71_0, hcz71_1⟩ := b2 BK463.out
   obtain ⟨hfz71_0, hfz71_1⟩ := f2 BK463.out
   try go_wp2_with (first | (refine gl 63 Try.func8 #[.slice Ao8 t455.length co8] rfl ?_; (with_reducible refine (impl_FindOpen.calls kj4 _ _ t455 t474 false _ ?side1 ?side2 A59.out).mono ?_); (case side1 => exact pc ((Kd.V_reads' HO_464000.out).2.2)); (case side2 => exact (Kd.V_reads' HO_464000.out).2.1); rintro e w72 ⟨rfl, hb⟩; refine ⟨_, rfl, ?_⟩; replace HO_6 := am (Kd.R_below (pr HO_6.out) hb); replace HO_464000 := am (Kd.V_below (pv HO_464000.out) hb); replace HO_464001 := am (Kd.Q_below (pq HO_464001.out) hb); replace BK463 := am (blk_below (pb BK463.out) hb); replace HB := am (below_step (bg1 HB.out GE463.out) hb); clear hb))
   replace HO_6 := am (Kd.R_drew HO_6.out)
   replace HO_464000 := am (Kd.V_drew HO_464000.out)
   replace HO_464001 := am (Kd.Q_drew HO_464001.out)
   replace BK463 := am (blk_drew BK463.out)
   replace HB := am (below_drew1 HB.out)
   have p478 : 0 ≤ (t477 : Int) := ofb
   have q478 : t477 < (t455.length : Int) := ofb
   obtain ⟨ad478, A478_0, c478_0, e478, hx478_0, hx478_1, hl478_0, hi478_0⟩ := at_T37 (Kd.V_reads' HO_464000.out).2.2 t477 p478 q478
   cases e478
   obtain ⟨ce478, hce478, hMe478, hcc478⟩ := Kd.V_get HO_464000.out z37 t477 p478 (by first | exact q478 | exact ofb | (have e_ := (Kd.V_reads' HO_464000.out).1; omega))
   obtain ⟨ua478_0, uc478_0, rfl, ul478_0, ge478_0⟩ := k37_openF hMe478
   have hv478_0 := hcc478 0 _ rfl
   rw [Nat.add_zero] at hv478_0
   replace hv478_0 := Option.some.inj (hv478_0.symm.trans hx478_0)
   injection hv478_0 with hva_ hvn_ hvc_
   rw [hva_] at ge478_0
   rw [hvc_] at ul478_0
   have HL478_0 := am (show Kd.V k59 59 _ w.heap.size _ _ ((rd_T37 t455 t477).f0) from Kd.V_mk ul478_0 ge478_0)
   clear hva_ hvn_ hvc_ ge478_0 ul478_0 hcc478 hce478
   have HR478_0 := am hi478_0
   have HC478_0 := am hl478_0
   clear hi478_0 hl478_0
   replace p478 := eq_true p478
   replace q478 := eq_true q478
   refine start_ (n := 19) (S := fun w' => w'.cell? ⟨gb463, 0, none⟩ = some (.slice (some ad478) t455.length co8) ∧ w'.cell? ⟨gb463, 1, none⟩ = some (.slice Ao10 t458.length co10) ∧ w'.cell? (ad478.add ((t477).toNat * 2)) = some (.slice A478_0 ((rd_T37 t455 t477).f0).length c478_0) ∧ w'.cell? ⟨(ad478.add ((t477).toNat * 2)).block, (ad478.add ((t477).toNat * 2)).off + 1, none⟩ = some (.int .i64 ((rd_T37 t455 t477).f1))) (ds := []) (bt 19 0) (by kernel_rfl) rfl rfl ⟨(blk_cell BK463.out 0).trans rfl, (blk_cell BK463.out 1).trans rfl, hx478_0, hx478_1⟩ (fun hHeld => ?_); refine with_tabW laws_FnPutEver.tab8 laws_FnPutEver.bits8 (fun HT_ HW_ => ?_)
   generalize w72.drew = w73 at HO_6 HO_464000 HO_464001 BK463 HB HL478_0 HR478_0 hx478_0 hx478_1 hHeld ⊢
   refine qj 0 66 (bt 19 1) rfl rfl HT_.out ?_
   refine qm 1 67 (bt 19 3) rfl rfl HT_.out HW_.out hHeld ?_
   refine qo 2 (some 68) (bt 19 7) rfl rfl HT_.out fun K hK => ?_
   refine qg Try.func9 #[.slice (some ad478) t455.length co8] rfl rfl ?_
   with_reducible refine (impl_FindNext.calls _ _ t455 t476 _ ?side1 ?side2 A60.out).mono ?_
   (case side1 => exact pc ((Kd.V_reads' HO_464000.out).2.2))
   (case side2 => exact (Kd.V_reads' HO_464000.out).2.1)
   rintro e w74 ⟨rfl, hb⟩
   have HS2_ := (hb.cell (World.block_lt_of_cell? _ _ (hHeld.2.2.1))).trans (hHeld.2.2.1)
   have HS3_ := (hb.cell (World.block_lt_of_cell? _ _ (hHeld.2.2.2))).trans (hHeld.2.2.2)
   refine ⟨_, rfl, ?_⟩
   replace HL478_0 := am (Kd.V_below (pv HL478_0.out) hb)
   replace HR478_0 := am (Kd.C_below (pc HR478_0.out) hb)
   replace HO_6 := am (Kd.R_below (pr HO_6.out) hb)
   replace HO_464000 := am (Kd.V_below (pv HO_464000.out) hb)
   replace HO_464001 := am (Kd.Q_below (pq HO_464001.out) hb)
   replace BK463 := am (blk_below (pb BK463.out) hb)
   replace HB := am (below_step (bg1 HB.out GE463.out) hb)
   clear hb
   refine hK.out _ _ ⟨(blk_cell BK463.out 0).trans rfl, (blk_cell BK463.out 1).trans rfl, HS2_, HS3_⟩ (fun hHeld => ?_)
   clear hK K
   refine qn (some 68) ?_
   refine qj 3 69 (bt 19 15) rfl rfl HT_.out ?_
   refine qj 4 70 (bt 19 31) rfl rfl HT_.out ?_
   refine qj 5 71 (bt 19 63) rfl rfl HT_.out ?_
   refine qj 6 72 (bt 19 127) rfl rfl HT_.out ?_
   refine qj 7 73 (bt 19 255) rfl rfl HT_.out ?_
   refine qj 9 75 (bt 19 767) rfl rfl HT_.out ?_
   refine qm 8 74 (bt 19 1023) rfl rfl HT_.out HW_.out hHeld ?_
   refine qm 10 76 (bt 19 2047) rfl rfl HT_.out HW_.out hHeld ?_
   refine qo 11 (some 77) (bt 19 4095) rfl rfl HT_.out fun K hK => ?_
   refine qg Try.func10 #[.slice (some ad478) t455.length co8] rfl rfl ?_
   with_reducible refine (impl_FindOld.calls _ _ t455 t477 _ ?side1 ?side2 A68.out).mono ?_
   (case side1 => exact pc ((Kd.V_reads' HO_464000.out).2.2))
   (case side2 => exact (Kd.V_reads' HO_464000.out).2.1)
   rintro e w75 ⟨rfl, hb⟩
   have HS2_ := (hb.cell (World.block_lt_of_cell? _ _ (hHeld.2.2.1))).trans (hHeld.2.2.1)
   have HS3_ := (hb.cell (World.block_lt_of_cell? _ _ (hHeld.2.2.2))).trans (hHeld.2.2.2)
   refine ⟨_, rfl, ?_⟩
   replace HL478_0 := am (Kd.V_below (pv HL478_0.out) hb)
   replace HR478_0 := am (Kd.C_below (pc HR478_0.out) hb)
   replace HO_6 := am (Kd.R_below (pr HO_6.out) hb)
   replace HO_464000 := am (Kd.V_below (pv HO_464000.out) hb)
   replace HO_464001 := am (Kd.Q_below (pq HO_464001.out) hb)
   replace BK463 := am (blk_below (pb BK463.out) hb)
   replace HB := am (below_step (bg1 HB.out GE463.out) hb)
   clear hb
   refine hK.out _ _ ⟨(blk_cell BK463.out 0).trans rfl, (blk_cell BK463.out 1).trans rfl, HS2_, HS3_⟩ (fun hHeld => ?_)
   clear hK K
   refine qn (some 77) ?_
   refine qj 12 78 (bt 19 8191) rfl rfl HT_.out ?_
   refine qj 13 79 (bt 19 16383) rfl rfl HT_.out ?_
   refine qm 14 80 (bt 19 32767) rfl rfl HT_.out HW_.out hHeld ?_
   refine qj 15 81 (bt 19 65535) rfl rfl HT_.out ?_
   refine qj 16 82 (bt 19 131071) rfl rfl HT_.out ?_
   refine qj 17 83 (bt 19 262143) rfl rfl HT_.out ?_
   refine qj 18 9 (bt 19 524287) rfl rfl HT_.out ?_
   refine done_ (done_of HT_.out (by kernel_rfl)) ?_
   obtain ⟨Ao76, co76, eo76⟩ := Kd.R_slice HO_6.out
   subst eo76
   try go_wp2
   go_ret
   exact (rq (bg1 HB.out GE463.out))
def laws_FnPutEver.Pure : Prop := ∀ (l0 : List Int), l0.length ≤ maxLen → l0.length * 1 ≤ 140737488351232 → (∀ x ∈ l0, (Lit.int .u8 x).wf = true) → ∃ k, laws_FnPutEver.f k l0 = some true
theorem laws_FnPutEver.walk (P : laws_FnPutEver.Pure) (a0 : Option Addr) (len0 cap0 : Nat) (z0 : List Int) (w : World) (w0 : (a0 = none ∧ len0 = 0 ∧ cap0 = 0 ∧ z0 = []) ∨ ∃ x, a0 = some x ∧ len0 ≤ cap0 ∧ cap0 ≤ maxLen ∧ z0.length = cap0 ∧ (∀ i, i < z0.length → w.cell? (x.add i) = some (.int .u8 (z0.getD i 0))) ∧ ∀ n ∈ z0, (Lit.int .u8 n).wf = true) (y0 : len0 * 1 ≤ 140737488351232) :
 Calls Try.prog 3 #[.slice a0 len0 cap0] w fun e w' => e = .returned (.bool true) ∧ Below w.heap.size w w' := by
 obtain ⟨l0, rfl, hr0, hm0, hw0, hc0⟩ := ReadsInt.ofRowC w0
 obtain ⟨k, h⟩ := P l0 hm0 y0 hw0
 refine (laws_FnPutEver.calls k _ _ l0 true w (Kd.C_of_reads (d := (0 : Int)) (h1 := fun _ => rfl) hr0) hc0 h).mono ?_
 rintro e w' ⟨rfl, hd⟩
 exact ⟨rfl, hd⟩
end Go.Proofs.Ytgnklkcdajbkmaa.P1
