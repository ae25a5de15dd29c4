-- printed by wip/pp/pp.py
import Derived.Test.YtbhchamohldehaaP40
import Derived.Test.YtbhchamohldehaaP42
import Derived.Test.YtbhchamohldehaaP411
import Derived.Test.YtbhchamohldehaaP416
namespace Go.Proofs.Ytbhchamohldehaa.P4
set_option maxHeartbeats 8000000
set_option maxRecDepth 100000
open Go.RowKit Go.Proofs.YtbhchamohldehaaW.PrintWords Go.Proofs.YtbhchamohldehaaW.PrintLast Go.Proofs.YtbhchamohldehaaW.PrintMore
attribute [local go_sem] max2_int min2_int max_two min_two max_three min_three max_four min_four
set_option linter.unusedVariables false
set_option linter.unusedSimpArgs false
attribute [local go_sem high] eqA38
mutual
def laws_FnFlushSteps.j0 : Nat → Int → List (S38) → Int → Bool → List (S73) → List Int → Option (Bool)
 | 0, _, _, _, _, _, _ => none
 | k + 1, x4, x5, x6, x35, x503000, x503001 => if x35 = true then ((spec_StepsFlush.f k x503000 x503001 x4).bind fun t510 => (some (x6 == (t510.length : Int)))) else ((impl_StoreDirty.f x503000 x503001).bind fun t513 => (laws_FnFlushSteps.l0 k x4 x5 x6 false t513 0 x503000 x503001))
def laws_FnFlushSteps.l0 : Nat → Int → List (S38) → Int → Bool → List Int → Int → List (S73) → List Int → Option (Bool)
 | 0, _, _, _, _, _, _, _, _ => none
 | k + 1, x4, x5, x6, x7, x8, x9, x503000, x503001 => if x9 < (x8.length : Int) then (if x7 = true then (laws_FnFlushSteps.l0 k x4 x5 x6 true x8 (wrap64 (x9 + 1)) x503000 x503001) else (if 0 ≤ x9 then (laws_FnFlushSteps.l0 k x4 x5 x6 ((rd x8 x9) == x4) x8 (wrap64 (x9 + 1)) x503000 x503001) else (none))) else (if x6 = 0 then (if x7 = true then ((impl_StepsPut.f k x503000 x503001 x4 1).bind fun t517 => (some ((t517.length : Int) == 0))) else (some true)) else ((impl_StoreRead.f x503000 x503001 x4).bind fun t520 => (if 0 ≤ (wrap64 (x6 - 1)) then (if (wrap64 (x6 - 1)) < (x5.length : Int) then (if x7 = true then (if 0 < (x5.length : Int) then (if (((rd_T38 x5 0).f0) == 1 && (((rd_T38 x5 0).f1) == x4 && (((rd_T38 x5 0).f2) == t520 && (((rd_T38 x5 0).f3) == 0 && ((((rd_T38 x5 0).f4.f0) == 0 && (((rd_T38 x5 0).f4.f1) == 0 && (((rd_T38 x5 0).f4.f2) == 0 && (((rd_T38 x5 0).f4.f3) == 0))))))))) = true then (if ((rd_T38 x5 (wrap64 (x6 - 1))).f0) = 3 then (if ((rd_T38 x5 (wrap64 (x6 - 1))).f4.f0) = 2 then (if ((rd_T38 x5 (wrap64 (x6 - 1))).f4.f2) = x4 then (some (((rd_T38 x5 (wrap64 (x6 - 1))).f4.f3) == t520)) else (some false)) else (some false)) else (some false)) else (some false)) else (none)) else (some false)) else (none)) else (none))))
end
def laws_FnFlushSteps.f (k : Nat) (l0 : List Int) : Option (Bool) := if (l0.length : Int) > 1048576 then (some true) else ((spec_DrawStepsFlush.f k l0).bind fun bt495 => ((impl_StepsFlush.f k bt495.1 bt495.2.1 bt495.2.2).bind fun t503 => ((spec_StepsFlush.f k bt495.1 bt495.2.1 bt495.2.2).bind fun t506 => (if (t503.length : Int) = (t506.length : Int) then ((spec_StoreOk.f k bt495.1 bt495.2.1).bind fun t509 => (laws_FnFlushSteps.j0 k bt495.2.2 t503 (t503.length : Int) (!t509) bt495.1 bt495.2.1)) else (laws_FnFlushSteps.j0 k bt495.2.2 t503 (t503.length : Int) true bt495.1 bt495.2.1)))))
theorem laws_FnFlushSteps.calls (k : Nat) (A0 : Option Addr) (c0 : Nat) (l0 : List Int) (r : Bool) (HRT : Aside0 (r = true)) (w : World) (hr0 : Kd.C (Kd.int .u8) w A0 l0.length l0) (hc0 : l0.length ≤ c0) (h : laws_FnFlushSteps.f k l0 = some r) :
 Calls Try.prog 3 #[.slice A0 l0.length c0] w fun e w' => e = .returned (.bool r) ∧ Below w.heap.size w w' := by
 have hu26 := Try.underlying26
 have hu38 := Try.underlying38
 have HR0 := am hr0
 have HC0 := am hc0
 clear hr0 hc0
 have HB := am (Below.refl w.heap.size w)
 have H : (if (l0.length : Int) > 1048576 then (some true) else ((spec_DrawStepsFlush.f k l0).bind fun bt495 => ((impl_StepsFlush.f k bt495.1 bt495.2.1 bt495.2.2).bind fun t503 => ((spec_StepsFlush.f k bt495.1 bt495.2.1 bt495.2.2).bind fun t506 => (if (t503.length : Int) = (t506.length : Int) then ((spec_StoreOk.f k bt495.1 bt495.2.1).bind fun t509 => (laws_FnFlushSteps.j0 k bt495.2.2 t503 (t503.length : Int) (!t509) bt495.1 bt495.2.1)) else (laws_FnFlushSteps.j0 k bt495.2.2 t503 (t503.length : Int) true bt495.1 bt495.2.1)))))) = some r := h
 clear h
 by_cases c2 : (l0.length : Int) > 1048576
 · rw [if_pos c2] at H
   have c2b0 := decide_eq_true c2
   have c2b1 : decide (1048576 < l0.length) = true := decide_eq_true (by omega)
   clear c2
   obtain rfl := Option.some.inj H
   go_enter Try.func3, Try.ntmps3
   go_wp2
   go_ret
   exact (rq (ph HB.out))
 rw [if_neg c2] at H
 have c2b0 := decide_eq_false c2
 have c2b1 : decide (1048576 < l0.length) = false := decide_eq_false (by omega)
 clear c2
 replace H := Option.bind_eq_some_iff.mp H
 obtain ⟨⟨t495, t498, t501⟩, A30, H⟩ := H
 have A3 := am A30
 clear A30
 replace H := Option.bind_eq_some_iff.mp H
 obtain ⟨t503, A40, H⟩ := H
 have A4 := am A40
 clear A40
 have HC5 := am H
 clear H
 go_enter Try.func3, Try.ntmps3
 go_upto_region 6 with (first | (go_at_call 4; (with_reducible refine (spec_DrawStepsFlush.calls k _ _ l0 t495 t498 t501 _ ?side1 ?side2 A3.out).mono ?_); (case side1 => exact pc HR0.out); (case side2 => exact HC0.out); rintro e w6 ⟨v496, v499, rfl, ho0, ho1, hb⟩; have HO497 := am (Kd.V_lower (Kd.V_mono (ok' := fun k_ => some k_ ≠ (v499 : Value).ownBlock) ho0 (fun k_ hk_ => hk_.2)) (below_size (ph HB.out))); have HO500 := am (Kd.Q_lower (Kd.Q_mono (ok' := fun k_ => True) ho1 (fun _ hk_ => trivial)) (below_size (ph HB.out))); replace HB := am (below_step (ph HB.out) hb); clear hb ho0 ho1) | ((with_reducible refine gate_dst (N := 3) rfl ?_); (try (refine gate_guard (by rfl) ?_; dsimp only)); refine box_event ?hg (N := 3) ?hd (cs := #[.slice none 0 0, .slice none 0 0]) (t := 26) ?hr ?_; (case hd => rfl); (case hg => rfl); (case hr => first | (go_simp; done) | (go_simp; rfl)); intro gb502 hg w7 hbox hb; replace HO497 := am (Kd.V_below (Kd.V_elderB (pv HO497.out) gb502 (Nat.le_of_eq hg.symm)) hb); replace HO500 := am (Kd.Q_below (pq HO500.out) hb); have BK502 := am (hbox); have GW502 := am (ge hg (ph HB.out)); have GE502 := GW502; replace HB := am (below_step (ph HB.out) hb); clear hb hbox hg; obtain ⟨Ao8, co8, eo8⟩ := Kd.V_slice HO497.out; subst eo8; obtain ⟨hcz9_0, hcz9_1⟩ := b2 BK502.out; obtain ⟨hfz9_0, hfz9_1⟩ := f2 BK502.out; obtain ⟨Ao10, co10, eo10, _⟩ := Kd.Q_slice HO500.out; subst eo10) | (go_at_call 5; (with_reducible refine (impl_StepsFlush.calls k _ _ t495 _ _ t498 t501 t503 _ ?side1 ?side2 ?side3 ?side4 A4.out).mono ?_); (case side1 => refine (Kd.V_reads' (e := 73) (base := w.heap.size) (ok := fun k_ => (some k_ ≠ (.slice Ao10 t498.length co10 : Value).ownBlock ∧ k_ ≠ gb502)) (n := t495.length) (c := co8) ?_).2.2; exact (pv ((Kd.V_mono (Kd.V_far (p := ⟨gb502, 1, none⟩) (Kd.V_far (p := ⟨gb502, 0, none⟩) (Kd.V_mono HO497.out (fun k_ hk => (⟨hk, hk.2⟩ : _ ∧ k_ ≠ gb502))) (fun _ hk => hk.2) (.slice Ao8 t495.length co8)) (fun _ hk => hk.2) (.slice Ao10 t498.length co10)) (fun _ h_ => h_.1))))); (case side2 => exact (Kd.V_reads' HO497.out).2.1); (case side3 => refine (Kd.Q_reads' (e := 3) (base := w.heap.size) (ok := fun k_ => True) (n := t498.length) (c := co10) ?_).2.2; exact (pq ((Kd.Q_mono (Kd.Q_far (p := ⟨gb502, 1, none⟩) (Kd.Q_far (p := ⟨gb502, 0, none⟩) (Kd.Q_types HO500.out BK502.out (by decide)) (fun _ hk => hk.2) (.slice Ao8 t495.length co8)) (fun _ hk => hk.2) (.slice Ao10 t498.length co10)) (fun _ h_ => h_.1))))); (case side4 => exact (Kd.Q_reads' HO500.out).2.1); rintro e w11 ⟨v504, rfl, ho0, hb⟩; replace HO497 := am (Kd.V_elder' (pv ((Kd.V_mono (Kd.V_far (p := ⟨gb502, 1, none⟩) (Kd.V_far (p := ⟨gb502, 0, none⟩) (Kd.V_mono HO497.out (fun k_ hk => (⟨hk, hk.2⟩ : _ ∧ k_ ≠ gb502))) (fun _ hk => hk.2) (.slice Ao8 t495.length co8)) (fun _ hk => hk.2) (.slice Ao10 t498.length co10)) (fun _ h_ => h_.1)))) (Kd.R_base ho0) hb); replace HO500 := am (Kd.Q_below (pq ((Kd.Q_mono (Kd.Q_far (p := ⟨gb502, 1, none⟩) (Kd.Q_far (p := ⟨gb502, 0, none⟩) (Kd.Q_types HO500.out BK502.out (by decide)) (fun _ hk => hk.2) (.slice Ao8 t495.length co8)) (fun _ hk => hk.2) (.slice Ao10 t498.length co10)) (fun _ h_ => h_.1)))) hb); have HO505 := am (Kd.R_lower ho0 (below_size (bg1 HB.out GE502.out))); replace BK502 := am (blk_below (bp2 (pb BK502.out)) hb); replace HB := am (below_step (bg1 HB.out GE502.out) hb); clear hb ho0; obtain ⟨Ao12, co12, eo12⟩ := Kd.R_slice HO505.out; subst eo12))
 (try simp only [Act.put, List.setIfInBounds_toArray, List.set_cons_zero, List.set_cons_succ])
 go_cut [35] (fun v35 wc => ∃ (kq : Nat) (x35_4 : Bool), v35 = .bool x35_4 ∧ Aside0 (laws_FnFlushSteps.j0 kq t501 t503 (t503.length : Int) x35_4 t495 t498 = some r) ∧ Aside0 (kq ≤ k) ∧ Aside0 (Kd.R k38 38 wc w.heap.size (fun _ => True) (.slice Ao12 t503.length co12) t503) ∧ Aside0 (Kd.V k73 73 wc w.heap.size (fun k_ => some k_ ≠ ((.slice Ao12 t503.length co12) : Value).ownBlock ∧ some k_ ≠ ((.slice Ao10 t498.length co10) : Value).ownBlock ∧ k_ ≠ gb502) (.slice Ao8 t495.length co8) t495) ∧ Aside0 (Kd.Q (Kd.int .i64) 3 wc w.heap.size (fun _ => True) (.slice Ao10 t498.length co10) t498) ∧ Aside0 (wc.heap[gb502]? = some (.cells #[(.slice Ao8 t495.length co8), (.slice Ao10 t498.length co10)] 26 (0, 0))) ∧ Aside0 (Below w.heap.size w wc))
 case first =>
  have H := HC5.out
  clear HC5
  replace H := Option.bind_eq_some_iff.mp H
  obtain ⟨t506, A130, H⟩ := H
  have A13 := am A130
  clear A130
  by_cases c14 : (t503.length : Int) = (t506.length : Int)
  rotate_left
  · rw [if_neg c14] at H
    have c14b0 : ((t503.length : Int) == (t506.length : Int)) = false := beq_eq_false_iff_ne.mpr c14
    have c14b1 : ((t503.length : Int) != (t506.length : Int)) = true := bne_iff_ne.mpr c14
    have c14b2 : (t503.length == t506.length) = false := by first | simpa using c14 | (simp at c14 ⊢; omega)
    (first | rw [c14b0] | (simp only [i64_w, i32_w]; rw [c14b0]) | skip)
    have H' := am H
    clear H
    obtain ⟨hcz21_0, hcz21_1⟩ := b2 BK502.out
    obtain ⟨hfz21_0, hfz21_1⟩ := f2 BK502.out
    go_wp2_with (first | (go_at_call 6; (with_reducible refine (spec_StepsFlush.calls k _ _ t495 _ _ t498 t501 t506 _ ?side1 ?side2 ?side3 ?side4 A13.out).mono ?_); (case side1 => exact pc ((Kd.V_reads' HO497.out).2.2)); (case side2 => exact (Kd.V_reads' HO497.out).2.1); (case side3 => exact pc ((Kd.Q_reads' HO500.out).2.2)); (case side4 => exact (Kd.Q_reads' HO500.out).2.1); rintro e w22 ⟨v507, rfl, ho0, hb⟩; replace HO497 := am (Kd.V_elder' (pv HO497.out) (Kd.R_base ho0) hb); replace HO500 := am (Kd.Q_below (pq HO500.out) hb); have HO508 := am (Kd.R_lower (Kd.R_new' ho0 (Kd.R_lt (pr HO505.out))) (below_size (bg1 HB.out GE502.out))); replace HO505 := am (Kd.R_elder' (pr HO505.out) (Kd.R_base ho0) hb); replace BK502 := am (blk_below (pb BK502.out) hb); replace HB := am (below_step (bg1 HB.out GE502.out) hb); clear hb ho0; obtain ⟨Ao23, co23, eo23⟩ := Kd.R_slice HO508.out; subst eo23))
    go_meet
    case rel => exact ⟨_, (true), rf, H', ⟨by first | omega | exact Nat.le_refl _⟩, ⟨pr (Kd.R_mono HO505.out (fun _ hk => trivial))⟩, ⟨pv (Kd.V_mono HO497.out (fun _ hk => ⟨hk.1.2, ⟨hk.1.1.1, hk.1.1.2⟩⟩))⟩, ⟨pq HO500.out⟩, ⟨pb BK502.out⟩, ⟨bg1 HB.out GE502.out⟩⟩
  rw [if_pos c14] at H
  have c14b0 : ((t503.length : Int) == (t506.length : Int)) = true := beq_iff_eq.mpr c14
  have c14b1 : ((t503.length : Int) != (t506.length : Int)) = false := bne_eq_false_iff_eq.mpr c14
  have c14b2 : (t503.length == t506.length) = true := by first | simpa using c14 | (simp at c14 ⊢; omega)
  clear c14
  (first | rw [c14b0] | (simp only [i64_w, i32_w]; rw [c14b0]) | skip)
  replace H := Option.bind_eq_some_iff.mp H
  obtain ⟨t509, A150, H⟩ := H
  have A15 := am A150
  clear A150
  have H' := am H
  clear H
  obtain ⟨hcz16_0, hcz16_1⟩ := b2 BK502.out
  obtain ⟨hfz16_0, hfz16_1⟩ := f2 BK502.out
  go_wp2_with (first | (go_at_call 6; (with_reducible refine (spec_StepsFlush.calls k _ _ t495 _ _ t498 t501 t506 _ ?side1 ?side2 ?side3 ?side4 A13.out).mono ?_); (case side1 => exact pc ((Kd.V_reads' HO497.out).2.2)); (case side2 => exact (Kd.V_reads' HO497.out).2.1); (case side3 => exact pc ((Kd.Q_reads' HO500.out).2.2)); (case side4 => exact (Kd.Q_reads' HO500.out).2.1); rintro e w17 ⟨v507, rfl, ho0, hb⟩; replace HO497 := am (Kd.V_elder' (pv HO497.out) (Kd.R_base ho0) hb); replace HO500 := am (Kd.Q_below (pq HO500.out) hb); have HO508 := am (Kd.R_lower (Kd.R_new' ho0 (Kd.R_lt (pr HO505.out))) (below_size (bg1 HB.out GE502.out))); replace HO505 := am (Kd.R_elder' (pr HO505.out) (Kd.R_base ho0) hb); replace BK502 := am (blk_below (pb BK502.out) hb); replace HB := am (below_step (bg1 HB.out GE502.out) hb); clear hb ho0; obtain ⟨Ao18, co18, eo18⟩ := Kd.R_slice HO508.out; subst eo18; obtain ⟨hcz19_0, hcz19_1⟩ := b2 BK502.out; obtain ⟨hfz19_0, hfz19_1⟩ := f2 BK502.out) | (go_at_call 7; (with_reducible refine (spec_StoreOk.calls k _ _ t495 _ _ t498 t509 _ ?side1 ?side2 ?side3 ?side4 A15.out).mono ?_); (case side1 => exact pc ((Kd.V_reads' HO497.out).2.2)); (case side2 => exact (Kd.V_reads' HO497.out).2.1); (case side3 => exact pc ((Kd.Q_reads' HO500.out).2.2)); (case side4 => exact (Kd.Q_reads' HO500.out).2.1); rintro e w20 ⟨rfl, hb⟩; replace HO497 := am (Kd.V_below (pv HO497.out) hb); replace HO500 := am (Kd.Q_below (pq HO500.out) hb); replace HO505 := am (Kd.R_below (pr HO505.out) hb); replace HO508 := am (Kd.R_below (pr HO508.out) hb); replace BK502 := am (blk_below (pb BK502.out) hb); replace HB := am (below_step (bg1 HB.out GE502.out) hb); clear hb))
  go_meet
  case rel => exact ⟨_, (!t509), rf, H', ⟨by first | omega | exact Nat.le_refl _⟩, ⟨pr (Kd.R_mono HO505.out (fun _ hk => trivial))⟩, ⟨pv (Kd.V_mono HO497.out (fun _ hk => ⟨hk.1.2, ⟨hk.1.1.1, hk.1.1.2⟩⟩))⟩, ⟨pq HO500.out⟩, ⟨pb BK502.out⟩, ⟨bg1 HB.out GE502.out⟩⟩
 case rest =>
  clear HC5
  obtain ⟨kq, x35_4, rfl, HA, HJ4, HO_5, HO_503000, HO_503001, BK502, HB⟩ := hcut
  cases kq with
  | zero => exact absurd HA.out (by simp [laws_FnFlushSteps.j0])
  | succ kj4 =>
   have H := HA.out
   clear HA
   simp only [laws_FnFlushSteps.j0] at H
   by_cases c24 : x35_4 = true
   · subst c24
     rw [if_pos rfl] at H
     replace H := Option.bind_eq_some_iff.mp H
     obtain ⟨t510, A250, H⟩ := H
     have A25 := am A250
     clear A250
     obtain rfl := Option.some.inj H
     obtain ⟨hcz26_0, hcz26_1⟩ := b2 BK502.out
     obtain ⟨hfz26_0, hfz26_1⟩ := f2 BK502.out
     go_wp2_with (first | (go_at_call 6; (with_reducible refine (spec_StepsFlush.calls kj4 _ _ t495 _ _ t498 t501 t510 _ ?side1 ?side2 ?side3 ?side4 A25.out).mono ?_); (case side1 => exact pc ((Kd.V_reads' HO_503000.out).2.2)); (case side2 => exact (Kd.V_reads' HO_503000.out).2.1); (case side3 => exact pc ((Kd.Q_reads' HO_503001.out).2.2)); (case side4 => exact (Kd.Q_reads' HO_503001.out).2.1); rintro e w27 ⟨v511, rfl, ho0, hb⟩; replace HO_503000 := am (Kd.V_elder' (pv HO_503000.out) (Kd.R_base ho0) hb); replace HO_503001 := am (Kd.Q_below (pq HO_503001.out) hb); have HO512 := am (Kd.R_lower (Kd.R_new' ho0 (Kd.R_lt (pr HO_5.out))) (below_size (bg1 HB.out GE502.out))); replace HO_5 := am (Kd.R_elder' (pr HO_5.out) (Kd.R_base ho0) hb); replace BK502 := am (blk_below (pb BK502.out) hb); replace HB := am (below_step (bg1 HB.out GE502.out) hb); clear hb ho0; obtain ⟨Ao28, co28, eo28⟩ := Kd.R_slice HO512.out; subst eo28))
     go_ret
     exact (rq (bg1 HB.out GE502.out))
   replace c24 := Bool.eq_false_iff.mpr c24
   subst c24
   rw [if_neg (show ¬ (false = true) by decide)] at H
   replace H := Option.bind_eq_some_iff.mp H
   obtain ⟨t513, A290, H⟩ := H
   have A29 := am A290
   clear A290
   have H' := am H
   clear H
   obtain ⟨hcz30_0, hcz30_1⟩ := b2 BK502.out
   obtain ⟨hfz30_0, hfz30_1⟩ := f2 BK502.out
   go_wp2_with (first | (go_at_call 8; (with_reducible refine (impl_StoreDirty.calls _ _ t495 _ _ t498 t513 _ ?side1 ?side2 ?side3 ?side4 A29.out).mono ?_); (case side1 => exact pc ((Kd.V_reads' HO_503000.out).2.2)); (case side2 => exact (Kd.V_reads' HO_503000.out).2.1); (case side3 => exact pc ((Kd.Q_reads' HO_503001.out).2.2)); (case side4 => exact (Kd.Q_reads' HO_503001.out).2.1); rintro e w31 ⟨v514, rfl, ho0, hb⟩; replace HO_5 := am (Kd.R_below (pr HO_5.out) hb); replace HO_503000 := am (Kd.V_elder' (pv HO_503000.out) (Kd.R_base ho0) hb); have HO515 := am (Kd.R_lower (Kd.R_new' ho0 (Kd.Q_lt (pq HO_503001.out))) (below_size (bg1 HB.out GE502.out))); replace HO_503001 := am (Kd.Q_elder' (pq HO_503001.out) (Kd.R_base ho0) hb); replace BK502 := am (blk_below (pb BK502.out) hb); replace HB := am (below_step (bg1 HB.out GE502.out) hb); clear hb ho0))
   go_loopg [7, 9] kj4 (fun kq v7 v9 w' => ∃ (x7_2 : Bool) (x9_2 : Int), v7 = .bool x7_2 ∧ v9 = .int .i64 x9_2 ∧ Aside0 (laws_FnFlushSteps.l0 kq t501 t503 (t503.length : Int) x7_2 t513 x9_2 t495 t498 = some r) ∧ Aside0 (kq ≤ kj4) ∧ Aside0 (Kd.R k38 38 w' w.heap.size (fun _ => True) (.slice Ao12 t503.length co12) t503) ∧ Aside0 (Kd.R (Kd.int .i64) 3 w' w.heap.size (fun k_ => some k_ ≠ ((.slice Ao10 t498.length co10) : Value).ownBlock) v514 t513) ∧ Aside0 (Kd.V k73 73 w' w.heap.size (fun k_ => some k_ ≠ ((.slice Ao12 t503.length co12) : Value).ownBlock ∧ some k_ ≠ (v514 : Value).ownBlock ∧ some k_ ≠ ((.slice Ao10 t498.length co10) : Value).ownBlock ∧ k_ ≠ gb502) (.slice Ao8 t495.length co8) t495) ∧ Aside0 (Kd.Q (Kd.int .i64) 3 w' w.heap.size (fun k_ => some k_ ≠ (v514 : Value).ownBlock) (.slice Ao10 t498.length co10) t498) ∧ Aside0 (w'.heap[gb502]? = some (.cells #[(.slice Ao8 t495.length co8), (.slice Ao10 t498.length co10)] 26 (0, 0))) ∧ Aside0 (Below w.heap.size w w'))
   case atStart => exact ⟨(false), (0), rf, rf, H', ⟨Nat.le_refl _⟩, ⟨pr HO_5.out⟩, ⟨pr (Kd.R_mono HO515.out (fun _ hk => hk.2))⟩, ⟨pv (Kd.V_mono HO_503000.out (fun _ hk => ⟨hk.1.1, ⟨hk.2, ⟨hk.1.2.1, hk.1.2.2⟩⟩⟩))⟩, ⟨pq (Kd.Q_mono HO_503001.out (fun _ hk => hk.2))⟩, ⟨pb BK502.out⟩, ⟨bg1 HB.out GE502.out⟩⟩
   case round =>
    clear H'
    obtain ⟨x7_2, x9_2, rfl, rfl, HA, HK2, HO_5, HO_8, HO_503000, HO_503001, BK502, HB⟩ := hrel
    cases gk with
    | zero => exact absurd HA.out (by simp [laws_FnFlushSteps.l0])
    | succ k2 =>
     have H := HA.out
     clear HA
     simp only [laws_FnFlushSteps.l0] at H
     by_cases c32 : x9_2 < (t513.length : Int)
     · rw [if_pos c32] at H
       have c32b0 := decide_eq_true c32
       clear c32
       by_cases c33 : x7_2 = true
       · subst c33
         rw [if_pos rfl] at H
         have H' := am H
         clear H
         obtain ⟨Ao34, co34, eo34⟩ := Kd.R_slice HO_8.out
         subst eo34
         go_wp2
         go_roundg k2
         case measure => have := HJ4.out; have := HK2.out; omega
         case rel => exact ⟨(true), (wrap64 (x9_2 + 1)), rf, rf, H', ⟨by have := HJ4.out; have := HK2.out; omega⟩, ⟨pr HO_5.out⟩, ⟨pr HO_8.out⟩, ⟨pv HO_503000.out⟩, ⟨pq HO_503001.out⟩, ⟨pb BK502.out⟩, ⟨bg1 HB.out GE502.out⟩⟩
       replace c33 := Bool.eq_false_iff.mpr c33
       subst c33
       rw [if_neg (show ¬ (false = true) by decide)] at H
       obtain ⟨c35b0, H⟩ := ifd H
       have H' := am H
       clear H
       obtain ⟨Ao36, co36, eo36⟩ := Kd.R_slice HO_8.out
       subst eo36
       have p516 : 0 ≤ (x9_2 : Int) := ofb
       have q516 : x9_2 < (t513.length : Int) := ofb
       obtain ⟨ad516, e516, hx516_0⟩ := Kd.at_int (Kd.R_reads' HO_8.out).2.2 x9_2 p516 q516
       cases e516
       replace p516 := eq_true p516
       replace q516 := eq_true q516
       go_wp2
       go_roundg k2
       case measure => have := HJ4.out; have := HK2.out; omega
       case rel => exact ⟨(((rd t513 x9_2) == t501)), (wrap64 (x9_2 + 1)), rf, rf, H', ⟨by have := HJ4.out; have := HK2.out; omega⟩, ⟨pr HO_5.out⟩, ⟨pr HO_8.out⟩, ⟨pv HO_503000.out⟩, ⟨pq HO_503001.out⟩, ⟨pb BK502.out⟩, ⟨bg1 HB.out GE502.out⟩⟩
     rw [if_neg c32] at H
     have c32b0 := decide_eq_false c32
     clear c32
     by_cases c37 : (t503.length : Int) = 0
     · rw [if_pos c37] at H
       have c37b0 : ((t503.length : Int) == 0) = true := beq_iff_eq.mpr c37
       have c37b1 : ((t503.length : Int) != 0) = false := bne_eq_false_iff_eq.mpr c37
       clear c37
       by_cases c38 : x7_2 = true
       rotate_left
       · replace c38 := Bool.eq_false_iff.mpr c38
         subst c38
         rw [if_neg (show ¬ (false = true) by decide)] at H
         obtain rfl := Option.some.inj H
         obtain ⟨Ao44, co44, eo44⟩ := Kd.R_slice HO_8.out
         subst eo44
         go_wp2
         go_ret
         exact (rq (bg1 HB.out GE502.out))
       subst c38
       rw [if_pos rfl] at H
       replace H := Option.bind_eq_some_iff.mp H
       obtain ⟨t517, A390, H⟩ := H
       have A39 := am A390
       clear A390
       obtain rfl := Option.some.inj H
       obtain ⟨Ao40, co40, eo40⟩ := Kd.R_slice HO_8.out
       subst eo40
       obtain ⟨hcz41_0, hcz41_1⟩ := b2 BK502.out
       obtain ⟨hfz41_0, hfz41_1⟩ := f2 BK502.out
       go_wp2_with (first | (go_at_call 9; (with_reducible refine (impl_StepsPut.calls k2 _ _ t495 _ _ t498 t501 1 t517 _ ?side1 ?side2 ?side3 ?side4 A39.out).mono ?_); (case side1 => exact pc ((Kd.V_reads' HO_503000.out).2.2)); (case side2 => exact (Kd.V_reads' HO_503000.out).2.1); (case side3 => exact pc ((Kd.Q_reads' HO_503001.out).2.2)); (case side4 => exact (Kd.Q_reads' HO_503001.out).2.1); rintro e w42 ⟨v518, rfl, ho0, hb⟩; replace HO_8 := am (Kd.R_below (pr HO_8.out) hb); replace HO_503000 := am (Kd.V_elder' (pv HO_503000.out) (Kd.R_base ho0) hb); replace HO_503001 := am (Kd.Q_below (pq HO_503001.out) hb); have HO519 := am (Kd.R_lower (Kd.R_new' ho0 (Kd.R_lt (pr HO_5.out))) (below_size (bg1 HB.out GE502.out))); replace HO_5 := am (Kd.R_elder' (pr HO_5.out) (Kd.R_base ho0) hb); replace BK502 := am (blk_below (pb BK502.out) hb); replace HB := am (below_step (bg1 HB.out GE502.out) hb); clear hb ho0; obtain ⟨Ao43, co43, eo43⟩ := Kd.R_slice HO519.out; subst eo43))
       go_ret
       exact (rq (bg1 HB.out GE502.out))
     rw [if_neg c37] at H
     have c37b0 : ((t503.length : Int) == 0) = false := beq_eq_false_iff_ne.mpr c37
     have c37b1 : ((t503.length : Int) != 0) = true := bne_iff_ne.mpr c37
     have c37b2 : ¬ (t503 = []) := fun h_ => c37 (by rw [h_]; rfl)
     replace H := Option.bind_eq_some_iff.mp H
     obtain ⟨t520, A450, H⟩ := H
     have A45 := am A450
     clear A450
     obtain ⟨ji46, hji46⟩ : ∃ j_ : Int, (wrap64 ((t503.length : Int) - 1)) = j_ := ⟨_, rfl⟩
     replace H : (if 0 ≤ (ji46) then (if (ji46) < (t503.length : Int) then (if x7_2 = true then (if 0 < (t503.length : Int) then (if (((rd_T38 t503 0).f0) == 1 && (((rd_T38 t503 0).f1) == t501 && (((rd_T38 t503 0).f2) == t520 && (((rd_T38 t503 0).f3) == 0 && ((((rd_T38 t503 0).f4.f0) == 0 && (((rd_T38 t503 0).f4.f1) == 0 && (((rd_T38 t503 0).f4.f2) == 0 && (((rd_T38 t503 0).f4.f3) == 0))))))))) = true then (if ((rd_T38 t503 (ji46)).f0) = 3 then (if ((rd_T38 t503 (ji46)).f4.f0) = 2 then (if ((rd_T38 t503 (ji46)).f4.f2) = t501 then (some (((rd_T38 t503 (ji46)).f4.f3) == t520)) else (some false)) else (some false)) else (some false)) else (some false)) else (none)) else (some false)) else (none)) else (none)) = some r := by first | (rw [hji46] at H; exact H) | (simp only [hji46] at H ⊢; exact H)
     (try rw [hji46] at A45)
     have hji46w : (IntKind.i64.wrap ((t503.length : Int) - 1)) = ji46 := (i64_w _).trans hji46
     obtain ⟨c47b0, H⟩ := ifd H
     obtain ⟨c48b0, H⟩ := ifd H
     by_cases c49 : x7_2 = true
     rotate_left
     · replace c49 := Bool.eq_false_iff.mpr c49
       subst c49
       rw [if_neg (show ¬ (false = true) by decide)] at H
       cases H
       exact absurd HRT.out (by decide)
     subst c49
     rw [if_pos rfl] at H
     by_cases c50 : 0 < (t503.length : Int)
     rotate_left
     · rw [if_neg c50] at H
       exact absurd H (by simp)
     rw [if_pos c50] at H
     have c50b0 := decide_eq_true c50
     have c50b1 : decide (0 < t503.length) = true := decide_eq_true (by omega)
     clear c50
     by_cases c51 : (((rd_T38 t503 0).f0) == 1 && (((rd_T38 t503 0).f1) == t501 && (((rd_T38 t503 0).f2) == t520 && (((rd_T38 t503 0).f3) == 0 && ((((rd_T38 t503 0).f4.f0) == 0 && (((rd_T38 t503 0).f4.f1) == 0 && (((rd_T38 t503 0).f4.f2) == 0 && (((rd_T38 t503 0).f4.f3) == 0))))))))) = true
     rotate_left
     · rw [if_neg c51] at H
       have c51b0 : (((rd_T38 t503 0).f0) == 1 && (((rd_T38 t503 0).f1) == t501 && (((rd_T38 t503 0).f2) == t520 && (((rd_T38 t503 0).f3) == 0 && ((((rd_T38 t503 0).f4.f0) == 0 && (((rd_T38 t503 0).f4.f1) == 0 && (((rd_T38 t503 0).f4.f2) == 0 && (((rd_T38 t503 0).f4.f3) == 0))))))))) = false := by simpa using c51
       (try (have c51b1 : decide (((rd_T38 t503 0).f0) = 1 && (((rd_T38 t503 0).f1) == t501 && (((rd_T38 t503 0).f2) == t520 && (((rd_T38 t503 0).f3) == 0 && ((((rd_T38 t503 0).f4.f0) == 0 && (((rd_T38 t503 0).f4.f1) == 0 && (((rd_T38 t503 0).f4.f2) == 0 && (((rd_T38 t503 0).f4.f3) == 0))))))))) = false := by simpa using c51))
       (try (have c51b2 : (((rd_T38 t503 0).f0) == 1 && (((rd_T38 t503 0).f1) == t501 && (((rd_T38 t503 0).f2) == t520 && (((rd_T38 t503 0).f3) == 0 && ((((rd_T38 t503 0).f4.f0) == 0 && (((rd_T38 t503 0).f4.f1) == 0 && (((rd_T38 t503 0).f4.f2) == 0 && (((rd_T38 t503 0).f4.f3) == 0))))))))) = false := by simpa using c51))
       (try (have c51b3 : ¬ (((rd_T38 t503 0).f0) = 1 && (((rd_T38 t503 0).f1) == t501 && (((rd_T38 t503 0).f2) == t520 && (((rd_T38 t503 0).f3) == 0 && ((((rd_T38 t503 0).f4.f0) == 0 && (((rd_T38 t503 0).f4.f1) == 0 && (((rd_T38 t503 0).f4.f2) == 0 && (((rd_T38 t503 0).f4.f3) == 0))))))))) := by simpa using c51))
       clear c51
       cases H
       exact absurd HRT.out (by decide)
     rw [if_pos c51] at H
     have c51b0 : (((rd_T38 t503 0).f0) == 1 && (((rd_T38 t503 0).f1) == t501 && (((rd_T38 t503 0).f2) == t520 && (((rd_T38 t503 0).f3) == 0 && ((((rd_T38 t503 0).f4.f0) == 0 && (((rd_T38 t503 0).f4.f1) == 0 && (((rd_T38 t503 0).f4.f2) == 0 && (((rd_T38 t503 0).f4.f3) == 0))))))))) = true := c51
     (try (have c51b1 : decide (((rd_T38 t503 0).f0) = 1 && (((rd_T38 t503 0).f1) == t501 && (((rd_T38 t503 0).f2) == t520 && (((rd_T38 t503 0).f3) == 0 && ((((rd_T38 t503 0).f4.f0) == 0 && (((rd_T38 t503 0).f4.f1) == 0 && (((rd_T38 t503 0).f4.f2) == 0 && (((rd_T38 t503 0).f4.f3) == 0))))))))) = true := by simpa using c51))
     (try (have c51b2 : (((rd_T38 t503 0).f0) == 1 && (((rd_T38 t503 0).f1) == t501 && (((rd_T38 t503 0).f2) == t520 && (((rd_T38 t503 0).f3) == 0 && ((((rd_T38 t503 0).f4.f0) == 0 && (((rd_T38 t503 0).f4.f1) == 0 && (((rd_T38 t503 0).f4.f2) == 0 && (((rd_T38 t503 0).f4.f3) == 0))))))))) = true := by simpa using c51))
     clear c51
     by_cases c52 : ((rd_T38 t503 (ji46)).f0) = 3
     rotate_left
     · rw [if_neg c52] at H
       have c52b0 : (((rd_T38 t503 (ji46)).f0) == 3) = false := beq_eq_false_iff_ne.mpr c52
       have c52b1 : (((rd_T38 t503 (ji46)).f0) != 3) = true := bne_iff_ne.mpr c52
       cases H
       exact absurd HRT.out (by decide)
     rw [if_pos c52] at H
     have c52b0 : (((rd_T38 t503 (ji46)).f0) == 3) = true := beq_iff_eq.mpr c52
     have c52b1 : (((rd_T38 t503 (ji46)).f0) != 3) = false := bne_eq_false_iff_eq.mpr c52
     clear c52
     by_cases c53 : ((rd_T38 t503 (ji46)).f4.f0) = 2
     rotate_left
     · rw [if_neg c53] at H
       have c53b0 : (((rd_T38 t503 (ji46)).f4.f0) == 2) = false := beq_eq_false_iff_ne.mpr c53
       have c53b1 : (((rd_T38 t503 (ji46)).f4.f0) != 2) = true := bne_iff_ne.mpr c53
       cases H
       exact absurd HRT.out (by decide)
     rw [if_pos c53] at H
     have c53b0 : (((rd_T38 t503 (ji46)).f4.f0) == 2) = true := beq_iff_eq.mpr c53
     have c53b1 : (((rd_T38 t503 (ji46)).f4.f0) != 2) = false := bne_eq_false_iff_eq.mpr c53
     clear c53
     by_cases c54 : ((rd_T38 t503 (ji46)).f4.f2) = t501
     rotate_left
     · rw [if_neg c54] at H
       have c54b0 : (((rd_T38 t503 (ji46)).f4.f2) == t501) = false := beq_eq_false_iff_ne.mpr c54
       have c54b1 : (((rd_T38 t503 (ji46)).f4.f2) != t501) = true := bne_iff_ne.mpr c54
       cases H
       exact absurd HRT.out (by decide)
     rw [if_pos c54] at H
     have c54b0 : (((rd_T38 t503 (ji46)).f4.f2) == t501) = true := beq_iff_eq.mpr c54
     have c54b1 : (((rd_T38 t503 (ji46)).f4.f2) != t501) = false := bne_eq_false_iff_eq.mpr c54
     clear c54
     obtain rfl := Option.some.inj H
     obtain ⟨Ao55, co55, eo55⟩ := Kd.R_slice HO_8.out
     subst eo55
     obtain ⟨hcz56_0, hcz56_1⟩ := b2 BK502.out
     obtain ⟨hfz56_0, hfz56_1⟩ := f2 BK502.out
     go_wp2_with (first | (go_at_call 10; (with_reducible refine (impl_StoreRead.calls _ _ t495 _ _ t498 t501 t520 _ ?side1 ?side2 ?side3 ?side4 A45.out).mono ?_); (case side1 => exact pc ((Kd.V_reads' HO_503000.out).2.2)); (case side2 => exact (Kd.V_reads' HO_503000.out).2.1); (case side3 => exact pc ((Kd.Q_reads' HO_503001.out).2.2)); (case side4 => exact (Kd.Q_reads' HO_503001.out).2.1); rintro e w57 ⟨rfl, hb⟩; replace HO_5 := am (Kd.R_below (pr HO_5.out) hb); replace HO_8 := am (Kd.R_below (pr HO_8.out) hb); replace HO_503000 := am (Kd.V_below (pv HO_503000.out) hb); replace HO_503001 := am (Kd.Q_below (pq HO_503001.out) hb); replace BK502 := am (blk_below (pb BK502.out) hb); replace HB := am (below_step (bg1 HB.out GE502.out) hb); clear hb; have p521 : 0 ≤ ((ji46) : Int) := ofb; have q521 : (ji46) < (t503.length : Int) := ofb; obtain ⟨ad521, e521, hx521_0, hx521_1, hx521_2, hx521_3, hx521_4, hx521_5, hx521_6, hx521_7⟩ := at_T38 (Kd.R_reads' HO_5.out).2.2 (ji46) p521 q521; cases e521; replace p521 := eq_true p521; replace q521 := eq_true q521) | ((with_reducible refine gate_dst (N := 11) rfl ?_); (try (refine gate_guard (by rfl) ?_; dsimp only)); refine box_event ?hg (N := 11) ?hd (cs := #[.int .i64 0, .int .i64 0, .int .i64 0, .int .i64 0, .int .i64 0, .int .i64 0, .int .i64 0, .int .i64 0]) (t := 38) ?hr ?_; (case hd => rfl); (case hg => rfl); (case hr => first | (go_simp; done) | (go_simp; rfl)); intro gb522 hg w58 hbox hb; replace HO_5 := am (Kd.R_below (Kd.R_elderB (pr HO_5.out) gb522 (Nat.le_of_eq hg.symm)) hb); replace HO_8 := am (Kd.R_below (pr HO_8.out) hb); replace HO_503000 := am (Kd.V_below (Kd.V_elderB (pv HO_503000.out) gb522 (Nat.le_of_eq hg.symm)) hb); replace HO_503001 := am (Kd.Q_below (pq HO_503001.out) hb); have BK522 := am (hbox); have GW522 := am (ge hg (bg1 HB.out GE502.out)); have GE522 := GW522; replace HB := am (below_step (bg1 HB.out GE502.out) hb); have NB502_522 := am (nb hg (pb BK502.out)); have NB522_502 := am (Ne.symm NB502_522.out); replace BK502 := am (blk_below (pb BK502.out) hb); clear hb hbox hg; have hnb59 := NB522_502.out; have hnc59 := NB502_522.out; obtain ⟨hcz60_0, hcz60_1, hcz60_2, hcz60_3, hcz60_4, hcz60_5, hcz60_6, hcz60_7⟩ := b8 BK522.out; obtain ⟨hfz60_0, hfz60_1, hfz60_2, hfz60_3, hfz60_4, hfz60_5, hfz60_6, hfz60_7⟩ := f8 BK522.out; have p523 : 0 ≤ (0 : Int) := (by omega); have q523 : 0 < (t503.length : Int) := ofb; obtain ⟨ad523, e523, hx523_0, hx523_1, hx523_2, hx523_3, hx523_4, hx523_5, hx523_6, hx523_7⟩ := at_T38 (Kd.R_reads' HO_5.out).2.2 0 p523 q523; obtain rfl : ad521 = ad523 := (by injection e523); have qi523 : (0 < t503.length) = True := eq_true (by omega); (try rw [show ((0 : Int)).toNat = 0 from rfl] at hx523_0); (try rw [show 0 * 8 = 0 from rfl] at hx523_0); (try rw [Addr.add_zero'] at hx523_0); (try rw [show ((0 : Int)).toNat = 0 from rfl] at hx523_1); (try rw [show 0 * 8 = 0 from rfl] at hx523_1); (try rw [Addr.add_zero'] at hx523_1); (try rw [show ((0 : Int)).toNat = 0 from rfl] at hx523_2); (try rw [show 0 * 8 = 0 from rfl] at hx523_2); (try rw [Addr.add_zero'] at hx523_2); (try rw [show ((0 : Int)).toNat = 0 from rfl] at hx523_3); (try rw [show 0 * 8 = 0 from rfl] at hx523_3); (try rw [Addr.add_zero'] at hx523_3); (try rw [show ((0 : Int)).toNat = 0 from rfl] at hx523_4); (try rw [show 0 * 8 = 0 from rfl] at hx523_4); (try rw [Addr.add_zero'] at hx523_4); (try rw [show ((0 : Int)).toNat = 0 from rfl] at hx523_5); (try rw [show 0 * 8 = 0 from rfl] at hx523_5); (try rw [Addr.add_zero'] at hx523_5); (try rw [show ((0 : Int)).toNat = 0 from rfl] at hx523_6); (try rw [show 0 * 8 = 0 from rfl] at hx523_6); (try rw [Addr.add_zero'] at hx523_6); (try rw [show ((0 : Int)).toNat = 0 from rfl] at hx523_7); (try rw [show 0 * 8 = 0 from rfl] at hx523_7); (try rw [Addr.add_zero'] at hx523_7); have hn523_0 : ad521.block ≠ gb522 := (HO_5.out.1 _ (by simp [Value.ownBlock])).2; have hn523_1 : ad521.block ≠ gb522 := (HO_5.out.1 _ (by simp [Value.ownBlock])).2; have hn523_2 : ad521.block ≠ gb522 := (HO_5.out.1 _ (by simp [Value.ownBlock])).2; have hn523_3 : ad521.block ≠ gb522 := (HO_5.out.1 _ (by simp [Value.ownBlock])).2; have hn523_4 : ad521.block ≠ gb522 := (HO_5.out.1 _ (by simp [Value.ownBlock])).2; have hn523_5 : ad521.block ≠ gb522 := (HO_5.out.1 _ (by simp [Value.ownBlock])).2; have hn523_6 : ad521.block ≠ gb522 := (HO_5.out.1 _ (by simp [Value.ownBlock])).2; have hn523_7 : ad521.block ≠ gb522 := (HO_5.out.1 _ (by simp [Value.ownBlock])).2; replace hx523_0 := (cell_far (p := ⟨gb522, 0, none⟩) (by first | (rw [add_block]; exact hn523_0) | (show (Addr.add _ _).block ≠ _; rw [add_block]; exact hn523_0) | exact hn523_0) (.int .i64 ((rd_T38 t503 (ji46)).f0))).trans hx523_0; replace hx523_1 := (cell_far (p := ⟨gb522, 0, none⟩) (by first | (rw [add_block]; exact hn523_0) | (show (Addr.add _ _).block ≠ _; rw [add_block]; exact hn523_0) | exact hn523_0) (.int .i64 ((rd_T38 t503 (ji46)).f0))).trans hx523_1; replace hx523_2 := (cell_far (p := ⟨gb522, 0, none⟩) (by first | (rw [add_block]; exact hn523_0) | (show (Addr.add _ _).block ≠ _; rw [add_block]; exact hn523_0) | exact hn523_0) (.int .i64 ((rd_T38 t503 (ji46)).f0))).trans hx523_2; replace hx523_3 := (cell_far (p := ⟨gb522, 0, none⟩) (by first | (rw [add_block]; exact hn523_0) | (show (Addr.add _ _).block ≠ _; rw [add_block]; exact hn523_0) | exact hn523_0) (.int .i64 ((rd_T38 t503 (ji46)).f0))).trans hx523_3; replace hx523_4 := (cell_far (p := ⟨gb522, 0, none⟩) (by first | (rw [add_block]; exact hn523_0) | (show (Addr.add _ _).block ≠ _; rw [add_block]; exact hn523_0) | exact hn523_0) (.int .i64 ((rd_T38 t503 (ji46)).f0))).trans hx523_4; replace hx523_5 := (cell_far (p := ⟨gb522, 0, none⟩) (by first | (rw [add_block]; exact hn523_0) | (show (Addr.add _ _).block ≠ _; rw [add_block]; exact hn523_0) | exact hn523_0) (.int .i64 ((rd_T38 t503 (ji46)).f0))).trans hx523_5; replace hx523_6 := (cell_far (p := ⟨gb522, 0, none⟩) (by first | (rw [add_block]; exact hn523_0) | (show (Addr.add _ _).block ≠ _; rw [add_block]; exact hn523_0) | exact hn523_0) (.int .i64 ((rd_T38 t503 (ji46)).f0))).trans hx523_6; replace hx523_7 := (cell_far (p := ⟨gb522, 0, none⟩) (by first | (rw [add_block]; exact hn523_0) | (show (Addr.add _ _).block ≠ _; rw [add_block]; exact hn523_0) | exact hn523_0) (.int .i64 ((rd_T38 t503 (ji46)).f0))).trans hx523_7; replace hx523_0 := (cell_far (p := ⟨gb522, 1, none⟩) (by first | (rw [add_block]; exact hn523_1) | (show (Addr.add _ _).block ≠ _; rw [add_block]; exact hn523_1) | exact hn523_1) (.int .i64 ((rd_T38 t503 (ji46)).f1))).trans hx523_0; replace hx523_1 := (cell_far (p := ⟨gb522, 1, none⟩) (by first | (rw [add_block]; exact hn523_1) | (show (Addr.add _ _).block ≠ _; rw [add_block]; exact hn523_1) | exact hn523_1) (.int .i64 ((rd_T38 t503 (ji46)).f1))).trans hx523_1; replace hx523_2 := (cell_far (p := ⟨gb522, 1, none⟩) (by first | (rw [add_block]; exact hn523_1) | (show (Addr.add _ _).block ≠ _; rw [add_block]; exact hn523_1) | exact hn523_1) (.int .i64 ((rd_T38 t503 (ji46)).f1))).trans hx523_2; replace hx523_3 := (cell_far (p := ⟨gb522, 1, none⟩) (by first | (rw [add_block]; exact hn523_1) | (show (Addr.add _ _).block ≠ _; rw [add_block]; exact hn523_1) | exact hn523_1) (.int .i64 ((rd_T38 t503 (ji46)).f1))).trans hx523_3; replace hx523_4 := (cell_far (p := ⟨gb522, 1, none⟩) (by first | (rw [add_block]; exact hn523_1) | (show (Addr.add _ _).block ≠ _; rw [add_block]; exact hn523_1) | exact hn523_1) (.int .i64 ((rd_T38 t503 (ji46)).f1))).trans hx523_4; replace hx523_5 := (cell_far (p := ⟨gb522, 1, none⟩) (by first | (rw [add_block]; exact hn523_1) | (show (Addr.add _ _).block ≠ _; rw [add_block]; exact hn523_1) | exact hn523_1) (.int .i64 ((rd_T38 t503 (ji46)).f1))).trans hx523_5; replace hx523_6 := (cell_far (p := ⟨gb522, 1, none⟩) (by first | (rw [add_block]; exact hn523_1) | (show (Addr.add _ _).block ≠ _; rw [add_block]; exact hn523_1) | exact hn523_1) (.int .i64 ((rd_T38 t503 (ji46)).f1))).trans hx523_6; replace hx523_7 := (cell_far (p := ⟨gb522, 1, none⟩) (by first | (rw [add_block]; exact hn523_1) | (show (Addr.add _ _).block ≠ _; rw [add_block]; exact hn523_1) | exact hn523_1) (.int .i64 ((rd_T38 t503 (ji46)).f1))).trans hx523_7; replace hx523_0 := (cell_far (p := ⟨gb522, 2, none⟩) (by first | (rw [add_block]; exact hn523_2) | (show (Addr.add _ _).block ≠ _; rw [add_block]; exact hn523_2) | exact hn523_2) (.int .i64 ((rd_T38 t503 (ji46)).f2))).trans hx523_0; replace hx523_1 := (cell_far (p := ⟨gb522, 2, none⟩) (by first | (rw [add_block]; exact hn523_2) | (show (Addr.add _ _).block ≠ _; rw [add_block]; exact hn523_2) | exact hn523_2) (.int .i64 ((rd_T38 t503 (ji46)).f2))).trans hx523_1; replace hx523_2 := (cell_far (p := ⟨gb522, 2, none⟩) (by first | (rw [add_block]; exact hn523_2) | (show (Addr.add _ _).block ≠ _; rw [add_block]; exact hn523_2) | exact hn523_2) (.int .i64 ((rd_T38 t503 (ji46)).f2))).trans hx523_2; replace hx523_3 := (cell_far (p := ⟨gb522, 2, none⟩) (by first | (rw [add_block]; exact hn523_2) | (show (Addr.add _ _).block ≠ _; rw [add_block]; exact hn523_2) | exact hn523_2) (.int .i64 ((rd_T38 t503 (ji46)).f2))).trans hx523_3; replace hx523_4 := (cell_far (p := ⟨gb522, 2, none⟩) (by first | (rw [add_block]; exact hn523_2) | (show (Addr.add _ _).block ≠ _; rw [add_block]; exact hn523_2) | exact hn523_2) (.int .i64 ((rd_T38 t503 (ji46)).f2))).trans hx523_4; replace hx523_5 := (cell_far (p := ⟨gb522, 2, none⟩) (by first | (rw [add_block]; exact hn523_2) | (show (Addr.add _ _).block ≠ _; rw [add_block]; exact hn523_2) | exact hn523_2) (.int .i64 ((rd_T38 t503 (ji46)).f2))).trans hx523_5; replace hx523_6 := (cell_far (p := ⟨gb522, 2, none⟩) (by first | (rw [add_block]; exact hn523_2) | (show (Addr.add _ _).block ≠ _; rw [add_block]; exact hn523_2) | exact hn523_2) (.int .i64 ((rd_T38 t503 (ji46)).f2))).trans hx523_6; replace hx523_7 := (cell_far (p := ⟨gb522, 2, none⟩) (by first | (rw [add_block]; exact hn523_2) | (show (Addr.add _ _).block ≠ _; rw [add_block]; exact hn523_2) | exact hn523_2) (.int .i64 ((rd_T38 t503 (ji46)).f2))).trans hx523_7; replace hx523_0 := (cell_far (p := ⟨gb522, 3, none⟩) (by first | (rw [add_block]; exact hn523_3) | (show (Addr.add _ _).block ≠ _; rw [add_block]; exact hn523_3) | exact hn523_3) (.int .i64 ((rd_T38 t503 (ji46)).f3))).trans hx523_0; replace hx523_1 := (cell_far (p := ⟨gb522, 3, none⟩) (by first | (rw [add_block]; exact hn523_3) | (show (Addr.add _ _).block ≠ _; rw [add_block]; exact hn523_3) | exact hn523_3) (.int .i64 ((rd_T38 t503 (ji46)).f3))).trans hx523_1; replace hx523_2 := (cell_far (p := ⟨gb522, 3, none⟩) (by first | (rw [add_block]; exact hn523_3) | (show (Addr.add _ _).block ≠ _; rw [add_block]; exact hn523_3) | exact hn523_3) (.int .i64 ((rd_T38 t503 (ji46)).f3))).trans hx523_2; replace hx523_3 := (cell_far (p := ⟨gb522, 3, none⟩) (by first | (rw [add_block]; exact hn523_3) | (show (Addr.add _ _).block ≠ _; rw [add_block]; exact hn523_3) | exact hn523_3) (.int .i64 ((rd_T38 t503 (ji46)).f3))).trans hx523_3; replace hx523_4 := (cell_far (p := ⟨gb522, 3, none⟩) (by first | (rw [add_block]; exact hn523_3) | (show (Addr.add _ _).block ≠ _; rw [add_block]; exact hn523_3) | exact hn523_3) (.int .i64 ((rd_T38 t503 (ji46)).f3))).trans hx523_4; replace hx523_5 := (cell_far (p := ⟨gb522, 3, none⟩) (by first | (rw [add_block]; exact hn523_3) | (show (Addr.add _ _).block ≠ _; rw [add_block]; exact hn523_3) | exact hn523_3) (.int .i64 ((rd_T38 t503 (ji46)).f3))).trans hx523_5; replace hx523_6 := (cell_far (p := ⟨gb522, 3, none⟩) (by first | (rw [add_block]; exact hn523_3) | (show (Addr.add _ _).block ≠ _; rw [add_block]; exact hn523_3) | exact hn523_3) (.int .i64 ((rd_T38 t503 (ji46)).f3))).trans hx523_6; replace hx523_7 := (cell_far (p := ⟨gb522, 3, none⟩) (by first | (rw [add_block]; exact hn523_3) | (show (Addr.add _ _).block ≠ _; rw [add_block]; exact hn523_3) | exact hn523_3) (.int .i64 ((rd_T38 t503 (ji46)).f3))).trans hx523_7; replace hx523_0 := (cell_far (p := ⟨gb522, 4, none⟩) (by first | (rw [add_block]; exact hn523_4) | (show (Addr.add _ _).block ≠ _; rw [add_block]; exact hn523_4) | exact hn523_4) (.int .i64 ((rd_T38 t503 (ji46)).f4.f0))).trans hx523_0; replace hx523_1 := (cell_far (p := ⟨gb522, 4, none⟩) (by first | (rw [add_block]; exact hn523_4) | (show (Addr.add _ _).block ≠ _; rw [add_block]; exact hn523_4) | exact hn523_4) (.int .i64 ((rd_T38 t503 (ji46)).f4.f0))).trans hx523_1; replace hx523_2 := (cell_far (p := ⟨gb522, 4, none⟩) (by first | (rw [add_block]; exact hn523_4) | (show (Addr.add _ _).block ≠ _; rw [add_block]; exact hn523_4) | exact hn523_4) (.int .i64 ((rd_T38 t503 (ji46)).f4.f0))).trans hx523_2; replace hx523_3 := (cell_far (p := ⟨gb522, 4, none⟩) (by first | (rw [add_block]; exact hn523_4) | (show (Addr.add _ _).block ≠ _; rw [add_block]; exact hn523_4) | exact hn523_4) (.int .i64 ((rd_T38 t503 (ji46)).f4.f0))).trans hx523_3; replace hx523_4 := (cell_far (p := ⟨gb522, 4, none⟩) (by first | (rw [add_block]; exact hn523_4) | (show (Addr.add _ _).block ≠ _; rw [add_block]; exact hn523_4) | exact hn523_4) (.int .i64 ((rd_T38 t503 (ji46)).f4.f0))).trans hx523_4; replace hx523_5 := (cell_far (p := ⟨gb522, 4, none⟩) (by first | (rw [add_block]; exact hn523_4) | (show (Addr.add _ _).block ≠ _; rw [add_block]; exact hn523_4) | exact hn523_4) (.int .i64 ((rd_T38 t503 (ji46)).f4.f0))).trans hx523_5; replace hx523_6 := (cell_far (p := ⟨gb522, 4, none⟩) (by first | (rw [add_block]; exact hn523_4) | (show (Addr.add _ _).block ≠ _; rw [add_block]; exact hn523_4) | exact hn523_4) (.int .i64 ((rd_T38 t503 (ji46)).f4.f0))).trans hx523_6; replace hx523_7 := (cell_far (p := ⟨gb522, 4, none⟩) (by first | (rw [add_block]; exact hn523_4) | (show (Addr.add _ _).block ≠ _; rw [add_block]; exact hn523_4) | exact hn523_4) (.int .i64 ((rd_T38 t503 (ji46)).f4.f0))).trans hx523_7; replace hx523_0 := (cell_far (p := ⟨gb522, 5, none⟩) (by first | (rw [add_block]; exact hn523_5) | (show (Addr.add _ _).block ≠ _; rw [add_block]; exact hn523_5) | exact hn523_5) (.int .i64 ((rd_T38 t503 (ji46)).f4.f1))).trans hx523_0; replace hx523_1 := (cell_far (p := ⟨gb522, 5, none⟩) (by first | (rw [add_block]; exact hn523_5) | (show (Addr.add _ _).block ≠ _; rw [add_block]; exact hn523_5) | exact hn523_5) (.int .i64 ((rd_T38 t503 (ji46)).f4.f1))).trans hx523_1; replace hx523_2 := (cell_far (p := ⟨gb522, 5, none⟩) (by first | (rw [add_block]; exact hn523_5) | (show (Addr.add _ _).block ≠ _; rw [add_block]; exact hn523_5) | exact hn523_5) (.int .i64 ((rd_T38 t503 (ji46)).f4.f1))).trans hx523_2; replace hx523_3 := (cell_far (p := ⟨gb522, 5, none⟩) (by first | (rw [add_block]; exact hn523_5) | (show (Addr.add _ _).block ≠ _; rw [add_block]; exact hn523_5) | exact hn523_5) (.int .i64 ((rd_T38 t503 (ji46)).f4.f1))).trans hx523_3; replace hx523_4 := (cell_far (p := ⟨gb522, 5, none⟩) (by first | (rw [add_block]; exact hn523_5) | (show (Addr.add _ _).block ≠ _; rw [add_block]; exact hn523_5) | exact hn523_5) (.int .i64 ((rd_T38 t503 (ji46)).f4.f1))).trans hx523_4; replace hx523_5 := (cell_far (p := ⟨gb522, 5, none⟩) (by first | (rw [add_block]; exact hn523_5) | (show (Addr.add _ _).block ≠ _; rw [add_block]; exact hn523_5) | exact hn523_5) (.int .i64 ((rd_T38 t503 (ji46)).f4.f1))).trans hx523_5; replace hx523_6 := (cell_far (p := ⟨gb522, 5, none⟩) (by first | (rw [add_block]; exact hn523_5) | (show (Addr.add _ _).block ≠ _; rw [add_block]; exact hn523_5) | exact hn523_5) (.int .i64 ((rd_T38 t503 (ji46)).f4.f1))).trans hx523_6; replace hx523_7 := (cell_far (p := ⟨gb522, 5, none⟩) (by first | (rw [add_block]; exact hn523_5) | (show (Addr.add _ _).block ≠ _; rw [add_block]; exact hn523_5) | exact hn523_5) (.int .i64 ((rd_T38 t503 (ji46)).f4.f1))).trans hx523_7; replace hx523_0 := (cell_far (p := ⟨gb522, 6, none⟩) (by first | (rw [add_block]; exact hn523_6) | (show (Addr.add _ _).block ≠ _; rw [add_block]; exact hn523_6) | exact hn523_6) (.int .i64 ((rd_T38 t503 (ji46)).f4.f2))).trans hx523_0; replace hx523_1 := (cell_far (p := ⟨gb522, 6, none⟩) (by first | (rw [add_block]; exact hn523_6) | (show (Addr.add _ _).block ≠ _; rw [add_block]; exact hn523_6) | exact hn523_6) (.int .i64 ((rd_T38 t503 (ji46)).f4.f2))).trans hx523_1; replace hx523_2 := (cell_far (p := ⟨gb522, 6, none⟩) (by first | (rw [add_block]; exact hn523_6) | (show (Addr.add _ _).block ≠ _; rw [add_block]; exact hn523_6) | exact hn523_6) (.int .i64 ((rd_T38 t503 (ji46)).f4.f2))).trans hx523_2; replace hx523_3 := (cell_far (p := ⟨gb522, 6, none⟩) (by first | (rw [add_block]; exact hn523_6) | (show (Addr.add _ _).block ≠ _; rw [add_block]; exact hn523_6) | exact hn523_6) (.int .i64 ((rd_T38 t503 (ji46)).f4.f2))).trans hx523_3; replace hx523_4 := (cell_far (p := ⟨gb522, 6, none⟩) (by first | (rw [add_block]; exact hn523_6) | (show (Addr.add _ _).block ≠ _; rw [add_block]; exact hn523_6) | exact hn523_6) (.int .i64 ((rd_T38 t503 (ji46)).f4.f2))).trans hx523_4; replace hx523_5 := (cell_far (p := ⟨gb522, 6, none⟩) (by first | (rw [add_block]; exact hn523_6) | (show (Addr.add _ _).block ≠ _; rw [add_block]; exact hn523_6) | exact hn523_6) (.int .i64 ((rd_T38 t503 (ji46)).f4.f2))).trans hx523_5; replace hx523_6 := (cell_far (p := ⟨gb522, 6, none⟩) (by first | (rw [add_block]; exact hn523_6) | (show (Addr.add _ _).block ≠ _; rw [add_block]; exact hn523_6) | exact hn523_6) (.int .i64 ((rd_T38 t503 (ji46)).f4.f2))).trans hx523_6; replace hx523_7 := (cell_far (p := ⟨gb522, 6, none⟩) (by first | (rw [add_block]; exact hn523_6) | (show (Addr.add _ _).block ≠ _; rw [add_block]; exact hn523_6) | exact hn523_6) (.int .i64 ((rd_T38 t503 (ji46)).f4.f2))).trans hx523_7; replace hx523_0 := (cell_far (p := ⟨gb522, 7, none⟩) (by first | (rw [add_block]; exact hn523_7) | (show (Addr.add _ _).block ≠ _; rw [add_block]; exact hn523_7) | exact hn523_7) (.int .i64 ((rd_T38 t503 (ji46)).f4.f3))).trans hx523_0; replace hx523_1 := (cell_far (p := ⟨gb522, 7, none⟩) (by first | (rw [add_block]; exact hn523_7) | (show (Addr.add _ _).block ≠ _; rw [add_block]; exact hn523_7) | exact hn523_7) (.int .i64 ((rd_T38 t503 (ji46)).f4.f3))).trans hx523_1; replace hx523_2 := (cell_far (p := ⟨gb522, 7, none⟩) (by first | (rw [add_block]; exact hn523_7) | (show (Addr.add _ _).block ≠ _; rw [add_block]; exact hn523_7) | exact hn523_7) (.int .i64 ((rd_T38 t503 (ji46)).f4.f3))).trans hx523_2; replace hx523_3 := (cell_far (p := ⟨gb522, 7, none⟩) (by first | (rw [add_block]; exact hn523_7) | (show (Addr.add _ _).block ≠ _; rw [add_block]; exact hn523_7) | exact hn523_7) (.int .i64 ((rd_T38 t503 (ji46)).f4.f3))).trans hx523_3; replace hx523_4 := (cell_far (p := ⟨gb522, 7, none⟩) (by first | (rw [add_block]; exact hn523_7) | (show (Addr.add _ _).block ≠ _; rw [add_block]; exact hn523_7) | exact hn523_7) (.int .i64 ((rd_T38 t503 (ji46)).f4.f3))).trans hx523_4; replace hx523_5 := (cell_far (p := ⟨gb522, 7, none⟩) (by first | (rw [add_block]; exact hn523_7) | (show (Addr.add _ _).block ≠ _; rw [add_block]; exact hn523_7) | exact hn523_7) (.int .i64 ((rd_T38 t503 (ji46)).f4.f3))).trans hx523_5; replace hx523_6 := (cell_far (p := ⟨gb522, 7, none⟩) (by first | (rw [add_block]; exact hn523_7) | (show (Addr.add _ _).block ≠ _; rw [add_block]; exact hn523_7) | exact hn523_7) (.int .i64 ((rd_T38 t503 (ji46)).f4.f3))).trans hx523_6; replace hx523_7 := (cell_far (p := ⟨gb522, 7, none⟩) (by first | (rw [add_block]; exact hn523_7) | (show (Addr.add _ _).block ≠ _; rw [add_block]; exact hn523_7) | exact hn523_7) (.int .i64 ((rd_T38 t503 (ji46)).f4.f3))).trans hx523_7; clear hn523_0; clear hn523_1; clear hn523_2; clear hn523_3; clear hn523_4; clear hn523_5; clear hn523_6; clear hn523_7; replace p523 := eq_true p523; replace q523 := eq_true q523))
     go_ret
     exact ⟨by first | rfl | (simp [errW_none, errW_some] <;> rfl) | (simp only [← hji46]; first | rfl | (simp [errW_none, errW_some] <;> rfl)) | (simp [*, errW_none, errW_some] <;> rfl), bg2 HB.out GE502.out GE522.out⟩
def laws_FnFlushSteps.Pure : Prop := ∀ (l0 : List Int), l0.length ≤ maxLen → l0.length * 1 ≤ 140737488351232 → (∀ x ∈ l0, (Lit.int .u8 x).wf = true) → ∃ k, laws_FnFlushSteps.f k l0 = some true
theorem laws_FnFlushSteps.walk (P : laws_FnFlushSteps.Pure) (a0 : Option Addr) (len0 cap0 : Nat) (z0 : List Int) (w : World) (w0 : (a0 = none ∧ len0 = 0 ∧ cap0 = 0 ∧ z0 = []) ∨ ∃ x, a0 = some x ∧ len0 ≤ cap0 ∧ cap0 ≤ maxLen ∧ z0.length = cap0 ∧ (∀ i, i < z0.length → w.cell? (x.add i) = some (.int .u8 (z0.getD i 0))) ∧ ∀ n ∈ z0, (Lit.int .u8 n).wf = true) (y0 : len0 * 1 ≤ 140737488351232) :
 Calls Try.prog 3 #[.slice a0 len0 cap0] w fun e w' => e = .returned (.bool true) ∧ Below w.heap.size w w' := by
 obtain ⟨l0, rfl, hr0, hm0, hw0, hc0⟩ := ReadsInt.ofRowC w0
 obtain ⟨k, h⟩ := P l0 hm0 y0 hw0
 refine (laws_FnFlushSteps.calls k _ _ l0 true ⟨rfl⟩ w (Kd.C_of_reads (d := (0 : Int)) (h1 := fun _ => rfl) hr0) hc0 h).mono ?_
 rintro e w' ⟨rfl, hd⟩
 exact ⟨rfl, hd⟩
end Go.Proofs.Ytbhchamohldehaa.P4
