-- printed by wip/pp/pp.py
import Derived.Test.YtabdbhnjickehaaP30
import Derived.Test.YtabdbhnjickehaaP311
import Derived.Test.YtabdbhnjickehaaP316
namespace Go.Proofs.Ytabdbhnjickehaa.P3
set_option maxHeartbeats 8000000
set_option maxRecDepth 100000
open Go.RowKit Go.Proofs.YtabdbhnjickehaaW.PrintWords Go.Proofs.YtabdbhnjickehaaW.PrintLast Go.Proofs.YtabdbhnjickehaaW.PrintMore
attribute [local go_sem] max2_int min2_int max_two min_two max_three min_three max_four min_four
set_option linter.unusedVariables false
set_option linter.unusedSimpArgs false
attribute [local go_sem high] eqA36
mutual
def laws_FnFlushFew.j0 : Nat → Int → List (S36) → Int → Bool → List (S72) → List Int → Option (Bool)
 | 0, _, _, _, _, _, _ => none
 | k + 1, x4, x5, x6, x32, x503000, x503001 => if x32 = true then ((spec_StepsFlush.f k x503000 x503001 x4).bind fun t509 => (some (x6 == (t509.length : Int)))) else ((impl_StoreRead.f x503000 x503001 x4).bind fun t512 => ((impl_StepsPut.f k x503000 x503001 x4 t512).bind fun t513 => (if (t513.length : Int) = (wrap64 (x6 - 1)) then (laws_FnFlushFew.l0 k x5 t513 0) else (some false))))
def laws_FnFlushFew.l0 : Nat → List (S36) → List (S36) → Int → Option (Bool)
 | 0, _, _, _ => none
 | k + 1, x5, x7, x8 => if x8 < (x7.length : Int) then (if 0 ≤ (wrap64 (x8 + 1)) then (if (wrap64 (x8 + 1)) < (x5.length : Int) then (if x8 = (wrap64 ((x7.length : Int) - 1)) then (if ((rd_T36 x5 (wrap64 (x8 + 1))).f4.f0) = 2 then (if 0 ≤ x8 then (if (!(((rd_T36 x5 (wrap64 (x8 + 1))).f0) == ((rd_T36 x7 x8).f0)) || (!(((rd_T36 x5 (wrap64 (x8 + 1))).f1) == ((rd_T36 x7 x8).f1)) || (!(((rd_T36 x5 (wrap64 (x8 + 1))).f2) == ((rd_T36 x7 x8).f2)) || (!(((rd_T36 x5 (wrap64 (x8 + 1))).f3) == ((rd_T36 x7 x8).f3)) || ((!(1 == ((rd_T36 x7 x8).f4.f0)) || (!(((rd_T36 x5 (wrap64 (x8 + 1))).f4.f1) == ((rd_T36 x7 x8).f4.f1)) || (!(((rd_T36 x5 (wrap64 (x8 + 1))).f4.f2) == ((rd_T36 x7 x8).f4.f2)) || (!(((rd_T36 x5 (wrap64 (x8 + 1))).f4.f3) == ((rd_T36 x7 x8).f4.f3))))))))))) = true then (some false) else (laws_FnFlushFew.l0 k x5 x7 (wrap64 (x8 + 1)))) else (none)) else (some false)) else (if 0 ≤ x8 then (if (!(((rd_T36 x5 (wrap64 (x8 + 1))).f0) == ((rd_T36 x7 x8).f0)) || (!(((rd_T36 x5 (wrap64 (x8 + 1))).f1) == ((rd_T36 x7 x8).f1)) || (!(((rd_T36 x5 (wrap64 (x8 + 1))).f2) == ((rd_T36 x7 x8).f2)) || (!(((rd_T36 x5 (wrap64 (x8 + 1))).f3) == ((rd_T36 x7 x8).f3)) || ((!(((rd_T36 x5 (wrap64 (x8 + 1))).f4.f0) == ((rd_T36 x7 x8).f4.f0)) || (!(((rd_T36 x5 (wrap64 (x8 + 1))).f4.f1) == ((rd_T36 x7 x8).f4.f1)) || (!(((rd_T36 x5 (wrap64 (x8 + 1))).f4.f2) == ((rd_T36 x7 x8).f4.f2)) || (!(((rd_T36 x5 (wrap64 (x8 + 1))).f4.f3) == ((rd_T36 x7 x8).f4.f3))))))))))) = true then (some false) else (laws_FnFlushFew.l0 k x5 x7 (wrap64 (x8 + 1)))) else (none))) else (none)) else (none)) else (some true)
end
def laws_FnFlushFew.f (k : Nat) (l0 : List Int) : Option (Bool) := if (l0.length : Int) > 1048576 then (some true) else ((spec_DrawStepsFlush.f k l0).bind fun bt495 => ((impl_StepsFlush.f k bt495.1 bt495.2.1 bt495.2.2).bind fun t503 => ((spec_StepsFlush.f k bt495.1 bt495.2.1 bt495.2.2).bind fun t506 => (if (t503.length : Int) = (t506.length : Int) then (laws_FnFlushFew.j0 k bt495.2.2 t503 (t503.length : Int) ((t503.length : Int) == 0) bt495.1 bt495.2.1) else (laws_FnFlushFew.j0 k bt495.2.2 t503 (t503.length : Int) true bt495.1 bt495.2.1)))))
theorem laws_FnFlushFew.calls (k : Nat) (A0 : Option Addr) (c0 : Nat) (l0 : List Int) (r : Bool) (HRT : Aside0 (r = true)) (w : World) (hr0 : Kd.C (Kd.int .u8) w A0 l0.length l0) (hc0 : l0.length ≤ c0) (h : laws_FnFlushFew.f k l0 = some r) :
 Calls Try.prog 3 #[.slice A0 l0.length c0] w fun e w' => e = .returned (.bool r) ∧ Below w.heap.size w w' := by
 have hu26 := Try.underlying26
 have hu36 := Try.underlying36
 have HR0 := am hr0
 have HC0 := am hc0
 clear hr0 hc0
 have HB := am (Below.refl w.heap.size w)
 have H : (if (l0.length : Int) > 1048576 then (some true) else ((spec_DrawStepsFlush.f k l0).bind fun bt495 => ((impl_StepsFlush.f k bt495.1 bt495.2.1 bt495.2.2).bind fun t503 => ((spec_StepsFlush.f k bt495.1 bt495.2.1 bt495.2.2).bind fun t506 => (if (t503.length : Int) = (t506.length : Int) then (laws_FnFlushFew.j0 k bt495.2.2 t503 (t503.length : Int) ((t503.length : Int) == 0) bt495.1 bt495.2.1) else (laws_FnFlushFew.j0 k bt495.2.2 t503 (t503.length : Int) true bt495.1 bt495.2.1)))))) = some r := h
 clear h
 by_cases c2 : (l0.length : Int) > 1048576
 · rw [if_pos c2] at H
   have c2b0 := decide_eq_true c2
   have c2b1 : decide (1048576 < l0.length) = true := decide_eq_true (by omega)
   clear c2
   obtain rfl := Option.some.inj H
   go_enter Try.func3, Try.ntmps3
   go_wp2
   go_ret
   exact (rq (ph HB.out))
 rw [if_neg c2] at H
 have c2b0 := decide_eq_false c2
 have c2b1 : decide (1048576 < l0.length) = false := decide_eq_false (by omega)
 clear c2
 replace H := Option.bind_eq_some_iff.mp H
 obtain ⟨⟨t495, t498, t501⟩, A30, H⟩ := H
 have A3 := am A30
 clear A30
 replace H := Option.bind_eq_some_iff.mp H
 obtain ⟨t503, A40, H⟩ := H
 have A4 := am A40
 clear A40
 have HC5 := am H
 clear H
 go_enter Try.func3, Try.ntmps3
 go_upto_region 6 with (first | (go_at_call 4; (with_reducible refine (spec_DrawStepsFlush.calls k _ _ l0 t495 t498 t501 _ ?side1 ?side2 A3.out).mono ?_); (case side1 => exact pc HR0.out); (case side2 => exact HC0.out); rintro e w6 ⟨v496, v499, rfl, ho0, ho1, hb⟩; have HO497 := am (Kd.V_lower (Kd.V_mono (ok' := fun k_ => some k_ ≠ (v499 : Value).ownBlock) ho0 (fun k_ hk_ => hk_.2)) (below_size (ph HB.out))); have HO500 := am (Kd.Q_lower (Kd.Q_mono (ok' := fun k_ => True) ho1 (fun _ hk_ => trivial)) (below_size (ph HB.out))); replace HB := am (below_step (ph HB.out) hb); clear hb ho0 ho1) | ((with_reducible refine bx 3 #[.slice none 0 0, .slice none 0 0] 26 ?hd ?_ ?hg ?hrun); (case hd => rfl); (case hg => rfl); (case hrun => first | (go_simp; done) | (go_simp; rfl)); intro gb502 hg w7 hbox hb; replace HO497 := am (Kd.V_below (Kd.V_elderB (pv HO497.out) gb502 (Nat.le_of_eq hg.symm)) hb); replace HO500 := am (Kd.Q_below (pq HO500.out) hb); have BK502 := am (hbox); have GW502 := am (ge hg (ph HB.out)); have GE502 := GW502; replace HB := am (below_step (ph HB.out) hb); clear hb hbox hg; obtain ⟨Ao8, co8, eo8⟩ := Kd.V_slice HO497.out; subst eo8; obtain ⟨hcz9_0, hcz9_1⟩ := b2 BK502.out; obtain ⟨hfz9_0, hfz9_1⟩ := f2 BK502.out; obtain ⟨Ao10, co10, eo10, _⟩ := Kd.Q_slice HO500.out; subst eo10) | (go_at_call 5; (with_reducible refine (impl_StepsFlush.calls k _ _ t495 _ _ t498 t501 t503 _ ?side1 ?side2 ?side3 ?side4 A4.out).mono ?_); (case side1 => refine (Kd.V_reads' (e := 72) (base := w.heap.size) (ok := fun k_ => (some k_ ≠ (.slice Ao10 t498.length co10 : Value).ownBlock ∧ k_ ≠ gb502)) (n := t495.length) (c := co8) ?_).2.2; exact (pv ((Kd.V_mono (Kd.V_far (p := ⟨gb502, 1, none⟩) (Kd.V_far (p := ⟨gb502, 0, none⟩) (Kd.V_mono HO497.out (fun k_ hk => (⟨hk, hk.2⟩ : _ ∧ k_ ≠ gb502))) (fun _ hk => hk.2) (.slice Ao8 t495.length co8)) (fun _ hk => hk.2) (.slice Ao10 t498.length co10)) (fun _ h_ => h_.1))))); (case side2 => exact (Kd.V_reads' HO497.out).2.1); (case side3 => refine (Kd.Q_reads' (e := 3) (base := w.heap.size) (ok := fun k_ => True) (n := t498.length) (c := co10) ?_).2.2; exact (pq ((Kd.Q_mono (Kd.Q_far (p := ⟨gb502, 1, none⟩) (Kd.Q_far (p := ⟨gb502, 0, none⟩) (Kd.Q_types HO500.out BK502.out (by decide)) (fun _ hk => hk.2) (.slice Ao8 t495.length co8)) (fun _ hk => hk.2) (.slice Ao10 t498.length co10)) (fun _ h_ => h_.1))))); (case side4 => exact (Kd.Q_reads' HO500.out).2.1); rintro e w11 ⟨v504, rfl, ho0, hb⟩; replace HO497 := am (Kd.V_elder' (pv ((Kd.V_mono (Kd.V_far (p := ⟨gb502, 1, none⟩) (Kd.V_far (p := ⟨gb502, 0, none⟩) (Kd.V_mono HO497.out (fun k_ hk => (⟨hk, hk.2⟩ : _ ∧ k_ ≠ gb502))) (fun _ hk => hk.2) (.slice Ao8 t495.length co8)) (fun _ hk => hk.2) (.slice Ao10 t498.length co10)) (fun _ h_ => h_.1)))) (Kd.R_base ho0) hb); replace HO500 := am (Kd.Q_below (pq ((Kd.Q_mono (Kd.Q_far (p := ⟨gb502, 1, none⟩) (Kd.Q_far (p := ⟨gb502, 0, none⟩) (Kd.Q_types HO500.out BK502.out (by decide)) (fun _ hk => hk.2) (.slice Ao8 t495.length co8)) (fun _ hk => hk.2) (.slice Ao10 t498.length co10)) (fun _ h_ => h_.1)))) hb); have HO505 := am (Kd.R_lower ho0 (below_size (bg1 HB.out GE502.out))); replace BK502 := am (blk_below (bp2 (pb BK502.out)) hb); replace HB := am (below_step (bg1 HB.out GE502.out) hb); clear hb ho0; obtain ⟨Ao12, co12, eo12⟩ := Kd.R_slice HO505.out; subst eo12))
 (try simp only [Act.put, List.setIfInBounds_toArray, List.set_cons_zero, List.set_cons_succ])
 go_cut [32] (fun v32 wc => ∃ (kq : Nat) (x32_4 : Bool), v32 = .bool x32_4 ∧ Aside0 (laws_FnFlushFew.j0 kq t501 t503 (t503.length : Int) x32_4 t495 t498 = some r) ∧ Aside0 (kq ≤ k) ∧ Aside0 (Kd.R k36 36 wc w.heap.size (fun _ => True) (.slice Ao12 t503.length co12) t503) ∧ Aside0 (Kd.V k72 72 wc w.heap.size (fun k_ => some k_ ≠ ((.slice Ao12 t503.length co12) : Value).ownBlock ∧ some k_ ≠ ((.slice Ao10 t498.length co10) : Value).ownBlock ∧ k_ ≠ gb502) (.slice Ao8 t495.length co8) t495) ∧ Aside0 (Kd.Q (Kd.int .i64) 3 wc w.heap.size (fun _ => True) (.slice Ao10 t498.length co10) t498) ∧ Aside0 (wc.heap[gb502]? = some (.cells #[(.slice Ao8 t495.length co8), (.slice Ao10 t498.length co10)] 26 (0, 0))) ∧ Aside0 (Below w.heap.size w wc))
 case first =>
  have H := HC5.out
  clear HC5
  replace H := Option.bind_eq_some_iff.mp H
  obtain ⟨t506, A130, H⟩ := H
  have A13 := am A130
  clear A130
  by_cases c14 : (t503.length : Int) = (t506.length : Int)
  rotate_left
  · rw [if_neg c14] at H
    have c14b0 : ((t503.length : Int) == (t506.length : Int)) = false := beq_eq_false_iff_ne.mpr c14
    have c14b1 : ((t503.length : Int) != (t506.length : Int)) = true := bne_iff_ne.mpr c14
    have c14b2 : (t503.length == t506.length) = false := by first | simpa using c14 | (simp at c14 ⊢; omega)
    (first | rw [c14b0] | (simp only [i64_w, i32_w]; rw [c14b0]) | skip)
    have H' := am H
    clear H
    obtain ⟨hcz18_0, hcz18_1⟩ := b2 BK502.out
    obtain ⟨hfz18_0, hfz18_1⟩ := f2 BK502.out
    go_wp2_with (first | (go_at_call 6; (with_reducible refine (spec_StepsFlush.calls k _ _ t495 _ _ t498 t501 t506 _ ?side1 ?side2 ?side3 ?side4 A13.out).mono ?_); (case side1 => exact pc ((Kd.V_reads' HO497.out).2.2)); (case side2 => exact (Kd.V_reads' HO497.out).2.1); (case side3 => exact pc ((Kd.Q_reads' HO500.out).2.2)); (case side4 => exact (Kd.Q_reads' HO500.out).2.1); rintro e w19 ⟨v507, rfl, ho0, hb⟩; replace HO497 := am (Kd.V_elder' (pv HO497.out) (Kd.R_base ho0) hb); replace HO500 := am (Kd.Q_below (pq HO500.out) hb); have HO508 := am (Kd.R_lower (Kd.R_new' ho0 (Kd.R_lt (pr HO505.out))) (below_size (bg1 HB.out GE502.out))); replace HO505 := am (Kd.R_elder' (pr HO505.out) (Kd.R_base ho0) hb); replace BK502 := am (blk_below (pb BK502.out) hb); replace HB := am (below_step (bg1 HB.out GE502.out) hb); clear hb ho0; obtain ⟨Ao20, co20, eo20⟩ := Kd.R_slice HO508.out; subst eo20))
    go_meet
    case rel => exact ⟨_, (true), rf, H', ⟨by first | omega | exact Nat.le_refl _⟩, ⟨pr (Kd.R_mono HO505.out (fun _ hk => trivial))⟩, ⟨pv (Kd.V_mono HO497.out (fun _ hk => ⟨hk.1.2, ⟨hk.1.1.1, hk.1.1.2⟩⟩))⟩, ⟨pq HO500.out⟩, ⟨pb BK502.out⟩, ⟨bg1 HB.out GE502.out⟩⟩
  rw [if_pos c14] at H
  have c14b0 : ((t503.length : Int) == (t506.length : Int)) = true := beq_iff_eq.mpr c14
  have c14b1 : ((t503.length : Int) != (t506.length : Int)) = false := bne_eq_false_iff_eq.mpr c14
  have c14b2 : (t503.length == t506.length) = true := by first | simpa using c14 | (simp at c14 ⊢; omega)
  clear c14
  (first | rw [c14b0] | (simp only [i64_w, i32_w]; rw [c14b0]) | skip)
  have H' := am H
  clear H
  obtain ⟨hcz15_0, hcz15_1⟩ := b2 BK502.out
  obtain ⟨hfz15_0, hfz15_1⟩ := f2 BK502.out
  go_wp2_with (first | (go_at_call 6; (with_reducible refine (spec_StepsFlush.calls k _ _ t495 _ _ t498 t501 t506 _ ?side1 ?side2 ?side3 ?side4 A13.out).mono ?_); (case side1 => exact pc ((Kd.V_reads' HO497.out).2.2)); (case side2 => exact (Kd.V_reads' HO497.out).2.1); (case side3 => exact pc ((Kd.Q_reads' HO500.out).2.2)); (case side4 => exact (Kd.Q_reads' HO500.out).2.1); rintro e w16 ⟨v507, rfl, ho0, hb⟩; replace HO497 := am (Kd.V_elder' (pv HO497.out) (Kd.R_base ho0) hb); replace HO500 := am (Kd.Q_below (pq HO500.out) hb); have HO508 := am (Kd.R_lower (Kd.R_new' ho0 (Kd.R_lt (pr HO505.out))) (below_size (bg1 HB.out GE502.out))); replace HO505 := am (Kd.R_elder' (pr HO505.out) (Kd.R_base ho0) hb); replace BK502 := am (blk_below (pb BK502.out) hb); replace HB := am (below_step (bg1 HB.out GE502.out) hb); clear hb ho0; obtain ⟨Ao17, co17, eo17⟩ := Kd.R_slice HO508.out; subst eo17))
  go_meet
  case rel => exact ⟨_, (((t503.length : Int) == 0)), rf, H', ⟨by first | omega | exact Nat.le_refl _⟩, ⟨pr (Kd.R_mono HO505.out (fun _ hk => trivial))⟩, ⟨pv (Kd.V_mono HO497.out (fun _ hk => ⟨hk.1.2, ⟨hk.1.1.1, hk.1.1.2⟩⟩))⟩, ⟨pq HO500.out⟩, ⟨pb BK502.out⟩, ⟨bg1 HB.out GE502.out⟩⟩
 case rest =>
  clear HC5
  obtain ⟨kq, x32_4, rfl, HA, HJ4, HO_5, HO_503000, HO_503001, BK502, HB⟩ := hcut
  cases kq with
  | zero => exact absurd HA.out (by simp [laws_FnFlushFew.j0])
  | succ kj4 =>
   have H := HA.out
   clear HA
   simp only [laws_FnFlushFew.j0] at H
   by_cases c21 : x32_4 = true
   · subst c21
     rw [if_pos rfl] at H
     replace H := Option.bind_eq_some_iff.mp H
     obtain ⟨t509, A220, H⟩ := H
     have A22 := am A220
     clear A220
     obtain rfl := Option.some.inj H
     obtain ⟨hcz23_0, hcz23_1⟩ := b2 BK502.out
     obtain ⟨hfz23_0, hfz23_1⟩ := f2 BK502.out
     go_wp2_with (first | (go_at_call 6; (with_reducible refine (spec_StepsFlush.calls kj4 _ _ t495 _ _ t498 t501 t509 _ ?side1 ?side2 ?side3 ?side4 A22.out).mono ?_); (case side1 => exact pc ((Kd.V_reads' HO_503000.out).2.2)); (case side2 => exact (Kd.V_reads' HO_503000.out).2.1); (case side3 => exact pc ((Kd.Q_reads' HO_503001.out).2.2)); (case side4 => exact (Kd.Q_reads' HO_503001.out).2.1); rintro e w24 ⟨v510, rfl, ho0, hb⟩; replace HO_503000 := am (Kd.V_elder' (pv HO_503000.out) (Kd.R_base ho0) hb); replace HO_503001 := am (Kd.Q_below (pq HO_503001.out) hb); have HO511 := am (Kd.R_lower (Kd.R_new' ho0 (Kd.R_lt (pr HO_5.out))) (below_size (bg1 HB.out GE502.out))); replace HO_5 := am (Kd.R_elder' (pr HO_5.out) (Kd.R_base ho0) hb); replace BK502 := am (blk_below (pb BK502.out) hb); replace HB := am (below_step (bg1 HB.out GE502.out) hb); clear hb ho0; obtain ⟨Ao25, co25, eo25⟩ := Kd.R_slice HO511.out; subst eo25))
     go_ret
     exact (rq (bg1 HB.out GE502.out))
   replace c21 := Bool.eq_false_iff.mpr c21
   subst c21
   rw [if_neg (show ¬ (false = true) by decide)] at H
   replace H := Option.bind_eq_some_iff.mp H
   obtain ⟨t512, A260, H⟩ := H
   have A26 := am A260
   clear A260
   replace H := Option.bind_eq_some_iff.mp H
   obtain ⟨t513, A270, H⟩ := H
   have A27 := am A270
   clear A270
   by_cases c28 : (t513.length : Int) = (wrap64 ((t503.length : Int) - 1))
   rotate_left
   · rw [if_neg c28] at H
     have c28b0 : ((t513.length : Int) == (wrap64 ((t503.length : Int) - 1))) = false := beq_eq_false_iff_ne.mpr c28
     have c28b1 : ((t513.length : Int) != (wrap64 ((t503.length : Int) - 1))) = true := bne_iff_ne.mpr c28
     cases H
     exact absurd HRT.out (by decide)
   rw [if_pos c28] at H
   have c28b0 : ((t513.length : Int) == (wrap64 ((t503.length : Int) - 1))) = true := beq_iff_eq.mpr c28
   have c28b1 : ((t513.length : Int) != (wrap64 ((t503.length : Int) - 1))) = false := bne_eq_false_iff_eq.mpr c28
   clear c28
   have H' := am H
   clear H
   try go_wp2
   replace HO_5 := am (Kd.R_drew HO_5.out)
   replace HO_503000 := am (Kd.V_drew HO_503000.out)
   replace HO_503001 := am (Kd.Q_drew HO_503001.out)
   replace BK502 := am (blk_drew BK502.out)
   replace HB := am (below_drew1 HB.out)
   refine start_ (n := 7) (S := fun w' => w'.cell? ⟨gb502, 0, none⟩ = some (.slice Ao8 t495.length co8) ∧ w'.cell? ⟨gb502, 1, none⟩ = some (.slice Ao10 t498.length co10)) (ds := []) (bt 7 0) (by kernel_rfl) rfl rfl ⟨(blk_cell BK502.out 0).trans rfl, (blk_cell BK502.out 1).trans rfl⟩ (fun hHeld => ?_)
   generalize wc.drew = w29 at HO_5 HO_503000 HO_503001 BK502 HB hHeld ⊢
   refine pi_ 1 40 (bt 7 2) rfl rfl (fun _ _ _ h => h) ?_
   refine pi_ 3 42 (bt 7 10) rfl rfl (fun _ _ _ h => h) ?_
   refine pm_ 0 39 (bt 7 11) rfl rfl (by kernel_rfl) (fun _ _ _ h => h) hHeld ?_
   refine pm_ 2 41 (bt 7 15) rfl rfl (by kernel_rfl) (fun _ _ _ h => h) hHeld ?_
   refine one_ (i := 4) (N := some 43) (bt 7 31) rfl rfl (by kernel_rfl) (by decide) (fun K hK => ?_)
   refine qg Try.func8 #[.agg #[.slice Ao8 t495.length co8, .slice Ao10 t498.length co10], .int .i64 t501] rfl rfl ?_
   with_reducible refine (impl_StoreRead.calls _ _ t495 _ _ t498 t501 t512 _ ?side1 ?side2 ?side3 ?side4 A26.out).mono ?_
   (case side1 => exact pc ((Kd.V_reads' HO_503000.out).2.2))
   (case side2 => exact (Kd.V_reads' HO_503000.out).2.1)
   (case side3 => exact pc ((Kd.Q_reads' HO_503001.out).2.2))
   (case side4 => exact (Kd.Q_reads' HO_503001.out).2.1)
   rintro e w30 ⟨rfl, hb⟩
   refine ⟨_, rfl, ?_⟩
   replace HO_5 := am (Kd.R_below (pr HO_5.out) hb)
   replace HO_503000 := am (Kd.V_below (pv HO_503000.out) hb)
   replace HO_503001 := am (Kd.Q_below (pq HO_503001.out) hb)
   replace BK502 := am (blk_below (pb BK502.out) hb)
   replace HB := am (below_step (bg1 HB.out GE502.out) hb)
   clear hb
   refine hK.out _ _ ⟨(blk_cell BK502.out 0).trans rfl, (blk_cell BK502.out 1).trans rfl⟩ (fun hHeld => ?_)
   clear hK K
   refine qn (some 43) ?_
   refine one_ (i := 5) (N := some 44) (bt 7 63) rfl rfl (by kernel_rfl) (by decide) (fun K hK => ?_)
   refine qg Try.func7 #[.agg #[.slice Ao8 t495.length co8, .slice Ao10 t498.length co10], .int .i64 t501, .int .i64 t512] rfl rfl ?_
   with_reducible refine (impl_StepsPut.calls kj4 _ _ t495 _ _ t498 t501 t512 t513 _ ?side1 ?side2 ?side3 ?side4 A27.out).mono ?_
   (case side1 => exact pc ((Kd.V_reads' HO_503000.out).2.2))
   (case side2 => exact (Kd.V_reads' HO_503000.out).2.1)
   (case side3 => exact pc ((Kd.Q_reads' HO_503001.out).2.2))
   (case side4 => exact (Kd.Q_reads' HO_503001.out).2.1)
   rintro e w31 ⟨v514, rfl, ho0, hb⟩
   refine ⟨_, rfl, ?_⟩
   replace HO_503000 := am (Kd.V_elder' (pv HO_503000.out) (Kd.R_base ho0) hb)
   replace HO_503001 := am (Kd.Q_below (pq HO_503001.out) hb)
   have HO515 := am (Kd.R_lower (Kd.R_new' ho0 (Kd.R_lt (pr HO_5.out))) (below_size (bg1 HB.out GE502.out)))
   replace HO_5 := am (Kd.R_elder' (pr HO_5.out) (Kd.R_base ho0) hb)
   replace BK502 := am (blk_below (pb BK502.out) hb)
   replace HB := am (below_step (bg1 HB.out GE502.out) hb)
   clear hb ho0
   refine hK.out _ _ ⟨(blk_cell BK502.out 0).trans rfl, (blk_cell BK502.out 1).trans rfl⟩ (fun hHeld => ?_)
   clear hK K
   refine qn (some 44) ?_
   refine pi_ 6 7 (bt 7 127) rfl rfl (fun _ _ _ h => h) ?_
   refine done_ (by kernel_rfl) ?_
   obtain ⟨Ao32, co32, eo32⟩ := Kd.R_slice HO515.out
   subst eo32
   try go_wp2
   go_loopg [8] kj4 (fun kq v8 w' => ∃ (x8_2 : Int), v8 = .int .i64 x8_2 ∧ Aside0 (laws_FnFlushFew.l0 kq t503 t513 x8_2 = some r) ∧ Aside0 (kq ≤ kj4) ∧ Aside0 (Kd.R k36 36 w' w.heap.size (fun k_ => some k_ ≠ ((.slice Ao32 t513.length co32) : Value).ownBlock) (.slice Ao12 t503.length co12) t503) ∧ Aside0 (Kd.R k36 36 w' w.heap.size (fun k_ => some k_ ≠ ((.slice Ao12 t503.length co12) : Value).ownBlock) (.slice Ao32 t513.length co32) t513) ∧ Aside0 (Kd.V k72 72 w' w.heap.size (fun k_ => some k_ ≠ ((.slice Ao12 t503.length co12) : Value).ownBlock ∧ some k_ ≠ ((.slice Ao32 t513.length co32) : Value).ownBlock ∧ some k_ ≠ ((.slice Ao10 t498.length co10) : Value).ownBlock ∧ k_ ≠ gb502) (.slice Ao8 t495.length co8) t495) ∧ Aside0 (Kd.Q (Kd.int .i64) 3 w' w.heap.size (fun _ => True) (.slice Ao10 t498.length co10) t498) ∧ Aside0 (w'.heap[gb502]? = some (.cells #[(.slice Ao8 t495.length co8), (.slice Ao10 t498.length co10)] 26 (0, 0))) ∧ Aside0 (Below w.heap.size w w'))
   case atStart => exact ⟨(0), rf, H', ⟨Nat.le_refl _⟩, ⟨pr (Kd.R_mono HO_5.out (fun _ hk => hk.2))⟩, ⟨pr (Kd.R_mono HO515.out (fun _ hk => hk.2))⟩, ⟨pv (Kd.V_mono HO_503000.out (fun _ hk => ⟨hk.1.1, ⟨hk.2, ⟨hk.1.2.1, hk.1.2.2⟩⟩⟩))⟩, ⟨pq HO_503001.out⟩, ⟨pb BK502.out⟩, ⟨bg1 HB.out GE502.out⟩⟩
   case round =>
    clear H'
    obtain ⟨x8_2, rfl, HA, HK2, HO_5, HO_7, HO_503000, HO_503001, BK502, HB⟩ := hrel
    cases gk with
    | zero => exact absurd HA.out (by simp [laws_FnFlushFew.l0])
    | succ k2 =>
     have H := HA.out
     clear HA
     simp only [laws_FnFlushFew.l0] at H
     by_cases c33 : x8_2 < (t513.length : Int)
     rotate_left
     · rw [if_neg c33] at H
       have c33b0 := decide_eq_false c33
       clear c33
       obtain rfl := Option.some.inj H
       go_wp2
       go_ret
       exact (rq (bg1 HB.out GE502.out))
     rw [if_pos c33] at H
     have c33b0 := decide_eq_true c33
     clear c33
     obtain ⟨ji34, hji34⟩ : ∃ j_ : Int, (wrap64 (x8_2 + 1)) = j_ := ⟨_, rfl⟩
     replace H : (if 0 ≤ (ji34) then (if (ji34) < (t503.length : Int) then (if x8_2 = (wrap64 ((t513.length : Int) - 1)) then (if ((rd_T36 t503 (ji34)).f4.f0) = 2 then (if 0 ≤ x8_2 then (if (!(((rd_T36 t503 (ji34)).f0) == ((rd_T36 t513 x8_2).f0)) || (!(((rd_T36 t503 (ji34)).f1) == ((rd_T36 t513 x8_2).f1)) || (!(((rd_T36 t503 (ji34)).f2) == ((rd_T36 t513 x8_2).f2)) || (!(((rd_T36 t503 (ji34)).f3) == ((rd_T36 t513 x8_2).f3)) || ((!(1 == ((rd_T36 t513 x8_2).f4.f0)) || (!(((rd_T36 t503 (ji34)).f4.f1) == ((rd_T36 t513 x8_2).f4.f1)) || (!(((rd_T36 t503 (ji34)).f4.f2) == ((rd_T36 t513 x8_2).f4.f2)) || (!(((rd_T36 t503 (ji34)).f4.f3) == ((rd_T36 t513 x8_2).f4.f3))))))))))) = true then (some false) else (laws_FnFlushFew.l0 k2 t503 t513 ji34)) else (none)) else (some false)) else (if 0 ≤ x8_2 then (if (!(((rd_T36 t503 (ji34)).f0) == ((rd_T36 t513 x8_2).f0)) || (!(((rd_T36 t503 (ji34)).f1) == ((rd_T36 t513 x8_2).f1)) || (!(((rd_T36 t503 (ji34)).f2) == ((rd_T36 t513 x8_2).f2)) || (!(((rd_T36 t503 (ji34)).f3) == ((rd_T36 t513 x8_2).f3)) || ((!(((rd_T36 t503 (ji34)).f4.f0) == ((rd_T36 t513 x8_2).f4.f0)) || (!(((rd_T36 t503 (ji34)).f4.f1) == ((rd_T36 t513 x8_2).f4.f1)) || (!(((rd_T36 t503 (ji34)).f4.f2) == ((rd_T36 t513 x8_2).f4.f2)) || (!(((rd_T36 t503 (ji34)).f4.f3) == ((rd_T36 t513 x8_2).f4.f3))))))))))) = true then (some false) else (laws_FnFlushFew.l0 k2 t503 t513 ji34)) else (none))) else (none)) else (none)) = some r := by first | (rw [hji34] at H; exact H) | (simp only [hji34] at H ⊢; exact H)
     have hji34w : (IntKind.i64.wrap (x8_2 + 1)) = ji34 := (i64_w _).trans hji34
     obtain ⟨c35b0, H⟩ := ifd H
     obtain ⟨c36b0, H⟩ := ifd H
     by_cases c37 : x8_2 = (wrap64 ((t513.length : Int) - 1))
     rotate_left
     · rw [if_neg c37] at H
       have c37b0 : (x8_2 == (wrap64 ((t513.length : Int) - 1))) = false := beq_eq_false_iff_ne.mpr c37
       have c37b1 : (x8_2 != (wrap64 ((t513.length : Int) - 1))) = true := bne_iff_ne.mpr c37
       obtain ⟨c54b0, H⟩ := ifd H
       by_cases c55 : (!(((rd_T36 t503 (ji34)).f0) == ((rd_T36 t513 x8_2).f0)) || (!(((rd_T36 t503 (ji34)).f1) == ((rd_T36 t513 x8_2).f1)) || (!(((rd_T36 t503 (ji34)).f2) == ((rd_T36 t513 x8_2).f2)) || (!(((rd_T36 t503 (ji34)).f3) == ((rd_T36 t513 x8_2).f3)) || ((!(((rd_T36 t503 (ji34)).f4.f0) == ((rd_T36 t513 x8_2).f4.f0)) || (!(((rd_T36 t503 (ji34)).f4.f1) == ((rd_T36 t513 x8_2).f4.f1)) || (!(((rd_T36 t503 (ji34)).f4.f2) == ((rd_T36 t513 x8_2).f4.f2)) || (!(((rd_T36 t503 (ji34)).f4.f3) == ((rd_T36 t513 x8_2).f4.f3))))))))))) = true
       · rw [if_pos c55] at H
         have c55b0 : (!(((rd_T36 t503 (ji34)).f0) == ((rd_T36 t513 x8_2).f0)) || (!(((rd_T36 t503 (ji34)).f1) == ((rd_T36 t513 x8_2).f1)) || (!(((rd_T36 t503 (ji34)).f2) == ((rd_T36 t513 x8_2).f2)) || (!(((rd_T36 t503 (ji34)).f3) == ((rd_T36 t513 x8_2).f3)) || ((!(((rd_T36 t503 (ji34)).f4.f0) == ((rd_T36 t513 x8_2).f4.f0)) || (!(((rd_T36 t503 (ji34)).f4.f1) == ((rd_T36 t513 x8_2).f4.f1)) || (!(((rd_T36 t503 (ji34)).f4.f2) == ((rd_T36 t513 x8_2).f4.f2)) || (!(((rd_T36 t503 (ji34)).f4.f3) == ((rd_T36 t513 x8_2).f4.f3))))))))))) = true := c55
         clear c55
         cases H
         exact absurd HRT.out (by decide)
       rw [if_neg c55] at H
       have c55b0 : (!(((rd_T36 t503 (ji34)).f0) == ((rd_T36 t513 x8_2).f0)) || (!(((rd_T36 t503 (ji34)).f1) == ((rd_T36 t513 x8_2).f1)) || (!(((rd_T36 t503 (ji34)).f2) == ((rd_T36 t513 x8_2).f2)) || (!(((rd_T36 t503 (ji34)).f3) == ((rd_T36 t513 x8_2).f3)) || ((!(((rd_T36 t503 (ji34)).f4.f0) == ((rd_T36 t513 x8_2).f4.f0)) || (!(((rd_T36 t503 (ji34)).f4.f1) == ((rd_T36 t513 x8_2).f4.f1)) || (!(((rd_T36 t503 (ji34)).f4.f2) == ((rd_T36 t513 x8_2).f4.f2)) || (!(((rd_T36 t503 (ji34)).f4.f3) == ((rd_T36 t513 x8_2).f4.f3))))))))))) = false := by simpa using c55
       clear c55
       have H' := am H
       clear H
       have p516 : 0 ≤ ((ji34) : Int) := ofb
       have q516 : (ji34) < (t503.length : Int) := ofb
       obtain ⟨ad516, e516, hx516_0, hx516_1, hx516_2, hx516_3, hx516_4, hx516_5, hx516_6, hx516_7⟩ := at_T36 (Kd.R_reads' HO_5.out).2.2 (ji34) p516 q516
       cases e516
       replace p516 := eq_true p516
       replace q516 := eq_true q516
       try go_wp2_with (first | ((with_reducible refine bx 9 #[.int .i64 0, .int .i64 0, .int .i64 0, .int .i64 0, .int .i64 0, .int .i64 0, .int .i64 0, .int .i64 0] 36 ?hd ?_ ?hg ?hrun); (case hd => rfl); (case hg => rfl); (case hrun => first | (go_simp; done) | (go_simp; rfl)); intro gb517 hg w61 hbox hb; replace HO_5 := am (Kd.R_below (Kd.R_elderB (pr HO_5.out) gb517 (Nat.le_of_eq hg.symm)) hb); replace HO_7 := am (Kd.R_below (Kd.R_elderB (pr HO_7.out) gb517 (Nat.le_of_eq hg.symm)) hb); replace HO_503000 := am (Kd.V_below (Kd.V_elderB (pv HO_503000.out) gb517 (Nat.le_of_eq hg.symm)) hb); replace HO_503001 := am (Kd.Q_below (pq HO_503001.out) hb); have BK517 := am (hbox); have GW517 := am (ge hg (bg1 HB.out GE502.out)); have GE517 := GW517; replace HB := am (below_step (bg1 HB.out GE502.out) hb); have NB502_517 := am (nb hg (pb BK502.out)); have NB517_502 := am (Ne.symm NB502_517.out); replace BK502 := am (blk_below (pb BK502.out) hb); clear hb hbox hg; have hnb62 := NB517_502.out; have hnc62 := NB502_517.out; obtain ⟨hcz63_0, hcz63_1, hcz63_2, hcz63_3, hcz63_4, hcz63_5, hcz63_6, hcz63_7⟩ := b8 BK517.out; obtain ⟨hfz63_0, hfz63_1, hfz63_2, hfz63_3, hfz63_4, hfz63_5, hfz63_6, hfz63_7⟩ := f8 BK517.out))
       have n0_ : Aside0 (Kd.R k36 36 ((((((((w61.setCell ⟨gb517, 0, none⟩ (.int .i64 ((rd_T36 t503 (ji34)).f0))).setCell ⟨gb517, 1, none⟩ (.int .i64 ((rd_T36 t503 (ji34)).f1))).setCell ⟨gb517, 2, none⟩ (.int .i64 ((rd_T36 t503 (ji34)).f2))).setCell ⟨gb517, 3, none⟩ (.int .i64 ((rd_T36 t503 (ji34)).f3))).setCell ⟨gb517, 4, none⟩ (.int .i64 ((rd_T36 t503 (ji34)).f4.f0))).setCell ⟨gb517, 5, none⟩ (.int .i64 ((rd_T36 t503 (ji34)).f4.f1))).setCell ⟨gb517, 6, none⟩ (.int .i64 ((rd_T36 t503 (ji34)).f4.f2))).setCell ⟨gb517, 7, none⟩ (.int .i64 ((rd_T36 t503 (ji34)).f4.f3))) w.heap.size (fun k_ => some k_ ≠ (.slice Ao32 t513.length co32 : Value).ownBlock ∧ k_ ≠ gb517) (.slice (some ad516) t503.length co12) t503) := ⟨pr (Kd.R_mono (Kd.R_far (p := ⟨gb517, 7, none⟩) (Kd.R_far (p := ⟨gb517, 6, none⟩) (Kd.R_far (p := ⟨gb517, 5, none⟩) (Kd.R_far (p := ⟨gb517, 4, none⟩) (Kd.R_far (p := ⟨gb517, 3, none⟩) (Kd.R_far (p := ⟨gb517, 2, none⟩) (Kd.R_far (p := ⟨gb517, 1, none⟩) (Kd.R_far (p := ⟨gb517, 0, none⟩) (Kd.R_mono HO_5.out (fun k_ hk => (⟨hk, hk.2⟩ : _ ∧ k_ ≠ gb517))) (fun _ hk => hk.2) (.int .i64 ((rd_T36 t503 (ji34)).f0))) (fun _ hk => hk.2) (.int .i64 ((rd_T36 t503 (ji34)).f1))) (fun _ hk => hk.2) (.int .i64 ((rd_T36 t503 (ji34)).f2))) (fun _ hk => hk.2) (.int .i64 ((rd_T36 t503 (ji34)).f3))) (fun _ hk => hk.2) (.int .i64 ((rd_T36 t503 (ji34)).f4.f0))) (fun _ hk => hk.2) (.int .i64 ((rd_T36 t503 (ji34)).f4.f1))) (fun _ hk => hk.2) (.int .i64 ((rd_T36 t503 (ji34)).f4.f2))) (fun _ hk => hk.2) (.int .i64 ((rd_T36 t503 (ji34)).f4.f3))) (fun _ hk => ⟨hk.1.1, hk.1.2⟩))⟩
       have n1_ : Aside0 (Kd.R k36 36 ((((((((w61.setCell ⟨gb517, 0, none⟩ (.int .i64 ((rd_T36 t503 (ji34)).f0))).setCell ⟨gb517, 1, none⟩ (.int .i64 ((rd_T36 t503 (ji34)).f1))).setCell ⟨gb517, 2, none⟩ (.int .i64 ((rd_T36 t503 (ji34)).f2))).setCell ⟨gb517, 3, none⟩ (.int .i64 ((rd_T36 t503 (ji34)).f3))).setCell ⟨gb517, 4, none⟩ (.int .i64 ((rd_T36 t503 (ji34)).f4.f0))).setCell ⟨gb517, 5, none⟩ (.int .i64 ((rd_T36 t503 (ji34)).f4.f1))).setCell ⟨gb517, 6, none⟩ (.int .i64 ((rd_T36 t503 (ji34)).f4.f2))).setCell ⟨gb517, 7, none⟩ (.int .i64 ((rd_T36 t503 (ji34)).f4.f3))) w.heap.size (fun k_ => some k_ ≠ (.slice (some ad516) t503.length co12 : Value).ownBlock ∧ k_ ≠ gb517) (.slice Ao32 t513.length co32) t513) := ⟨pr (Kd.R_mono (Kd.R_far (p := ⟨gb517, 7, none⟩) (Kd.R_far (p := ⟨gb517, 6, none⟩) (Kd.R_far (p := ⟨gb517, 5, none⟩) (Kd.R_far (p := ⟨gb517, 4, none⟩) (Kd.R_far (p := ⟨gb517, 3, none⟩) (Kd.R_far (p := ⟨gb517, 2, none⟩) (Kd.R_far (p := ⟨gb517, 1, none⟩) (Kd.R_far (p := ⟨gb517, 0, none⟩) (Kd.R_mono HO_7.out (fun k_ hk => (⟨hk, hk.2⟩ : _ ∧ k_ ≠ gb517))) (fun _ hk => hk.2) (.int .i64 ((rd_T36 t503 (ji34)).f0))) (fun _ hk => hk.2) (.int .i64 ((rd_T36 t503 (ji34)).f1))) (fun _ hk => hk.2) (.int .i64 ((rd_T36 t503 (ji34)).f2))) (fun _ hk => hk.2) (.int .i64 ((rd_T36 t503 (ji34)).f3))) (fun _ hk => hk.2) (.int .i64 ((rd_T36 t503 (ji34)).f4.f0))) (fun _ hk => hk.2) (.int .i64 ((rd_T36 t503 (ji34)).f4.f1))) (fun _ hk => hk.2) (.int .i64 ((rd_T36 t503 (ji34)).f4.f2))) (fun _ hk => hk.2) (.int .i64 ((rd_T36 t503 (ji34)).f4.f3))) (fun _ hk => ⟨hk.1.1, hk.1.2⟩))⟩
       have n2_ : Aside0 (Kd.V k72 72 ((((((((w61.setCell ⟨gb517, 0, none⟩ (.int .i64 ((rd_T36 t503 (ji34)).f0))).setCell ⟨gb517, 1, none⟩ (.int .i64 ((rd_T36 t503 (ji34)).f1))).setCell ⟨gb517, 2, none⟩ (.int .i64 ((rd_T36 t503 (ji34)).f2))).setCell ⟨gb517, 3, none⟩ (.int .i64 ((rd_T36 t503 (ji34)).f3))).setCell ⟨gb517, 4, none⟩ (.int .i64 ((rd_T36 t503 (ji34)).f4.f0))).setCell ⟨gb517, 5, none⟩ (.int .i64 ((rd_T36 t503 (ji34)).f4.f1))).setCell ⟨gb517, 6, none⟩ (.int .i64 ((rd_T36 t503 (ji34)).f4.f2))).setCell ⟨gb517, 7, none⟩ (.int .i64 ((rd_T36 t503 (ji34)).f4.f3))) w.heap.size (fun k_ => some k_ ≠ (.slice (some ad516) t503.length co12 : Value).ownBlock ∧ some k_ ≠ (.slice Ao32 t513.length co32 : Value).ownBlock ∧ some k_ ≠ (.slice Ao10 t498.length co10 : Value).ownBlock ∧ k_ ≠ gb502 ∧ k_ ≠ gb517) (.slice Ao8 t495.length co8) t495) := ⟨pv (Kd.V_mono (Kd.V_far (p := ⟨gb517, 7, none⟩) (Kd.V_far (p := ⟨gb517, 6, none⟩) (Kd.V_far (p := ⟨gb517, 5, none⟩) (Kd.V_far (p := ⟨gb517, 4, none⟩) (Kd.V_far (p := ⟨gb517, 3, none⟩) (Kd.V_far (p := ⟨gb517, 2, none⟩) (Kd.V_far (p := ⟨gb517, 1, none⟩) (Kd.V_far (p := ⟨gb517, 0, none⟩) (Kd.V_mono HO_503000.out (fun k_ hk => (⟨hk, hk.2⟩ : _ ∧ k_ ≠ gb517))) (fun _ hk => hk.2) (.int .i64 ((rd_T36 t503 (ji34)).f0))) (fun _ hk => hk.2) (.int .i64 ((rd_T36 t503 (ji34)).f1))) (fun _ hk => hk.2) (.int .i64 ((rd_T36 t503 (ji34)).f2))) (fun _ hk => hk.2) (.int .i64 ((rd_T36 t503 (ji34)).f3))) (fun _ hk => hk.2) (.int .i64 ((rd_T36 t503 (ji34)).f4.f0))) (fun _ hk => hk.2) (.int .i64 ((rd_T36 t503 (ji34)).f4.f1))) (fun _ hk => hk.2) (.int .i64 ((rd_T36 t503 (ji34)).f4.f2))) (fun _ hk => hk.2) (.int .i64 ((rd_T36 t503 (ji34)).f4.f3))) (fun _ hk => ⟨hk.1.1.1, ⟨hk.1.1.2.1, ⟨hk.1.1.2.2.1, ⟨hk.1.1.2.2.2, hk.1.2⟩⟩⟩⟩))⟩
       have n3_ : Aside0 (Kd.Q (Kd.int .i64) 3 ((((((((w61.setCell ⟨gb517, 0, none⟩ (.int .i64 ((rd_T36 t503 (ji34)).f0))).setCell ⟨gb517, 1, none⟩ (.int .i64 ((rd_T36 t503 (ji34)).f1))).setCell ⟨gb517, 2, none⟩ (.int .i64 ((rd_T36 t503 (ji34)).f2))).setCell ⟨gb517, 3, none⟩ (.int .i64 ((rd_T36 t503 (ji34)).f3))).setCell ⟨gb517, 4, none⟩ (.int .i64 ((rd_T36 t503 (ji34)).f4.f0))).setCell ⟨gb517, 5, none⟩ (.int .i64 ((rd_T36 t503 (ji34)).f4.f1))).setCell ⟨gb517, 6, none⟩ (.int .i64 ((rd_T36 t503 (ji34)).f4.f2))).setCell ⟨gb517, 7, none⟩ (.int .i64 ((rd_T36 t503 (ji34)).f4.f3))) w.heap.size (fun _ => True) (.slice Ao10 t498.length co10) t498) := ⟨pq (Kd.Q_mono (Kd.Q_far (p := ⟨gb517, 7, none⟩) (Kd.Q_far (p := ⟨gb517, 6, none⟩) (Kd.Q_far (p := ⟨gb517, 5, none⟩) (Kd.Q_far (p := ⟨gb517, 4, none⟩) (Kd.Q_far (p := ⟨gb517, 3, none⟩) (Kd.Q_far (p := ⟨gb517, 2, none⟩) (Kd.Q_far (p := ⟨gb517, 1, none⟩) (Kd.Q_far (p := ⟨gb517, 0, none⟩) (Kd.Q_types HO_503001.out BK517.out (by decide)) (fun _ hk => hk.2) (.int .i64 ((rd_T36 t503 (ji34)).f0))) (fun _ hk => hk.2) (.int .i64 ((rd_T36 t503 (ji34)).f1))) (fun _ hk => hk.2) (.int .i64 ((rd_T36 t503 (ji34)).f2))) (fun _ hk => hk.2) (.int .i64 ((rd_T36 t503 (ji34)).f3))) (fun _ hk => hk.2) (.int .i64 ((rd_T36 t503 (ji34)).f4.f0))) (fun _ hk => hk.2) (.int .i64 ((rd_T36 t503 (ji34)).f4.f1))) (fun _ hk => hk.2) (.int .i64 ((rd_T36 t503 (ji34)).f4.f2))) (fun _ hk => hk.2) (.int .i64 ((rd_T36 t503 (ji34)).f4.f3))) (fun _ hk => trivial))⟩
       have n4_ : Aside0 (((((((((w61.setCell ⟨gb517, 0, none⟩ (.int .i64 ((rd_T36 t503 (ji34)).f0))).setCell ⟨gb517, 1, none⟩ (.int .i64 ((rd_T36 t503 (ji34)).f1))).setCell ⟨gb517, 2, none⟩ (.int .i64 ((rd_T36 t503 (ji34)).f2))).setCell ⟨gb517, 3, none⟩ (.int .i64 ((rd_T36 t503 (ji34)).f3))).setCell ⟨gb517, 4, none⟩ (.int .i64 ((rd_T36 t503 (ji34)).f4.f0))).setCell ⟨gb517, 5, none⟩ (.int .i64 ((rd_T36 t503 (ji34)).f4.f1))).setCell ⟨gb517, 6, none⟩ (.int .i64 ((rd_T36 t503 (ji34)).f4.f2))).setCell ⟨gb517, 7, none⟩ (.int .i64 ((rd_T36 t503 (ji34)).f4.f3))).heap[gb502]? = some (.cells #[.slice Ao8 t495.length co8, .slice Ao10 t498.length co10] 26 (0, 0))) := ⟨bf1 (bf2 (bf5 (pb BK502.out) NB502_517.out) NB502_517.out) NB502_517.out⟩
       have n5_ : Aside0 (((((((((w61.setCell ⟨gb517, 0, none⟩ (.int .i64 ((rd_T36 t503 (ji34)).f0))).setCell ⟨gb517, 1, none⟩ (.int .i64 ((rd_T36 t503 (ji34)).f1))).setCell ⟨gb517, 2, none⟩ (.int .i64 ((rd_T36 t503 (ji34)).f2))).setCell ⟨gb517, 3, none⟩ (.int .i64 ((rd_T36 t503 (ji34)).f3))).setCell ⟨gb517, 4, none⟩ (.int .i64 ((rd_T36 t503 (ji34)).f4.f0))).setCell ⟨gb517, 5, none⟩ (.int .i64 ((rd_T36 t503 (ji34)).f4.f1))).setCell ⟨gb517, 6, none⟩ (.int .i64 ((rd_T36 t503 (ji34)).f4.f2))).setCell ⟨gb517, 7, none⟩ (.int .i64 ((rd_T36 t503 (ji34)).f4.f3))).heap[gb517]? = some (.cells #[.int .i64 ((rd_T36 t503 (ji34)).f0), .int .i64 ((rd_T36 t503 (ji34)).f1), .int .i64 ((rd_T36 t503 (ji34)).f2), .int .i64 ((rd_T36 t503 (ji34)).f3), .int .i64 ((rd_T36 t503 (ji34)).f4.f0), .int .i64 ((rd_T36 t503 (ji34)).f4.f1), .int .i64 ((rd_T36 t503 (ji34)).f4.f2), .int .i64 ((rd_T36 t503 (ji34)).f4.f3)] 36 (0, 0))) := ⟨by (with_reducible repeat (first | refine blk_drewN ?_ _ | refine blk_drew ?_ | refine blk_alloc ?_ _)); refine blk_put (cs := #[.int .i64 ((rd_T36 t503 (ji34)).f0), .int .i64 ((rd_T36 t503 (ji34)).f1), .int .i64 ((rd_T36 t503 (ji34)).f2), .int .i64 ((rd_T36 t503 (ji34)).f3), .int .i64 ((rd_T36 t503 (ji34)).f4.f0), .int .i64 ((rd_T36 t503 (ji34)).f4.f1), .int .i64 ((rd_T36 t503 (ji34)).f4.f2), .int .i64 0]) ?_ 7 _ rfl; (with_reducible repeat (first | refine blk_drewN ?_ _ | refine blk_drew ?_ | refine blk_alloc ?_ _)); refine blk_put (cs := #[.int .i64 ((rd_T36 t503 (ji34)).f0), .int .i64 ((rd_T36 t503 (ji34)).f1), .int .i64 ((rd_T36 t503 (ji34)).f2), .int .i64 ((rd_T36 t503 (ji34)).f3), .int .i64 ((rd_T36 t503 (ji34)).f4.f0), .int .i64 ((rd_T36 t503 (ji34)).f4.f1), .int .i64 0, .int .i64 0]) ?_ 6 _ rfl; (with_reducible repeat (first | refine blk_drewN ?_ _ | refine blk_drew ?_ | refine blk_alloc ?_ _)); refine blk_put (cs := #[.int .i64 ((rd_T36 t503 (ji34)).f0), .int .i64 ((rd_T36 t503 (ji34)).f1), .int .i64 ((rd_T36 t503 (ji34)).f2), .int .i64 ((rd_T36 t503 (ji34)).f3), .int .i64 ((rd_T36 t503 (ji34)).f4.f0), .int .i64 0, .int .i64 0, .int .i64 0]) ?_ 5 _ rfl; (with_reducible repeat (first | refine blk_drewN ?_ _ | refine blk_drew ?_ | refine blk_alloc ?_ _)); refine blk_put (cs := #[.int .i64 ((rd_T36 t503 (ji34)).f0), .int .i64 ((rd_T36 t503 (ji34)).f1), .int .i64 ((rd_T36 t503 (ji34)).f2), .int .i64 ((rd_T36 t503 (ji34)).f3), .int .i64 0, .int .i64 0, .int .i64 0, .int .i64 0]) ?_ 4 _ rfl; (with_reducible repeat (first | refine blk_drewN ?_ _ | refine blk_drew ?_ | refine blk_alloc ?_ _)); refine blk_put (cs := #[.int .i64 ((rd_T36 t503 (ji34)).f0), .int .i64 ((rd_T36 t503 (ji34)).f1), .int .i64 ((rd_T36 t503 (ji34)).f2), .int .i64 0, .int .i64 0, .int .i64 0, .int .i64 0, .int .i64 0]) ?_ 3 _ rfl; (with_reducible repeat (first | refine blk_drewN ?_ _ | refine blk_drew ?_ | refine blk_alloc ?_ _)); refine blk_put (cs := #[.int .i64 ((rd_T36 t503 (ji34)).f0), .int .i64 ((rd_T36 t503 (ji34)).f1), .int .i64 0, .int .i64 0, .int .i64 0, .int .i64 0, .int .i64 0, .int .i64 0]) ?_ 2 _ rfl; (with_reducible repeat (first | refine blk_drewN ?_ _ | refine blk_drew ?_ | refine blk_alloc ?_ _)); refine blk_put (cs := #[.int .i64 ((rd_T36 t503 (ji34)).f0), .int .i64 0, .int .i64 0, .int .i64 0, .int .i64 0, .int .i64 0, .int .i64 0, .int .i64 0]) ?_ 1 _ rfl; (with_reducible repeat (first | refine blk_drewN ?_ _ | refine blk_drew ?_ | refine blk_alloc ?_ _)); refine blk_put (cs := #[.int .i64 0, .int .i64 0, .int .i64 0, .int .i64 0, .int .i64 0, .int .i64 0, .int .i64 0, .int .i64 0]) ?_ 0 _ rfl; (with_reducible repeat (first | refine blk_drewN ?_ _ | refine blk_drew ?_ | refine blk_alloc ?_ _)); exact BK517.out⟩
       have n6_ : Aside0 (Below w.heap.size w ((((((((w61.setCell ⟨gb517, 0, none⟩ (.int .i64 ((rd_T36 t503 (ji34)).f0))).setCell ⟨gb517, 1, none⟩ (.int .i64 ((rd_T36 t503 (ji34)).f1))).setCell ⟨gb517, 2, none⟩ (.int .i64 ((rd_T36 t503 (ji34)).f2))).setCell ⟨gb517, 3, none⟩ (.int .i64 ((rd_T36 t503 (ji34)).f3))).setCell ⟨gb517, 4, none⟩ (.int .i64 ((rd_T36 t503 (ji34)).f4.f0))).setCell ⟨gb517, 5, none⟩ (.int .i64 ((rd_T36 t503 (ji34)).f4.f1))).setCell ⟨gb517, 6, none⟩ (.int .i64 ((rd_T36 t503 (ji34)).f4.f2))).setCell ⟨gb517, 7, none⟩ (.int .i64 ((rd_T36 t503 (ji34)).f4.f3)))) := ⟨bg2 HB.out GE502.out GE517.out⟩
       (try clear HO_5)
       (try clear HO_7)
       (try clear HO_503000)
       (try clear HO_503001)
       (try clear BK502)
       (try clear BK517)
       (try clear HB)
       generalize ((((((((w61.setCell ⟨gb517, 0, none⟩ (.int .i64 ((rd_T36 t503 (ji34)).f0))).setCell ⟨gb517, 1, none⟩ (.int .i64 ((rd_T36 t503 (ji34)).f1))).setCell ⟨gb517, 2, none⟩ (.int .i64 ((rd_T36 t503 (ji34)).f2))).setCell ⟨gb517, 3, none⟩ (.int .i64 ((rd_T36 t503 (ji34)).f3))).setCell ⟨gb517, 4, none⟩ (.int .i64 ((rd_T36 t503 (ji34)).f4.f0))).setCell ⟨gb517, 5, none⟩ (.int .i64 ((rd_T36 t503 (ji34)).f4.f1))).setCell ⟨gb517, 6, none⟩ (.int .i64 ((rd_T36 t503 (ji34)).f4.f2))).setCell ⟨gb517, 7, none⟩ (.int .i64 ((rd_T36 t503 (ji34)).f4.f3))) = w64 at n0_ n1_ n2_ n3_ n4_ n5_ n6_ ⊢
       have HO_5 := n0_
       have HO_7 := n1_
       have HO_503000 := n2_
       have HO_503001 := n3_
       have BK502 := n4_
       have BK517 := n5_
       have HB := n6_
       clear n0_ n1_ n2_ n3_ n4_ n5_ n6_
       replace HO_5 := am (Kd.R_drew HO_5.out)
       replace HO_7 := am (Kd.R_drew HO_7.out)
       replace HO_503000 := am (Kd.V_drew HO_503000.out)
       replace HO_503001 := am (Kd.Q_drew HO_503001.out)
       replace BK502 := am (blk_drew BK502.out)
       replace BK517 := am (blk_drew BK517.out)
       replace HB := am (below_drew1 HB.out)
       have p519 : 0 ≤ (x8_2 : Int) := ofb
       have q519 : x8_2 < (t513.length : Int) := ofb
       obtain ⟨ad519, e519, hx519_0, hx519_1, hx519_2, hx519_3, hx519_4, hx519_5, hx519_6, hx519_7⟩ := at_T36 (Kd.R_reads' HO_7.out).2.2 x8_2 p519 q519
       cases e519
       replace p519 := eq_true p519
       replace q519 := eq_true q519
       refine start_ (n := 6) (S := fun w' => w'.cell? ⟨gb517, 0, none⟩ = some (.int .i64 ((rd_T36 t503 (ji34)).f0)) ∧ w'.cell? ⟨gb517, 1, none⟩ = some (.int .i64 ((rd_T36 t503 (ji34)).f1)) ∧ w'.cell? ⟨gb517, 2, none⟩ = some (.int .i64 ((rd_T36 t503 (ji34)).f2)) ∧ w'.cell? ⟨gb517, 3, none⟩ = some (.int .i64 ((rd_T36 t503 (ji34)).f3)) ∧ w'.cell? ⟨gb517, 4, none⟩ = some (.int .i64 ((rd_T36 t503 (ji34)).f4.f0)) ∧ w'.cell? ⟨gb517, 5, none⟩ = some (.int .i64 ((rd_T36 t503 (ji34)).f4.f1)) ∧ w'.cell? ⟨gb517, 6, none⟩ = some (.int .i64 ((rd_T36 t503 (ji34)).f4.f2)) ∧ w'.cell? ⟨gb517, 7, none⟩ = some (.int .i64 ((rd_T36 t503 (ji34)).f4.f3)) ∧ w'.cell? (ad519.add ((x8_2).toNat * 8)) = some (.int .i64 ((rd_T36 t513 x8_2).f0)) ∧ w'.cell? ⟨(ad519.add ((x8_2).toNat * 8)).block, (ad519.add ((x8_2).toNat * 8)).off + 1, none⟩ = some (.int .i64 ((rd_T36 t513 x8_2).f1)) ∧ w'.cell? ⟨(ad519.add ((x8_2).toNat * 8)).block, (ad519.add ((x8_2).toNat * 8)).off + 2, none⟩ = some (.int .i64 ((rd_T36 t513 x8_2).f2)) ∧ w'.cell? ⟨(ad519.add ((x8_2).toNat * 8)).block, (ad519.add ((x8_2).toNat * 8)).off + 3, none⟩ = some (.int .i64 ((rd_T36 t513 x8_2).f3)) ∧ w'.cell? ⟨(ad519.add ((x8_2).toNat * 8)).block, (ad519.add ((x8_2).toNat * 8)).off + 4, none⟩ = some (.int .i64 ((rd_T36 t513 x8_2).f4.f0)) ∧ w'.cell? ⟨(ad519.add ((x8_2).toNat * 8)).block, (ad519.add ((x8_2).toNat * 8)).off + 5, none⟩ = some (.int .i64 ((rd_T36 t513 x8_2).f4.f1)) ∧ w'.cell? ⟨(ad519.add ((x8_2).toNat * 8)).block, (ad519.add ((x8_2).toNat * 8)).off + 6, none⟩ = some (.int .i64 ((rd_T36 t513 x8_2).f4.f2)) ∧ w'.cell? ⟨(ad519.add ((x8_2).toNat * 8)).block, (ad519.add ((x8_2).toNat * 8)).off + 7, none⟩ = some (.int .i64 ((rd_T36 t513 x8_2).f4.f3))) (ds := []) (bt 6 0) (by kernel_rfl) rfl rfl ⟨(blk_cell BK517.out 0).trans rfl, (blk_cell BK517.out 1).trans rfl, (blk_cell BK517.out 2).trans rfl, (blk_cell BK517.out 3).trans rfl, (blk_cell BK517.out 4).trans rfl, (blk_cell BK517.out 5).trans rfl, (blk_cell BK517.out 6).trans rfl, (blk_cell BK517.out 7).trans rfl, hx519_0, hx519_1, hx519_2, hx519_3, hx519_4, hx519_5, hx519_6, hx519_7⟩ (fun hHeld => ?_)
       generalize w64.drew = w65 at HO_5 HO_7 HO_503000 HO_503001 BK502 BK517 HB hx519_0 hx519_1 hx519_2 hx519_3 hx519_4 hx519_5 hx519_6 hx519_7 hHeld ⊢
       refine pi_ 1 73 (bt 6 2) rfl rfl (fun _ _ _ h => h) ?_
       refine pi_ 2 74 (bt 6 6) rfl rfl (fun _ _ _ h => h) ?_
       refine pi_ 3 75 (bt 6 14) rfl rfl (fun _ _ _ h => h) ?_
       refine pm_ 0 72 (bt 6 15) rfl rfl (by kernel_rfl) (fun _ _ _ h => h) hHeld ?_
       refine pm_ 4 76 (bt 6 31) rfl rfl (by kernel_rfl) (fun _ _ _ h => h) hHeld ?_
       refine pi_ 5 77 (bt 6 63) rfl rfl (fun _ _ _ h => h) ?_
       refine done_ (by kernel_rfl) ?_
       try go_wp2
       go_roundg k2
       case measure => have := HJ4.out; have := HK2.out; omega
       case rel => exact ⟨(ji34), (by first | rfl | (simp; done) | (simp only [← hji34] <;> (first | rfl | simp)) | (simp [*]; done)), H', ⟨by have := HJ4.out; have := HK2.out; omega⟩, ⟨pr (Kd.R_mono HO_5.out (fun _ hk => hk.1))⟩, ⟨pr (Kd.R_mono HO_7.out (fun _ hk => hk.1))⟩, ⟨pv (Kd.V_mono HO_503000.out (fun _ hk => ⟨hk.1, ⟨hk.2.1, ⟨hk.2.2.1, hk.2.2.2.1⟩⟩⟩))⟩, ⟨pq HO_503001.out⟩, ⟨pb BK502.out⟩, ⟨bg2 HB.out GE502.out GE517.out⟩⟩
     rw [if_pos c37] at H
     have c37b0 : (x8_2 == (wrap64 ((t513.length : Int) - 1))) = true := beq_iff_eq.mpr c37
     have c37b1 : (x8_2 != (wrap64 ((t513.length : Int) - 1))) = false := bne_eq_false_iff_eq.mpr c37
     clear c37
     by_cases c38 : ((rd_T36 t503 (ji34)).f4.f0) = 2
     rotate_left
     · rw [if_neg c38] at H
       have c38b0 : (((rd_T36 t503 (ji34)).f4.f0) == 2) = false := beq_eq_false_iff_ne.mpr c38
       have c38b1 : (((rd_T36 t503 (ji34)).f4.f0) != 2) = true := bne_iff_ne.mpr c38
       cases H
       exact absurd HRT.out (by decide)
     rw [if_pos c38] at H
     have c38b0 : (((rd_T36 t503 (ji34)).f4.f0) == 2) = true := beq_iff_eq.mpr c38
     have c38b1 : (((rd_T36 t503 (ji34)).f4.f0) != 2) = false := bne_eq_false_iff_eq.mpr c38
     clear c38
     obtain ⟨c39b0, H⟩ := ifd H
     by_cases c40 : (!(((rd_T36 t503 (ji34)).f0) == ((rd_T36 t513 x8_2).f0)) || (!(((rd_T36 t503 (ji34)).f1) == ((rd_T36 t513 x8_2).f1)) || (!(((rd_T36 t503 (ji34)).f2) == ((rd_T36 t513 x8_2).f2)) || (!(((rd_T36 t503 (ji34)).f3) == ((rd_T36 t513 x8_2).f3)) || ((!(1 == ((rd_T36 t513 x8_2).f4.f0)) || (!(((rd_T36 t503 (ji34)).f4.f1) == ((rd_T36 t513 x8_2).f4.f1)) || (!(((rd_T36 t503 (ji34)).f4.f2) == ((rd_T36 t513 x8_2).f4.f2)) || (!(((rd_T36 t503 (ji34)).f4.f3) == ((rd_T36 t513 x8_2).f4.f3))))))))))) = true
     · rw [if_pos c40] at H
       have c40b0 : (!(((rd_T36 t503 (ji34)).f0) == ((rd_T36 t513 x8_2).f0)) || (!(((rd_T36 t503 (ji34)).f1) == ((rd_T36 t513 x8_2).f1)) || (!(((rd_T36 t503 (ji34)).f2) == ((rd_T36 t513 x8_2).f2)) || (!(((rd_T36 t503 (ji34)).f3) == ((rd_T36 t513 x8_2).f3)) || ((!(1 == ((rd_T36 t513 x8_2).f4.f0)) || (!(((rd_T36 t503 (ji34)).f4.f1) == ((rd_T36 t513 x8_2).f4.f1)) || (!(((rd_T36 t503 (ji34)).f4.f2) == ((rd_T36 t513 x8_2).f4.f2)) || (!(((rd_T36 t503 (ji34)).f4.f3) == ((rd_T36 t513 x8_2).f4.f3))))))))))) = true := c40
       clear c40
       cases H
       exact absurd HRT.out (by decide)
     rw [if_neg c40] at H
     have c40b0 : (!(((rd_T36 t503 (ji34)).f0) == ((rd_T36 t513 x8_2).f0)) || (!(((rd_T36 t503 (ji34)).f1) == ((rd_T36 t513 x8_2).f1)) || (!(((rd_T36 t503 (ji34)).f2) == ((rd_T36 t513 x8_2).f2)) || (!(((rd_T36 t503 (ji34)).f3) == ((rd_T36 t513 x8_2).f3)) || ((!(1 == ((rd_T36 t513 x8_2).f4.f0)) || (!(((rd_T36 t503 (ji34)).f4.f1) == ((rd_T36 t513 x8_2).f4.f1)) || (!(((rd_T36 t503 (ji34)).f4.f2) == ((rd_T36 t513 x8_2).f4.f2)) || (!(((rd_T36 t503 (ji34)).f4.f3) == ((rd_T36 t513 x8_2).f4.f3))))))))))) = false := by simpa using c40
     clear c40
     have H' := am H
     clear H
     have p516 : 0 ≤ ((ji34) : Int) := ofb
     have q516 : (ji34) < (t503.length : Int) := ofb
     obtain ⟨ad516, e516, hx516_0, hx516_1, hx516_2, hx516_3, hx516_4, hx516_5, hx516_6, hx516_7⟩ := at_T36 (Kd.R_reads' HO_5.out).2.2 (ji34) p516 q516
     cases e516
     replace p516 := eq_true p516
     replace q516 := eq_true q516
     try go_wp2_with (first | ((with_reducible refine bx 9 #[.int .i64 0, .int .i64 0, .int .i64 0, .int .i64 0, .int .i64 0, .int .i64 0, .int .i64 0, .int .i64 0] 36 ?hd ?_ ?hg ?hrun); (case hd => rfl); (case hg => rfl); (case hrun => first | (go_simp; done) | (go_simp; rfl)); intro gb517 hg w46 hbox hb; replace HO_5 := am (Kd.R_below (Kd.R_elderB (pr HO_5.out) gb517 (Nat.le_of_eq hg.symm)) hb); replace HO_7 := am (Kd.R_below (Kd.R_elderB (pr HO_7.out) gb517 (Nat.le_of_eq hg.symm)) hb); replace HO_503000 := am (Kd.V_below (Kd.V_elderB (pv HO_503000.out) gb517 (Nat.le_of_eq hg.symm)) hb); replace HO_503001 := am (Kd.Q_below (pq HO_503001.out) hb); have BK517 := am (hbox); have GW517 := am (ge hg (bg1 HB.out GE502.out)); have GE517 := GW517; replace HB := am (below_step (bg1 HB.out GE502.out) hb); have NB502_517 := am (nb hg (pb BK502.out)); have NB517_502 := am (Ne.symm NB502_517.out); replace BK502 := am (blk_below (pb BK502.out) hb); clear hb hbox hg; have hnb47 := NB517_502.out; have hnc47 := NB502_517.out; obtain ⟨hcz48_0, hcz48_1, hcz48_2, hcz48_3, hcz48_4, hcz48_5, hcz48_6, hcz48_7⟩ := b8 BK517.out; obtain ⟨hfz48_0, hfz48_1, hfz48_2, hfz48_3, hfz48_4, hfz48_5, hfz48_6, hfz48_7⟩ := f8 BK517.out))
     have n0_ : Aside0 (Kd.R k36 36 (((((((((w46.setCell ⟨gb517, 0, none⟩ (.int .i64 ((rd_T36 t503 (ji34)).f0))).setCell ⟨gb517, 1, none⟩ (.int .i64 ((rd_T36 t503 (ji34)).f1))).setCell ⟨gb517, 2, none⟩ (.int .i64 ((rd_T36 t503 (ji34)).f2))).setCell ⟨gb517, 3, none⟩ (.int .i64 ((rd_T36 t503 (ji34)).f3))).setCell ⟨gb517, 4, none⟩ (.int .i64 ((rd_T36 t503 (ji34)).f4.f0))).setCell ⟨gb517, 5, none⟩ (.int .i64 ((rd_T36 t503 (ji34)).f4.f1))).setCell ⟨gb517, 6, none⟩ (.int .i64 ((rd_T36 t503 (ji34)).f4.f2))).setCell ⟨gb517, 7, none⟩ (.int .i64 ((rd_T36 t503 (ji34)).f4.f3))).setCell ⟨gb517, 4, none⟩ (.int .i64 1)) w.heap.size (fun k_ => some k_ ≠ (.slice Ao32 t513.length co32 : Value).ownBlock ∧ k_ ≠ gb517) (.slice (some ad516) t503.length co12) t503) := ⟨pr (Kd.R_mono (Kd.R_far (p := ⟨gb517, 4, none⟩) (Kd.R_far (p := ⟨gb517, 7, none⟩) (Kd.R_far (p := ⟨gb517, 6, none⟩) (Kd.R_far (p := ⟨gb517, 5, none⟩) (Kd.R_far (p := ⟨gb517, 4, none⟩) (Kd.R_far (p := ⟨gb517, 3, none⟩) (Kd.R_far (p := ⟨gb517, 2, none⟩) (Kd.R_far (p := ⟨gb517, 1, none⟩) (Kd.R_far (p := ⟨gb517, 0, none⟩) (Kd.R_mono HO_5.out (fun k_ hk => (⟨hk, hk.2⟩ : _ ∧ k_ ≠ gb517))) (fun _ hk => hk.2) (.int .i64 ((rd_T36 t503 (ji34)).f0))) (fun _ hk => hk.2) (.int .i64 ((rd_T36 t503 (ji34)).f1))) (fun _ hk => hk.2) (.int .i64 ((rd_T36 t503 (ji34)).f2))) (fun _ hk => hk.2) (.int .i64 ((rd_T36 t503 (ji34)).f3))) (fun _ hk => hk.2) (.int .i64 ((rd_T36 t503 (ji34)).f4.f0))) (fun _ hk => hk.2) (.int .i64 ((rd_T36 t503 (ji34)).f4.f1))) (fun _ hk => hk.2) (.int .i64 ((rd_T36 t503 (ji34)).f4.f2))) (fun _ hk => hk.2) (.int .i64 ((rd_T36 t503 (ji34)).f4.f3))) (fun _ hk => hk.2) (.int .i64 1)) (fun _ hk => ⟨hk.1.1, hk.1.2⟩))⟩
     have n1_ : Aside0 (Kd.R k36 36 (((((((((w46.setCell ⟨gb517, 0, none⟩ (.int .i64 ((rd_T36 t503 (ji34)).f0))).setCell ⟨gb517, 1, none⟩ (.int .i64 ((rd_T36 t503 (ji34)).f1))).setCell ⟨gb517, 2, none⟩ (.int .i64 ((rd_T36 t503 (ji34)).f2))).setCell ⟨gb517, 3, none⟩ (.int .i64 ((rd_T36 t503 (ji34)).f3))).setCell ⟨gb517, 4, none⟩ (.int .i64 ((rd_T36 t503 (ji34)).f4.f0))).setCell ⟨gb517, 5, none⟩ (.int .i64 ((rd_T36 t503 (ji34)).f4.f1))).setCell ⟨gb517, 6, none⟩ (.int .i64 ((rd_T36 t503 (ji34)).f4.f2))).setCell ⟨gb517, 7, none⟩ (.int .i64 ((rd_T36 t503 (ji34)).f4.f3))).setCell ⟨gb517, 4, none⟩ (.int .i64 1)) w.heap.size (fun k_ => some k_ ≠ (.slice (some ad516) t503.length co12 : Value).ownBlock ∧ k_ ≠ gb517) (.slice Ao32 t513.length co32) t513) := ⟨pr (Kd.R_mono (Kd.R_far (p := ⟨gb517, 4, none⟩) (Kd.R_far (p := ⟨gb517, 7, none⟩) (Kd.R_far (p := ⟨gb517, 6, none⟩) (Kd.R_far (p := ⟨gb517, 5, none⟩) (Kd.R_far (p := ⟨gb517, 4, none⟩) (Kd.R_far (p := ⟨gb517, 3, none⟩) (Kd.R_far (p := ⟨gb517, 2, none⟩) (Kd.R_far (p := ⟨gb517, 1, none⟩) (Kd.R_far (p := ⟨gb517, 0, none⟩) (Kd.R_mono HO_7.out (fun k_ hk => (⟨hk, hk.2⟩ : _ ∧ k_ ≠ gb517))) (fun _ hk => hk.2) (.int .i64 ((rd_T36 t503 (ji34)).f0))) (fun _ hk => hk.2) (.int .i64 ((rd_T36 t503 (ji34)).f1))) (fun _ hk => hk.2) (.int .i64 ((rd_T36 t503 (ji34)).f2))) (fun _ hk => hk.2) (.int .i64 ((rd_T36 t503 (ji34)).f3))) (fun _ hk => hk.2) (.int .i64 ((rd_T36 t503 (ji34)).f4.f0))) (fun _ hk => hk.2) (.int .i64 ((rd_T36 t503 (ji34)).f4.f1))) (fun _ hk => hk.2) (.int .i64 ((rd_T36 t503 (ji34)).f4.f2))) (fun _ hk => hk.2) (.int .i64 ((rd_T36 t503 (ji34)).f4.f3))) (fun _ hk => hk.2) (.int .i64 1)) (fun _ hk => ⟨hk.1.1, hk.1.2⟩))⟩
     have n2_ : Aside0 (Kd.V k72 72 (((((((((w46.setCell ⟨gb517, 0, none⟩ (.int .i64 ((rd_T36 t503 (ji34)).f0))).setCell ⟨gb517, 1, none⟩ (.int .i64 ((rd_T36 t503 (ji34)).f1))).setCell ⟨gb517, 2, none⟩ (.int .i64 ((rd_T36 t503 (ji34)).f2))).setCell ⟨gb517, 3, none⟩ (.int .i64 ((rd_T36 t503 (ji34)).f3))).setCell ⟨gb517, 4, none⟩ (.int .i64 ((rd_T36 t503 (ji34)).f4.f0))).setCell ⟨gb517, 5, none⟩ (.int .i64 ((rd_T36 t503 (ji34)).f4.f1))).setCell ⟨gb517, 6, none⟩ (.int .i64 ((rd_T36 t503 (ji34)).f4.f2))).setCell ⟨gb517, 7, none⟩ (.int .i64 ((rd_T36 t503 (ji34)).f4.f3))).setCell ⟨gb517, 4, none⟩ (.int .i64 1)) w.heap.size (fun k_ => some k_ ≠ (.slice (some ad516) t503.length co12 : Value).ownBlock ∧ some k_ ≠ (.slice Ao32 t513.length co32 : Value).ownBlock ∧ some k_ ≠ (.slice Ao10 t498.length co10 : Value).ownBlock ∧ k_ ≠ gb502 ∧ k_ ≠ gb517) (.slice Ao8 t495.length co8) t495) := ⟨pv (Kd.V_mono (Kd.V_far (p := ⟨gb517, 4, none⟩) (Kd.V_far (p := ⟨gb517, 7, none⟩) (Kd.V_far (p := ⟨gb517, 6, none⟩) (Kd.V_far (p := ⟨gb517, 5, none⟩) (Kd.V_far (p := ⟨gb517, 4, none⟩) (Kd.V_far (p := ⟨gb517, 3, none⟩) (Kd.V_far (p := ⟨gb517, 2, none⟩) (Kd.V_far (p := ⟨gb517, 1, none⟩) (Kd.V_far (p := ⟨gb517, 0, none⟩) (Kd.V_mono HO_503000.out (fun k_ hk => (⟨hk, hk.2⟩ : _ ∧ k_ ≠ gb517))) (fun _ hk => hk.2) (.int .i64 ((rd_T36 t503 (ji34)).f0))) (fun _ hk => hk.2) (.int .i64 ((rd_T36 t503 (ji34)).f1))) (fun _ hk => hk.2) (.int .i64 ((rd_T36 t503 (ji34)).f2))) (fun _ hk => hk.2) (.int .i64 ((rd_T36 t503 (ji34)).f3))) (fun _ hk => hk.2) (.int .i64 ((rd_T36 t503 (ji34)).f4.f0))) (fun _ hk => hk.2) (.int .i64 ((rd_T36 t503 (ji34)).f4.f1))) (fun _ hk => hk.2) (.int .i64 ((rd_T36 t503 (ji34)).f4.f2))) (fun _ hk => hk.2) (.int .i64 ((rd_T36 t503 (ji34)).f4.f3))) (fun _ hk => hk.2) (.int .i64 1)) (fun _ hk => ⟨hk.1.1.1, ⟨hk.1.1.2.1, ⟨hk.1.1.2.2.1, ⟨hk.1.1.2.2.2, hk.1.2⟩⟩⟩⟩))⟩
     have n3_ : Aside0 (Kd.Q (Kd.int .i64) 3 (((((((((w46.setCell ⟨gb517, 0, none⟩ (.int .i64 ((rd_T36 t503 (ji34)).f0))).setCell ⟨gb517, 1, none⟩ (.int .i64 ((rd_T36 t503 (ji34)).f1))).setCell ⟨gb517, 2, none⟩ (.int .i64 ((rd_T36 t503 (ji34)).f2))).setCell ⟨gb517, 3, none⟩ (.int .i64 ((rd_T36 t503 (ji34)).f3))).setCell ⟨gb517, 4, none⟩ (.int .i64 ((rd_T36 t503 (ji34)).f4.f0))).setCell ⟨gb517, 5, none⟩ (.int .i64 ((rd_T36 t503 (ji34)).f4.f1))).setCell ⟨gb517, 6, none⟩ (.int .i64 ((rd_T36 t503 (ji34)).f4.f2))).setCell ⟨gb517, 7, none⟩ (.int .i64 ((rd_T36 t503 (ji34)).f4.f3))).setCell ⟨gb517, 4, none⟩ (.int .i64 1)) w.heap.size (fun _ => True) (.slice Ao10 t498.length co10) t498) := ⟨pq (Kd.Q_mono (Kd.Q_far (p := ⟨gb517, 4, none⟩) (Kd.Q_far (p := ⟨gb517, 7, none⟩) (Kd.Q_far (p := ⟨gb517, 6, none⟩) (Kd.Q_far (p := ⟨gb517, 5, none⟩) (Kd.Q_far (p := ⟨gb517, 4, none⟩) (Kd.Q_far (p := ⟨gb517, 3, none⟩) (Kd.Q_far (p := ⟨gb517, 2, none⟩) (Kd.Q_far (p := ⟨gb517, 1, none⟩) (Kd.Q_far (p := ⟨gb517, 0, none⟩) (Kd.Q_types HO_503001.out BK517.out (by decide)) (fun _ hk => hk.2) (.int .i64 ((rd_T36 t503 (ji34)).f0))) (fun _ hk => hk.2) (.int .i64 ((rd_T36 t503 (ji34)).f1))) (fun _ hk => hk.2) (.int .i64 ((rd_T36 t503 (ji34)).f2))) (fun _ hk => hk.2) (.int .i64 ((rd_T36 t503 (ji34)).f3))) (fun _ hk => hk.2) (.int .i64 ((rd_T36 t503 (ji34)).f4.f0))) (fun _ hk => hk.2) (.int .i64 ((rd_T36 t503 (ji34)).f4.f1))) (fun _ hk => hk.2) (.int .i64 ((rd_T36 t503 (ji34)).f4.f2))) (fun _ hk => hk.2) (.int .i64 ((rd_T36 t503 (ji34)).f4.f3))) (fun _ hk => hk.2) (.int .i64 1)) (fun _ hk => trivial))⟩
     have n4_ : Aside0 ((((((((((w46.setCell ⟨gb517, 0, none⟩ (.int .i64 ((rd_T36 t503 (ji34)).f0))).setCell ⟨gb517, 1, none⟩ (.int .i64 ((rd_T36 t503 (ji34)).f1))).setCell ⟨gb517, 2, none⟩ (.int .i64 ((rd_T36 t503 (ji34)).f2))).setCell ⟨gb517, 3, none⟩ (.int .i64 ((rd_T36 t503 (ji34)).f3))).setCell ⟨gb517, 4, none⟩ (.int .i64 ((rd_T36 t503 (ji34)).f4.f0))).setCell ⟨gb517, 5, none⟩ (.int .i64 ((rd_T36 t503 (ji34)).f4.f1))).setCell ⟨gb517, 6, none⟩ (.int .i64 ((rd_T36 t503 (ji34)).f4.f2))).setCell ⟨gb517, 7, none⟩ (.int .i64 ((rd_T36 t503 (ji34)).f4.f3))).setCell ⟨gb517, 4, none⟩ (.int .i64 1)).heap[gb502]? = some (.cells #[.slice Ao8 t495.length co8, .slice Ao10 t498.length co10] 26 (0, 0))) := ⟨bf4 (bf5 (pb BK502.out) NB502_517.out) NB502_517.out⟩
     have n5_ : Aside0 ((((((((((w46.setCell ⟨gb517, 0, none⟩ (.int .i64 ((rd_T36 t503 (ji34)).f0))).setCell ⟨gb517, 1, none⟩ (.int .i64 ((rd_T36 t503 (ji34)).f1))).setCell ⟨gb517, 2, none⟩ (.int .i64 ((rd_T36 t503 (ji34)).f2))).setCell ⟨gb517, 3, none⟩ (.int .i64 ((rd_T36 t503 (ji34)).f3))).setCell ⟨gb517, 4, none⟩ (.int .i64 ((rd_T36 t503 (ji34)).f4.f0))).setCell ⟨gb517, 5, none⟩ (.int .i64 ((rd_T36 t503 (ji34)).f4.f1))).setCell ⟨gb517, 6, none⟩ (.int .i64 ((rd_T36 t503 (ji34)).f4.f2))).setCell ⟨gb517, 7, none⟩ (.int .i64 ((rd_T36 t503 (ji34)).f4.f3))).setCell ⟨gb517, 4, none⟩ (.int .i64 1)).heap[gb517]? = some (.cells #[.int .i64 ((rd_T36 t503 (ji34)).f0), .int .i64 ((rd_T36 t503 (ji34)).f1), .int .i64 ((rd_T36 t503 (ji34)).f2), .int .i64 ((rd_T36 t503 (ji34)).f3), .int .i64 1, .int .i64 ((rd_T36 t503 (ji34)).f4.f1), .int .i64 ((rd_T36 t503 (ji34)).f4.f2), .int .i64 ((rd_T36 t503 (ji34)).f4.f3)] 36 (0, 0))) := ⟨by (with_reducible repeat (first | refine blk_drewN ?_ _ | refine blk_drew ?_ | refine blk_alloc ?_ _)); refine blk_put (cs := #[.int .i64 ((rd_T36 t503 (ji34)).f0), .int .i64 ((rd_T36 t503 (ji34)).f1), .int .i64 ((rd_T36 t503 (ji34)).f2), .int .i64 ((rd_T36 t503 (ji34)).f3), .int .i64 ((rd_T36 t503 (ji34)).f4.f0), .int .i64 ((rd_T36 t503 (ji34)).f4.f1), .int .i64 ((rd_T36 t503 (ji34)).f4.f2), .int .i64 ((rd_T36 t503 (ji34)).f4.f3)]) ?_ 4 _ rfl; (with_reducible repeat (first | refine blk_drewN ?_ _ | refine blk_drew ?_ | refine blk_alloc ?_ _)); refine blk_put (cs := #[.int .i64 ((rd_T36 t503 (ji34)).f0), .int .i64 ((rd_T36 t503 (ji34)).f1), .int .i64 ((rd_T36 t503 (ji34)).f2), .int .i64 ((rd_T36 t503 (ji34)).f3), .int .i64 ((rd_T36 t503 (ji34)).f4.f0), .int .i64 ((rd_T36 t503 (ji34)).f4.f1), .int .i64 ((rd_T36 t503 (ji34)).f4.f2), .int .i64 0]) ?_ 7 _ rfl; (with_reducible repeat (first | refine blk_drewN ?_ _ | refine blk_drew ?_ | refine blk_alloc ?_ _)); refine blk_put (cs := #[.int .i64 ((rd_T36 t503 (ji34)).f0), .int .i64 ((rd_T36 t503 (ji34)).f1), .int .i64 ((rd_T36 t503 (ji34)).f2), .int .i64 ((rd_T36 t503 (ji34)).f3), .int .i64 ((rd_T36 t503 (ji34)).f4.f0), .int .i64 ((rd_T36 t503 (ji34)).f4.f1), .int .i64 0, .int .i64 0]) ?_ 6 _ rfl; (with_reducible repeat (first | refine blk_drewN ?_ _ | refine blk_drew ?_ | refine blk_alloc ?_ _)); refine blk_put (cs := #[.int .i64 ((rd_T36 t503 (ji34)).f0), .int .i64 ((rd_T36 t503 (ji34)).f1), .int .i64 ((rd_T36 t503 (ji34)).f2), .int .i64 ((rd_T36 t503 (ji34)).f3), .int .i64 ((rd_T36 t503 (ji34)).f4.f0), .int .i64 0, .int .i64 0, .int .i64 0]) ?_ 5 _ rfl; (with_reducible repeat (first | refine blk_drewN ?_ _ | refine blk_drew ?_ | refine blk_alloc ?_ _)); refine blk_put (cs := #[.int .i64 ((rd_T36 t503 (ji34)).f0), .int .i64 ((rd_T36 t503 (ji34)).f1), .int .i64 ((rd_T36 t503 (ji34)).f2), .int .i64 ((rd_T36 t503 (ji34)).f3), .int .i64 0, .int .i64 0, .int .i64 0, .int .i64 0]) ?_ 4 _ rfl; (with_reducible repeat (first | refine blk_drewN ?_ _ | refine blk_drew ?_ | refine blk_alloc ?_ _)); refine blk_put (cs := #[.int .i64 ((rd_T36 t503 (ji34)).f0), .int .i64 ((rd_T36 t503 (ji34)).f1), .int .i64 ((rd_T36 t503 (ji34)).f2), .int .i64 0, .int .i64 0, .int .i64 0, .int .i64 0, .int .i64 0]) ?_ 3 _ rfl; (with_reducible repeat (first | refine blk_drewN ?_ _ | refine blk_drew ?_ | refine blk_alloc ?_ _)); refine blk_put (cs := #[.int .i64 ((rd_T36 t503 (ji34)).f0), .int .i64 ((rd_T36 t503 (ji34)).f1), .int .i64 0, .int .i64 0, .int .i64 0, .int .i64 0, .int .i64 0, .int .i64 0]) ?_ 2 _ rfl; (with_reducible repeat (first | refine blk_drewN ?_ _ | refine blk_drew ?_ | refine blk_alloc ?_ _)); refine blk_put (cs := #[.int .i64 ((rd_T36 t503 (ji34)).f0), .int .i64 0, .int .i64 0, .int .i64 0, .int .i64 0, .int .i64 0, .int .i64 0, .int .i64 0]) ?_ 1 _ rfl; (with_reducible repeat (first | refine blk_drewN ?_ _ | refine blk_drew ?_ | refine blk_alloc ?_ _)); refine blk_put (cs := #[.int .i64 0, .int .i64 0, .int .i64 0, .int .i64 0, .int .i64 0, .int .i64 0, .int .i64 0, .int .i64 0]) ?_ 0 _ rfl; (with_reducible repeat (first | refine blk_drewN ?_ _ | refine blk_drew ?_ | refine blk_alloc ?_ _)); exact BK517.out⟩
     have n6_ : Aside0 (Below w.heap.size w (((((((((w46.setCell ⟨gb517, 0, none⟩ (.int .i64 ((rd_T36 t503 (ji34)).f0))).setCell ⟨gb517, 1, none⟩ (.int .i64 ((rd_T36 t503 (ji34)).f1))).setCell ⟨gb517, 2, none⟩ (.int .i64 ((rd_T36 t503 (ji34)).f2))).setCell ⟨gb517, 3, none⟩ (.int .i64 ((rd_T36 t503 (ji34)).f3))).setCell ⟨gb517, 4, none⟩ (.int .i64 ((rd_T36 t503 (ji34)).f4.f0))).setCell ⟨gb517, 5, none⟩ (.int .i64 ((rd_T36 t503 (ji34)).f4.f1))).setCell ⟨gb517, 6, none⟩ (.int .i64 ((rd_T36 t503 (ji34)).f4.f2))).setCell ⟨gb517, 7, none⟩ (.int .i64 ((rd_T36 t503 (ji34)).f4.f3))).setCell ⟨gb517, 4, none⟩ (.int .i64 1))) := ⟨bg2 HB.out GE502.out GE517.out⟩
     (try clear HO_5)
     (try clear HO_7)
     (try clear HO_503000)
     (try clear HO_503001)
     (try clear BK502)
     (try clear BK517)
     (try clear HB)
     generalize (((((((((w46.setCell ⟨gb517, 0, none⟩ (.int .i64 ((rd_T36 t503 (ji34)).f0))).setCell ⟨gb517, 1, none⟩ (.int .i64 ((rd_T36 t503 (ji34)).f1))).setCell ⟨gb517, 2, none⟩ (.int .i64 ((rd_T36 t503 (ji34)).f2))).setCell ⟨gb517, 3, none⟩ (.int .i64 ((rd_T36 t503 (ji34)).f3))).setCell ⟨gb517, 4, none⟩ (.int .i64 ((rd_T36 t503 (ji34)).f4.f0))).setCell ⟨gb517, 5, none⟩ (.int .i64 ((rd_T36 t503 (ji34)).f4.f1))).setCell ⟨gb517, 6, none⟩ (.int .i64 ((rd_T36 t503 (ji34)).f4.f2))).setCell ⟨gb517, 7, none⟩ (.int .i64 ((rd_T36 t503 (ji34)).f4.f3))).setCell ⟨gb517, 4, none⟩ (.int .i64 1)) = w49 at n0_ n1_ n2_ n3_ n4_ n5_ n6_ ⊢
     have HO_5 := n0_
     have HO_7 := n1_
     have HO_503000 := n2_
     have HO_503001 := n3_
     have BK502 := n4_
     have BK517 := n5_
     have HB := n6_
     clear n0_ n1_ n2_ n3_ n4_ n5_ n6_
     replace HO_5 := am (Kd.R_drew HO_5.out)
     replace HO_7 := am (Kd.R_drew HO_7.out)
     replace HO_503000 := am (Kd.V_drew HO_503000.out)
     replace HO_503001 := am (Kd.Q_drew HO_503001.out)
     replace BK502 := am (blk_drew BK502.out)
     replace BK517 := am (blk_drew BK517.out)
     replace HB := am (below_drew1 HB.out)
     have p518 : 0 ≤ (x8_2 : Int) := ofb
     have q518 : x8_2 < (t513.length : Int) := ofb
     obtain ⟨ad518, e518, hx518_0, hx518_1, hx518_2, hx518_3, hx518_4, hx518_5, hx518_6, hx518_7⟩ := at_T36 (Kd.R_reads' HO_7.out).2.2 x8_2 p518 q518
     cases e518
     replace p518 := eq_true p518
     replace q518 := eq_true q518
     refine start_ (n := 6) (S := fun w' => w'.cell? ⟨gb517, 0, none⟩ = some (.int .i64 ((rd_T36 t503 (ji34)).f0)) ∧ w'.cell? ⟨gb517, 1, none⟩ = some (.int .i64 ((rd_T36 t503 (ji34)).f1)) ∧ w'.cell? ⟨gb517, 2, none⟩ = some (.int .i64 ((rd_T36 t503 (ji34)).f2)) ∧ w'.cell? ⟨gb517, 3, none⟩ = some (.int .i64 ((rd_T36 t503 (ji34)).f3)) ∧ w'.cell? ⟨gb517, 4, none⟩ = some (.int .i64 1) ∧ w'.cell? ⟨gb517, 5, none⟩ = some (.int .i64 ((rd_T36 t503 (ji34)).f4.f1)) ∧ w'.cell? ⟨gb517, 6, none⟩ = some (.int .i64 ((rd_T36 t503 (ji34)).f4.f2)) ∧ w'.cell? ⟨gb517, 7, none⟩ = some (.int .i64 ((rd_T36 t503 (ji34)).f4.f3)) ∧ w'.cell? (ad518.add ((x8_2).toNat * 8)) = some (.int .i64 ((rd_T36 t513 x8_2).f0)) ∧ w'.cell? ⟨(ad518.add ((x8_2).toNat * 8)).block, (ad518.add ((x8_2).toNat * 8)).off + 1, none⟩ = some (.int .i64 ((rd_T36 t513 x8_2).f1)) ∧ w'.cell? ⟨(ad518.add ((x8_2).toNat * 8)).block, (ad518.add ((x8_2).toNat * 8)).off + 2, none⟩ = some (.int .i64 ((rd_T36 t513 x8_2).f2)) ∧ w'.cell? ⟨(ad518.add ((x8_2).toNat * 8)).block, (ad518.add ((x8_2).toNat * 8)).off + 3, none⟩ = some (.int .i64 ((rd_T36 t513 x8_2).f3)) ∧ w'.cell? ⟨(ad518.add ((x8_2).toNat * 8)).block, (ad518.add ((x8_2).toNat * 8)).off + 4, none⟩ = some (.int .i64 ((rd_T36 t513 x8_2).f4.f0)) ∧ w'.cell? ⟨(ad518.add ((x8_2).toNat * 8)).block, (ad518.add ((x8_2).toNat * 8)).off + 5, none⟩ = some (.int .i64 ((rd_T36 t513 x8_2).f4.f1)) ∧ w'.cell? ⟨(ad518.add ((x8_2).toNat * 8)).block, (ad518.add ((x8_2).toNat * 8)).off + 6, none⟩ = some (.int .i64 ((rd_T36 t513 x8_2).f4.f2)) ∧ w'.cell? ⟨(ad518.add ((x8_2).toNat * 8)).block, (ad518.add ((x8_2).toNat * 8)).off + 7, none⟩ = some (.int .i64 ((rd_T36 t513 x8_2).f4.f3))) (ds := []) (bt 6 0) (by kernel_rfl) rfl rfl ⟨(blk_cell BK517.out 0).trans rfl, (blk_cell BK517.out 1).trans rfl, (blk_cell BK517.out 2).trans rfl, (blk_cell BK517.out 3).trans rfl, (blk_cell BK517.out 4).trans rfl, (blk_cell BK517.out 5).trans rfl, (blk_cell BK517.out 6).trans rfl, (blk_cell BK517.out 7).trans rfl, hx518_0, hx518_1, hx518_2, hx518_3, hx518_4, hx518_5, hx518_6, hx518_7⟩ (fun hHeld => ?_)
     generalize w49.drew = w50 at HO_5 HO_7 HO_503000 HO_503001 BK502 BK517 HB hx518_0 hx518_1 hx518_2 hx518_3 hx518_4 hx518_5 hx518_6 hx518_7 hHeld ⊢
     refine pi_ 1 73 (bt 6 2) rfl rfl (fun _ _ _ h => h) ?_
     refine pi_ 2 74 (bt 6 6) rfl rfl (fun _ _ _ h => h) ?_
     refine pi_ 3 75 (bt 6 14) rfl rfl (fun _ _ _ h => h) ?_
     refine pm_ 0 72 (bt 6 15) rfl rfl (by kernel_rfl) (fun _ _ _ h => h) hHeld ?_
     refine pm_ 4 76 (bt 6 31) rfl rfl (by kernel_rfl) (fun _ _ _ h => h) hHeld ?_
     refine pi_ 5 77 (bt 6 63) rfl rfl (fun _ _ _ h => h) ?_
     refine done_ (by kernel_rfl) ?_
     try go_wp2
     go_roundg k2
     case measure => have := HJ4.out; have := HK2.out; omega
     case rel => exact ⟨(ji34), (by first | rfl | (simp; done) | (simp only [← hji34] <;> (first | rfl | simp)) | (simp [*]; done)), H', ⟨by have := HJ4.out; have := HK2.out; omega⟩, ⟨pr (Kd.R_mono HO_5.out (fun _ hk => hk.1))⟩, ⟨pr (Kd.R_mono HO_7.out (fun _ hk => hk.1))⟩, ⟨pv (Kd.V_mono HO_503000.out (fun _ hk => ⟨hk.1, ⟨hk.2.1, ⟨hk.2.2.1, hk.2.2.2.1⟩⟩⟩))⟩, ⟨pq HO_503001.out⟩, ⟨pb BK502.out⟩, ⟨bg2 HB.out GE502.out GE517.out⟩⟩
def laws_FnFlushFew.Pure : Prop := ∀ (l0 : List Int), l0.length ≤ maxLen → l0.length * 1 ≤ 140737488351232 → (∀ x ∈ l0, (Lit.int .u8 x).wf = true) → ∃ k, laws_FnFlushFew.f k l0 = some true
theorem laws_FnFlushFew.walk (P : laws_FnFlushFew.Pure) (a0 : Option Addr) (len0 cap0 : Nat) (z0 : List Int) (w : World) (w0 : (a0 = none ∧ len0 = 0 ∧ cap0 = 0 ∧ z0 = []) ∨ ∃ x, a0 = some x ∧ len0 ≤ cap0 ∧ cap0 ≤ maxLen ∧ z0.length = cap0 ∧ (∀ i, i < z0.length → w.cell? (x.add i) = some (.int .u8 (z0.getD i 0))) ∧ ∀ n ∈ z0, (Lit.int .u8 n).wf = true) (y0 : len0 * 1 ≤ 140737488351232) :
 Calls Try.prog 3 #[.slice a0 len0 cap0] w fun e w' => e = .returned (.bool true) ∧ Below w.heap.size w w' := by
 obtain ⟨l0, rfl, hr0, hm0, hw0, hc0⟩ := ReadsInt.ofRowC w0
 obtain ⟨k, h⟩ := P l0 hm0 y0 hw0
 refine (laws_FnFlushFew.calls k _ _ l0 true ⟨rfl⟩ w (Kd.C_of_reads (d := (0 : Int)) (h1 := fun _ => rfl) hr0) hc0 h).mono ?_
 rintro e w' ⟨rfl, hd⟩
 exact ⟨rfl, hd⟩
end Go.Proofs.Ytabdbhnjickehaa.P3
